/-
  K45 Sy39 Y1 Y2 T18 T20 T22 T23 T24 T26 T27 T28 T29 T30 T31 Y3 Y4 Y5 H6 RS H9 J28: parts of a proof, joined by program.
-/
import Derived.Test.YteinjapglfkamaaGreatXC9
import Derived.Test.YteinjapglfkamaaGreatXC8
import Derived.Test.YteinjapglfkamaaGreatXC2
import Derived.Test.YteinjapglfkamaaGreatXC10
import Derived.Test.YteinjapglfkamaaGreatXC3
import Derived.Test.YteinjapglfkamaaGreatXC7
import Derived.Test.YteinjapglfkamaaGreatXC4
import Derived.Test.YteinjapglfkamaaGreatXC5
import Derived.Test.YteinjapglfkamaaGreatRows
import Derived.ProofKit
namespace Go.Sy.YteinjapglfkamaaGreat
open Go.Proofs
attribute [local irreducible] Go.Sy.G Go.Sy.DR
set_option maxRecDepth 100000
set_option maxHeartbeats 4000000
theorem Xg {n:Net} (hb:Ac n=true) {i:Nat} (hi:i<n.ports.length):n.ports[i].link=-1∨0≤n.ports[i].link:=by
 have:=X0 hb hi
 simp only[D8,Ak,Bool.and_eq_true,Bool.or_eq_true,decide_eq_true_eq,beq_iff_eq]at this
 rcases this.2 with h1 | h1
 ·exact .inl h1
 ·exact .inr h1.1.1
theorem Aoa {n:Net} {fw:List Bool} {dom fr:Int} (h:roomB n fw dom fr=true):fr=-1∨fr=-2∨0≤fr:=by
 simp only[roomB,Bool.and_eq_true,Bool.or_eq_true,decide_eq_true_eq]at h
 rcases h.2 with (h | h) | h
 ·exact .inl h
 ·exact .inr (.inl h)
 ·exact .inr (.inr (B4 fr (inB_mem.1 h)).1)
theorem Aj9 (n:Net) (hn:n.Fin) (hm0:n.Num) (fw:List Bool) (t:List EntryM) (dom:Int) (q:QueuedM) (now:Int) (ht:TabOK t) (hq:QueuedOK q) :
  Sy.Spec Tryz.prog 189 [Aj n,.sl 1 Ab fw,.sl 3 Am t,Aa dom,Ay q,Aa now] [] (.tup [.sl 3 Am (bridgeT n fw t dom q now).1,.sl 9 Bi (bridgeT n fw t dom q now).2.1,Aa (bridgeT n fw t dom q now).2.2]) []:=cT F189 Tryz.ntmps189 fun F hF=>by
 have hres:=bridgeT.eq_1 n fw t dom q now
 generalize bridgeT n fw t dom q now=res at *
 have qf:=Yc n hn fw dom q.from_
 have qr:=Qs t ht.short ht.mac
 have htl:=ht.short
 unfold Al at htl
 conv=>whnf
 refine A0 6 8 (Aj n) E E E ?_
 refine A0 10 7 (Ay q) E E E ?_
 refine oO ?_
 cases hroom:roomB n fw dom q.from_
 ·rw[if_pos (.inl hroom)]at hres
  subst hres
  rw[floodT,if_pos hroom]at qf
  refine c0 qf F252 ?_
  (refine oT ?_;refine bT ?_)
  refine Ai 13 9 Bi E ?_
  refine Ai 12 3 Am E ?_
  exact dN
 rw[floodT,if_neg (by rw[hroom];decide)]at qf
 refine c0 qf F252 ?_
 refine oF ?_
 refine c0 qr F192 ?_
 cases htb:tableB t
 ·rw[if_pos (.inr htb)]at hres
  subst hres
  refine oT ?_
  refine Ai 13 9 Bi E ?_
  refine Ai 12 3 Am E ?_
  exact dN
 rw[if_neg (by simp[hroom,htb])]at hres
 have hfrom:=Aoa hroom
 have hlq:=learnQ.eq_1 t q now
 have hu:=Mp ht hq now
 generalize learnQ t q now=u at *
 have hbn:Ac n=true:=by
  simp only[roomB,Bool.and_eq_true]at hroom
  exact hroom.1.2
 have hpd:Ak dom n.domains.length=true:=by
  simp only[roomB,Bool.and_eq_true]at hroom
  exact hroom.1.1.1
 have hsr:=hq.frame.src
 have hpe:=hq.peer
 have hfr:=hq.from_
 have qro:=Aes n hn hm0 hbn dom hpd q.frame.dst
 generalize routerT n dom q.frame.dst=ro at *
 obtain ⟨irb,ok⟩:=ro
 dsimp only at hres qro
 have hs:=hq.frame.src
 have hd2:=hq.frame.dst
 have hfw:=Anc hu q.frame.dst
 have qd:=Aer n hn fw u dom q.from_ q.frame.dst hu.short hfw qn
 have hports:=Wm hbn fw u dom q.from_ q.frame.dst
 have hfew:=U3 hn fw u dom q.from_ q.frame.dst
 have qh:=Aor n hn hm0 irb q.frame hq.frame
 refine oF ?_
 refine Ae (Ad Γ.toTy 54 E E E E E (.lit (e:=Am) (l:=[]) E E) .sl qz (by simp;omega) (by simp;omega)) E E ?_
 refine Ap 54 E ?_
 rcases hfrom with hf | hf | hf
 ·rw[if_neg qn,if_pos hf]at hlq
  have qle:=Yd t q.frame.src (-1-q.peer) now ht.short ht.mac qn
  rw[← hlq]at qle
  refine oO ?_
  (refine⟨fun h=>False.elim (by simp at h;omega),fun _=>?_⟩;refine rg ?_;conv=>whnf)
  (refine⟨fun _=>?_,fun h=>False.elim (by simp at h;omega)⟩;refine rg ?_;conv=>whnf)
  refine iW ?_
  refine c0 qle F253 ?_
  refine oO ?_
  refine c0 qro F254 ?_
  cases ok
  rotate_left
  ·rw[if_pos rfl]at hres
   generalize hopT n irb q.frame=hp at *
   obtain ⟨to,g,e⟩:=hp
   dsimp only at hres qh
   refine oT ?_
   refine c0 qh F255 ?_
   refine oO ?_
   refine⟨fun h=>?_,fun h=>?_⟩
   ·rw[if_pos (by simpa using h)]at hres
    subst hres
    refine oO ?_
    refine Ai 13 9 Bi E ?_
    exact dN
   ·rw[if_neg (by simpa using h)]at hres
    subst hres
    refine oO ?_
    refine kW ?_
    refine U8 105 [Bi ⟨4,0,to,[],g,0⟩] E (.cons (.agg (.cons (.refl _) (.cons (.refl _) (.cons (.refl _) (.cons .nil (.cons (.refl _) (.cons (.refl _) (.cons (.refl _) (.cons (.refl _) (.cons (.refl _) .nil)))))))))) .nil) E ?_
    refine Ec 105 Bi [⟨4,0,to,[],g,0⟩] E E ?_
    refine Ap 105 E ?_
    exact dN
  rw[if_neg qy]at hres
  generalize decideT n fw u dom q.from_ q.frame.dst=dc at *
  obtain ⟨ports,peers,e0⟩:=dc
  dsimp only at hres qd hports hfew
  obtain ⟨hf1,hf2⟩:=hfew
  refine oF ?_
  refine c0 qd F256 ?_
  refine oO ?_
  refine Bo 27 1000 9 Bi E E ?_
  refine Aq ports.length (fun j=>[(3,Aa dom),(6,.ref 8 (Aj n) 0),(10,.ref 7 (Ay q) 0),(18,.sl 3 Am u),(24,.sl 1 Aa ports),(25,.sl 1 Aa peers),(27,.osl 1000),(28,Aa j)])
   (fun j=>[(1000,.row 9 Bi ((ports.take j).map (Hc n dom q.frame)))]) [] ⟨⟨rfl,rfl,rfl,rfl,rfl,rfl,rfl,rfl,rfl,rfl,rfl,rfl,rfl,rfl,rfl,rfl,trivial⟩,⟨.inl rfl,rfl,trivial⟩,rfl,rfl⟩ ?_
  intro j hj
  refine oO ?_
  refine⟨fun h=>?_,fun h=>?_⟩
  ·have hlt:j<ports.length:=qA h
   have hj0:((j:Nat):Int).toNat<ports.length:=by simpa using hlt
   obtain ⟨p,hp⟩:∃ p,ports[j]=p:=⟨_,rfl⟩
   have e1:ports[((j:Nat):Int).toNat]'hj0=p:=hp
   have hs:(ports.take (j+1)).map (Hc n dom q.frame)=(ports.take j).map (Hc n dom q.frame)++[Hc n dom q.frame p]:=by
    rw[List.take_succ_eq_append_getElem hlt,List.map_append,hp];rfl
   have hal:((ports.take j).map (Hc n dom q.frame)).length=j:=by rw[List.length_map,List.length_take];omega
   have hpi:=hports p (by rw[← hp];exact List.getElem_mem hlt)
   have hpk:p.toNat<n.ports.length:=by omega
   have ql:=Aak n hn p dom q.frame hq.frame
   have hop:Hc n dom q.frame p=Ef (Ki (if (nth n.ports p).link<0 then 1 else 2) p 0) ((leaveT n p dom q.frame).1,(leaveT n p dom q.frame).2):=rfl
   rw[hop,Ag hpk]at hs
   clear hop
   obtain ⟨acc,hacc⟩:∃ acc,(ports.take j).map (Hc n dom q.frame)=acc:=⟨_,rfl⟩
   rw[hacc]at hs hal ⊢
   have hli:=Xg hbn hpk
   obtain ⟨x,hx⟩:∃ x,n.ports[p.toNat]'hpk=x:=⟨_,rfl⟩
   rw[hx]at hs hli
   clear h
   refine oO ?_
   refine⟨E,by omega,hj0,?_⟩
   rw[e1]
   conv=>whnf
   refine cD ql F257 ?_
   refine oD ?_
   refine kW ?_
   refine⟨E,by omega,hj0,?_⟩
   rw[e1]
   conv=>whnf
   refine⟨E,by omega,hj0,?_⟩
   rw[e1]
   conv=>whnf
   refine⟨E,hpi.1,hpk,?_⟩
   rw[hx]
   conv=>whnf
   refine kW ?_
   refine⟨fun h=>?_,fun h=>?_⟩
   ·rw[if_neg (by have:¬ x.link=-1:=(by simpa using h);omega)]at hs
    refine oO ?_
    refine Ae (C7 [] [] E F258 (Ej 2 p 0 (leaveT n p dom q.frame).1 (leaveT n p dom q.frame).2) (.cons (.agg (.cons (.refl _) (.cons (.refl _) (.cons (.refl _) (.cons .nil (.cons (.refl _) (.cons (.refl _) (.cons (.refl _) (.cons .nil (.cons (.refl _) .nil)))))))))) (.cons (.refl _) (.cons (.refl _) .nil))) Y E Y E) E E ?_
    refine oO ?_
    refine Ae (Ad Γ.toTy 160 E E E E E (.row E) (.lit (e:=Bi) (l:=[Ef (Ki 2 p 0) ((leaveT n p dom q.frame).1,(leaveT n p dom q.frame).2)]) E E) qz (by simp;omega) (by simp;omega)) E E ?_
    refine oO ?_
    refine iW ?_
    exact An [(1000,160)] hlt ⟨⟨E,E,E,E,E,E,E,E,E,E,E,E,E,E,E,E,Y⟩,⟨.inl (congrArg (Ob.row 9 Bi) hs),E,Y⟩,E,E⟩
   ·rw[if_pos (by have:x.link=-1:=(by simpa using h);omega)]at hs
    refine oO ?_
    refine Ae (C7 [] [] E F258 (Ej 1 p 0 (leaveT n p dom q.frame).1 (leaveT n p dom q.frame).2) (.cons (.agg (.cons (.refl _) (.cons (.refl _) (.cons (.refl _) (.cons .nil (.cons (.refl _) (.cons (.refl _) (.cons (.refl _) (.cons .nil (.cons (.refl _) .nil)))))))))) (.cons (.refl _) (.cons (.refl _) .nil))) Y E Y E) E E ?_
    refine oO ?_
    refine Ae (Ad Γ.toTy 160 E E E E E (.row E) (.lit (e:=Bi) (l:=[Ef (Ki 1 p 0) ((leaveT n p dom q.frame).1,(leaveT n p dom q.frame).2)]) E E) qz (by simp;omega) (by simp;omega)) E E ?_
    refine oO ?_
    refine iW ?_
    exact An [(1000,160)] hlt ⟨⟨E,E,E,E,E,E,E,E,E,E,E,E,E,E,E,E,Y⟩,⟨.inl (congrArg (Ob.row 9 Bi) hs),E,Y⟩,E,E⟩
  have hjj:j=ports.length:=qB h
  subst hjj
  clear h
  rw[List.take_length]
  obtain ⟨acc0,hacc0⟩:∃ acc0,ports.map (Hc n dom q.frame)=acc0:=⟨_,rfl⟩
  have hal0:acc0.length=ports.length:=by rw[← hacc0,List.length_map]
  rw[hacc0]at hres ⊢
  refine oO ?_
  refine Aq peers.length (fun j=>[(3,Aa dom),(6,.ref 8 (Aj n) 0),(10,.ref 7 (Ay q) 0),(18,.sl 3 Am u),(25,.sl 1 Aa peers),(27,.osl 1000),(32,Aa j)])
   (fun j=>[(1000,.row 9 Bi (acc0++(peers.take j).map (Im n dom q.frame)))]) [] ⟨⟨rfl,rfl,rfl,rfl,rfl,rfl,rfl,rfl,rfl,rfl,rfl,rfl,rfl,rfl,trivial⟩,⟨.inl (congrArg (Ob.row 9 Bi) qz),rfl,trivial⟩,rfl,rfl⟩ ?_
  intro j hj
  refine oO ?_
  refine⟨fun h=>?_,fun h=>?_⟩
  ·have hlt:j<peers.length:=qA h
   have hj0:((j:Nat):Int).toNat<peers.length:=by simpa using hlt
   obtain ⟨p,hp⟩:∃ p,peers[j]=p:=⟨_,rfl⟩
   have e1:peers[((j:Nat):Int).toNat]'hj0=p:=hp
   have hs:acc0++(peers.take (j+1)).map (Im n dom q.frame)=(acc0++(peers.take j).map (Im n dom q.frame))++[Im n dom q.frame p]:=by
    rw[List.take_succ_eq_append_getElem hlt,List.map_append,hp,List.append_assoc];rfl
   have hal:(acc0++(peers.take j).map (Im n dom q.frame)).length≤ports.length+j:=by rw[List.length_append,List.length_map,List.length_take];omega
   have ql:=Um n hn hm0 dom p q.frame hq.frame
   have hop:Im n dom q.frame p=Ef (Ki 3 0 p) ((meshT n dom p q.frame).1,(meshT n dom p q.frame).2):=rfl
   rw[hop]at hs
   clear hop
   obtain ⟨acc,hacc⟩:∃ acc,acc0++(peers.take j).map (Im n dom q.frame)=acc:=⟨_,rfl⟩
   rw[hacc]at hs hal ⊢
   clear h
   refine oO ?_
   refine⟨E,by omega,hj0,?_⟩
   rw[e1]
   conv=>whnf
   refine cD ql F259 ?_
   refine oD ?_
   refine kW ?_
   refine⟨E,by omega,hj0,?_⟩
   rw[e1]
   conv=>whnf
   refine Ae (C7 [] [] E F258 (Ej 3 0 p (meshT n dom p q.frame).1 (meshT n dom p q.frame).2) (.cons (.agg (.cons (.refl _) (.cons (.refl _) (.cons (.refl _) (.cons .nil (.cons (.refl _) (.cons (.refl _) (.cons (.refl _) (.cons .nil (.cons (.refl _) .nil)))))))))) (.cons (.refl _) (.cons (.refl _) .nil))) Y E Y E) E E ?_
   refine oO ?_
   refine Ae (Ad Γ.toTy 189 E E E E E (.row E) (.lit (e:=Bi) (l:=[Ef (Ki 3 0 p) ((meshT n dom p q.frame).1,(meshT n dom p q.frame).2)]) E E) qz (by simp;omega) (by simp;omega)) E E ?_
   refine oO ?_
   refine iW ?_
   exact An [(1000,189)] hlt ⟨⟨E,E,E,E,E,E,E,E,E,E,E,E,E,E,Y⟩,⟨.inl (congrArg (Ob.row 9 Bi) hs),E,Y⟩,E,E⟩
  have hjj:j=peers.length:=qB h
  subst hjj
  clear h
  rw[List.take_length]
  subst hres
  refine oO ?_
  refine Ap 1000 E ?_
  exact dN
 ·rw[if_pos hf]at hlq
  subst hlq
  refine oO ?_
  (refine⟨fun h=>False.elim (by simp at h;omega),fun _=>?_⟩;refine rg ?_;conv=>whnf)
  (refine⟨fun h=>False.elim (by simp at h;omega),fun _=>?_⟩;refine rg ?_;conv=>whnf)
  refine c0 qro F254 ?_
  cases ok
  rotate_left
  ·rw[if_pos rfl]at hres
   generalize hopT n irb q.frame=hp at *
   obtain ⟨to,g,e⟩:=hp
   dsimp only at hres qh
   refine oT ?_
   refine c0 qh F255 ?_
   refine oO ?_
   refine⟨fun h=>?_,fun h=>?_⟩
   ·rw[if_pos (by simpa using h)]at hres
    subst hres
    refine oO ?_
    refine Ai 13 9 Bi E ?_
    exact dN
   ·rw[if_neg (by simpa using h)]at hres
    subst hres
    refine oO ?_
    refine kW ?_
    refine U8 105 [Bi ⟨4,0,to,[],g,0⟩] E (.cons (.agg (.cons (.refl _) (.cons (.refl _) (.cons (.refl _) (.cons .nil (.cons (.refl _) (.cons (.refl _) (.cons (.refl _) (.cons (.refl _) (.cons (.refl _) .nil)))))))))) .nil) E ?_
    refine Ec 105 Bi [⟨4,0,to,[],g,0⟩] E E ?_
    refine Ap 105 E ?_
    exact dN
  rw[if_neg qy]at hres
  generalize decideT n fw u dom q.from_ q.frame.dst=dc at *
  obtain ⟨ports,peers,e0⟩:=dc
  dsimp only at hres qd hports hfew
  obtain ⟨hf1,hf2⟩:=hfew
  refine oF ?_
  refine c0 qd F256 ?_
  refine oO ?_
  refine Bo 27 1000 9 Bi E E ?_
  refine Aq ports.length (fun j=>[(3,Aa dom),(6,.ref 8 (Aj n) 0),(10,.ref 7 (Ay q) 0),(18,.sl 3 Am u),(24,.sl 1 Aa ports),(25,.sl 1 Aa peers),(27,.osl 1000),(28,Aa j)])
   (fun j=>[(1000,.row 9 Bi ((ports.take j).map (Hc n dom q.frame)))]) [] ⟨⟨rfl,rfl,rfl,rfl,rfl,rfl,rfl,rfl,rfl,rfl,rfl,rfl,rfl,rfl,rfl,rfl,trivial⟩,⟨.inl rfl,rfl,trivial⟩,rfl,rfl⟩ ?_
  intro j hj
  refine oO ?_
  refine⟨fun h=>?_,fun h=>?_⟩
  ·have hlt:j<ports.length:=qA h
   have hj0:((j:Nat):Int).toNat<ports.length:=by simpa using hlt
   obtain ⟨p,hp⟩:∃ p,ports[j]=p:=⟨_,rfl⟩
   have e1:ports[((j:Nat):Int).toNat]'hj0=p:=hp
   have hs:(ports.take (j+1)).map (Hc n dom q.frame)=(ports.take j).map (Hc n dom q.frame)++[Hc n dom q.frame p]:=by
    rw[List.take_succ_eq_append_getElem hlt,List.map_append,hp];rfl
   have hal:((ports.take j).map (Hc n dom q.frame)).length=j:=by rw[List.length_map,List.length_take];omega
   have hpi:=hports p (by rw[← hp];exact List.getElem_mem hlt)
   have hpk:p.toNat<n.ports.length:=by omega
   have ql:=Aak n hn p dom q.frame hq.frame
   have hop:Hc n dom q.frame p=Ef (Ki (if (nth n.ports p).link<0 then 1 else 2) p 0) ((leaveT n p dom q.frame).1,(leaveT n p dom q.frame).2):=rfl
   rw[hop,Ag hpk]at hs
   clear hop
   obtain ⟨acc,hacc⟩:∃ acc,(ports.take j).map (Hc n dom q.frame)=acc:=⟨_,rfl⟩
   rw[hacc]at hs hal ⊢
   have hli:=Xg hbn hpk
   obtain ⟨x,hx⟩:∃ x,n.ports[p.toNat]'hpk=x:=⟨_,rfl⟩
   rw[hx]at hs hli
   clear h
   refine oO ?_
   refine⟨E,by omega,hj0,?_⟩
   rw[e1]
   conv=>whnf
   refine cD ql F257 ?_
   refine oD ?_
   refine kW ?_
   refine⟨E,by omega,hj0,?_⟩
   rw[e1]
   conv=>whnf
   refine⟨E,by omega,hj0,?_⟩
   rw[e1]
   conv=>whnf
   refine⟨E,hpi.1,hpk,?_⟩
   rw[hx]
   conv=>whnf
   refine kW ?_
   refine⟨fun h=>?_,fun h=>?_⟩
   ·rw[if_neg (by have:¬ x.link=-1:=(by simpa using h);omega)]at hs
    refine oO ?_
    refine Ae (C7 [] [] E F258 (Ej 2 p 0 (leaveT n p dom q.frame).1 (leaveT n p dom q.frame).2) (.cons (.agg (.cons (.refl _) (.cons (.refl _) (.cons (.refl _) (.cons .nil (.cons (.refl _) (.cons (.refl _) (.cons (.refl _) (.cons .nil (.cons (.refl _) .nil)))))))))) (.cons (.refl _) (.cons (.refl _) .nil))) Y E Y E) E E ?_
    refine oO ?_
    refine Ae (Ad Γ.toTy 160 E E E E E (.row E) (.lit (e:=Bi) (l:=[Ef (Ki 2 p 0) ((leaveT n p dom q.frame).1,(leaveT n p dom q.frame).2)]) E E) qz (by simp;omega) (by simp;omega)) E E ?_
    refine oO ?_
    refine iW ?_
    exact An [(1000,160)] hlt ⟨⟨E,E,E,E,E,E,E,E,E,E,E,E,E,E,E,E,Y⟩,⟨.inl (congrArg (Ob.row 9 Bi) hs),E,Y⟩,E,E⟩
   ·rw[if_pos (by have:x.link=-1:=(by simpa using h);omega)]at hs
    refine oO ?_
    refine Ae (C7 [] [] E F258 (Ej 1 p 0 (leaveT n p dom q.frame).1 (leaveT n p dom q.frame).2) (.cons (.agg (.cons (.refl _) (.cons (.refl _) (.cons (.refl _) (.cons .nil (.cons (.refl _) (.cons (.refl _) (.cons (.refl _) (.cons .nil (.cons (.refl _) .nil)))))))))) (.cons (.refl _) (.cons (.refl _) .nil))) Y E Y E) E E ?_
    refine oO ?_
    refine Ae (Ad Γ.toTy 160 E E E E E (.row E) (.lit (e:=Bi) (l:=[Ef (Ki 1 p 0) ((leaveT n p dom q.frame).1,(leaveT n p dom q.frame).2)]) E E) qz (by simp;omega) (by simp;omega)) E E ?_
    refine oO ?_
    refine iW ?_
    exact An [(1000,160)] hlt ⟨⟨E,E,E,E,E,E,E,E,E,E,E,E,E,E,E,E,Y⟩,⟨.inl (congrArg (Ob.row 9 Bi) hs),E,Y⟩,E,E⟩
  have hjj:j=ports.length:=qB h
  subst hjj
  clear h
  rw[List.take_length]
  obtain ⟨acc0,hacc0⟩:∃ acc0,ports.map (Hc n dom q.frame)=acc0:=⟨_,rfl⟩
  have hal0:acc0.length=ports.length:=by rw[← hacc0,List.length_map]
  rw[hacc0]at hres ⊢
  refine oO ?_
  refine Aq peers.length (fun j=>[(3,Aa dom),(6,.ref 8 (Aj n) 0),(10,.ref 7 (Ay q) 0),(18,.sl 3 Am u),(25,.sl 1 Aa peers),(27,.osl 1000),(32,Aa j)])
   (fun j=>[(1000,.row 9 Bi (acc0++(peers.take j).map (Im n dom q.frame)))]) [] ⟨⟨rfl,rfl,rfl,rfl,rfl,rfl,rfl,rfl,rfl,rfl,rfl,rfl,rfl,rfl,trivial⟩,⟨.inl (congrArg (Ob.row 9 Bi) qz),rfl,trivial⟩,rfl,rfl⟩ ?_
  intro j hj
  refine oO ?_
  refine⟨fun h=>?_,fun h=>?_⟩
  ·have hlt:j<peers.length:=qA h
   have hj0:((j:Nat):Int).toNat<peers.length:=by simpa using hlt
   obtain ⟨p,hp⟩:∃ p,peers[j]=p:=⟨_,rfl⟩
   have e1:peers[((j:Nat):Int).toNat]'hj0=p:=hp
   have hs:acc0++(peers.take (j+1)).map (Im n dom q.frame)=(acc0++(peers.take j).map (Im n dom q.frame))++[Im n dom q.frame p]:=by
    rw[List.take_succ_eq_append_getElem hlt,List.map_append,hp,List.append_assoc];rfl
   have hal:(acc0++(peers.take j).map (Im n dom q.frame)).length≤ports.length+j:=by rw[List.length_append,List.length_map,List.length_take];omega
   have ql:=Um n hn hm0 dom p q.frame hq.frame
   have hop:Im n dom q.frame p=Ef (Ki 3 0 p) ((meshT n dom p q.frame).1,(meshT n dom p q.frame).2):=rfl
   rw[hop]at hs
   clear hop
   obtain ⟨acc,hacc⟩:∃ acc,acc0++(peers.take j).map (Im n dom q.frame)=acc:=⟨_,rfl⟩
   rw[hacc]at hs hal ⊢
   clear h
   refine oO ?_
   refine⟨E,by omega,hj0,?_⟩
   rw[e1]
   conv=>whnf
   refine cD ql F259 ?_
   refine oD ?_
   refine kW ?_
   refine⟨E,by omega,hj0,?_⟩
   rw[e1]
   conv=>whnf
   refine Ae (C7 [] [] E F258 (Ej 3 0 p (meshT n dom p q.frame).1 (meshT n dom p q.frame).2) (.cons (.agg (.cons (.refl _) (.cons (.refl _) (.cons (.refl _) (.cons .nil (.cons (.refl _) (.cons (.refl _) (.cons (.refl _) (.cons .nil (.cons (.refl _) .nil)))))))))) (.cons (.refl _) (.cons (.refl _) .nil))) Y E Y E) E E ?_
   refine oO ?_
   refine Ae (Ad Γ.toTy 189 E E E E E (.row E) (.lit (e:=Bi) (l:=[Ef (Ki 3 0 p) ((meshT n dom p q.frame).1,(meshT n dom p q.frame).2)]) E E) qz (by simp;omega) (by simp;omega)) E E ?_
   refine oO ?_
   refine iW ?_
   exact An [(1000,189)] hlt ⟨⟨E,E,E,E,E,E,E,E,E,E,E,E,E,E,Y⟩,⟨.inl (congrArg (Ob.row 9 Bi) hs),E,Y⟩,E,E⟩
  have hjj:j=peers.length:=qB h
  subst hjj
  clear h
  rw[List.take_length]
  subst hres
  refine oO ?_
  refine Ap 1000 E ?_
  exact dN
 ·rw[if_neg qn,if_neg qn]at hlq
  have qle:=Yd t q.frame.src q.from_ now ht.short ht.mac qn
  rw[← hlq]at qle
  refine oO ?_
  (refine⟨fun _=>?_,fun h=>False.elim (by simp at h;omega)⟩;refine rg ?_;conv=>whnf)
  refine c0 qle F253 ?_
  refine oO ?_
  (refine⟨fun h=>False.elim (by simp at h;omega),fun _=>?_⟩;refine rg ?_;conv=>whnf)
  refine c0 qro F254 ?_
  cases ok
  rotate_left
  ·rw[if_pos rfl]at hres
   generalize hopT n irb q.frame=hp at *
   obtain ⟨to,g,e⟩:=hp
   dsimp only at hres qh
   refine oT ?_
   refine c0 qh F255 ?_
   refine oO ?_
   refine⟨fun h=>?_,fun h=>?_⟩
   ·rw[if_pos (by simpa using h)]at hres
    subst hres
    refine oO ?_
    refine Ai 13 9 Bi E ?_
    exact dN
   ·rw[if_neg (by simpa using h)]at hres
    subst hres
    refine oO ?_
    refine kW ?_
    refine U8 105 [Bi ⟨4,0,to,[],g,0⟩] E (.cons (.agg (.cons (.refl _) (.cons (.refl _) (.cons (.refl _) (.cons .nil (.cons (.refl _) (.cons (.refl _) (.cons (.refl _) (.cons (.refl _) (.cons (.refl _) .nil)))))))))) .nil) E ?_
    refine Ec 105 Bi [⟨4,0,to,[],g,0⟩] E E ?_
    refine Ap 105 E ?_
    exact dN
  rw[if_neg qy]at hres
  generalize decideT n fw u dom q.from_ q.frame.dst=dc at *
  obtain ⟨ports,peers,e0⟩:=dc
  dsimp only at hres qd hports hfew
  obtain ⟨hf1,hf2⟩:=hfew
  refine oF ?_
  refine c0 qd F256 ?_
  refine oO ?_
  refine Bo 27 1000 9 Bi E E ?_
  refine Aq ports.length (fun j=>[(3,Aa dom),(6,.ref 8 (Aj n) 0),(10,.ref 7 (Ay q) 0),(18,.sl 3 Am u),(24,.sl 1 Aa ports),(25,.sl 1 Aa peers),(27,.osl 1000),(28,Aa j)])
   (fun j=>[(1000,.row 9 Bi ((ports.take j).map (Hc n dom q.frame)))]) [] ⟨⟨rfl,rfl,rfl,rfl,rfl,rfl,rfl,rfl,rfl,rfl,rfl,rfl,rfl,rfl,rfl,rfl,trivial⟩,⟨.inl rfl,rfl,trivial⟩,rfl,rfl⟩ ?_
  intro j hj
  refine oO ?_
  refine⟨fun h=>?_,fun h=>?_⟩
  ·have hlt:j<ports.length:=qA h
   have hj0:((j:Nat):Int).toNat<ports.length:=by simpa using hlt
   obtain ⟨p,hp⟩:∃ p,ports[j]=p:=⟨_,rfl⟩
   have e1:ports[((j:Nat):Int).toNat]'hj0=p:=hp
   have hs:(ports.take (j+1)).map (Hc n dom q.frame)=(ports.take j).map (Hc n dom q.frame)++[Hc n dom q.frame p]:=by
    rw[List.take_succ_eq_append_getElem hlt,List.map_append,hp];rfl
   have hal:((ports.take j).map (Hc n dom q.frame)).length=j:=by rw[List.length_map,List.length_take];omega
   have hpi:=hports p (by rw[← hp];exact List.getElem_mem hlt)
   have hpk:p.toNat<n.ports.length:=by omega
   have ql:=Aak n hn p dom q.frame hq.frame
   have hop:Hc n dom q.frame p=Ef (Ki (if (nth n.ports p).link<0 then 1 else 2) p 0) ((leaveT n p dom q.frame).1,(leaveT n p dom q.frame).2):=rfl
   rw[hop,Ag hpk]at hs
   clear hop
   obtain ⟨acc,hacc⟩:∃ acc,(ports.take j).map (Hc n dom q.frame)=acc:=⟨_,rfl⟩
   rw[hacc]at hs hal ⊢
   have hli:=Xg hbn hpk
   obtain ⟨x,hx⟩:∃ x,n.ports[p.toNat]'hpk=x:=⟨_,rfl⟩
   rw[hx]at hs hli
   clear h
   refine oO ?_
   refine⟨E,by omega,hj0,?_⟩
   rw[e1]
   conv=>whnf
   refine cD ql F257 ?_
   refine oD ?_
   refine kW ?_
   refine⟨E,by omega,hj0,?_⟩
   rw[e1]
   conv=>whnf
   refine⟨E,by omega,hj0,?_⟩
   rw[e1]
   conv=>whnf
   refine⟨E,hpi.1,hpk,?_⟩
   rw[hx]
   conv=>whnf
   refine kW ?_
   refine⟨fun h=>?_,fun h=>?_⟩
   ·rw[if_neg (by have:¬ x.link=-1:=(by simpa using h);omega)]at hs
    refine oO ?_
    refine Ae (C7 [] [] E F258 (Ej 2 p 0 (leaveT n p dom q.frame).1 (leaveT n p dom q.frame).2) (.cons (.agg (.cons (.refl _) (.cons (.refl _) (.cons (.refl _) (.cons .nil (.cons (.refl _) (.cons (.refl _) (.cons (.refl _) (.cons .nil (.cons (.refl _) .nil)))))))))) (.cons (.refl _) (.cons (.refl _) .nil))) Y E Y E) E E ?_
    refine oO ?_
    refine Ae (Ad Γ.toTy 160 E E E E E (.row E) (.lit (e:=Bi) (l:=[Ef (Ki 2 p 0) ((leaveT n p dom q.frame).1,(leaveT n p dom q.frame).2)]) E E) qz (by simp;omega) (by simp;omega)) E E ?_
    refine oO ?_
    refine iW ?_
    exact An [(1000,160)] hlt ⟨⟨E,E,E,E,E,E,E,E,E,E,E,E,E,E,E,E,Y⟩,⟨.inl (congrArg (Ob.row 9 Bi) hs),E,Y⟩,E,E⟩
   ·rw[if_pos (by have:x.link=-1:=(by simpa using h);omega)]at hs
    refine oO ?_
    refine Ae (C7 [] [] E F258 (Ej 1 p 0 (leaveT n p dom q.frame).1 (leaveT n p dom q.frame).2) (.cons (.agg (.cons (.refl _) (.cons (.refl _) (.cons (.refl _) (.cons .nil (.cons (.refl _) (.cons (.refl _) (.cons (.refl _) (.cons .nil (.cons (.refl _) .nil)))))))))) (.cons (.refl _) (.cons (.refl _) .nil))) Y E Y E) E E ?_
    refine oO ?_
    refine Ae (Ad Γ.toTy 160 E E E E E (.row E) (.lit (e:=Bi) (l:=[Ef (Ki 1 p 0) ((leaveT n p dom q.frame).1,(leaveT n p dom q.frame).2)]) E E) qz (by simp;omega) (by simp;omega)) E E ?_
    refine oO ?_
    refine iW ?_
    exact An [(1000,160)] hlt ⟨⟨E,E,E,E,E,E,E,E,E,E,E,E,E,E,E,E,Y⟩,⟨.inl (congrArg (Ob.row 9 Bi) hs),E,Y⟩,E,E⟩
  have hjj:j=ports.length:=qB h
  subst hjj
  clear h
  rw[List.take_length]
  obtain ⟨acc0,hacc0⟩:∃ acc0,ports.map (Hc n dom q.frame)=acc0:=⟨_,rfl⟩
  have hal0:acc0.length=ports.length:=by rw[← hacc0,List.length_map]
  rw[hacc0]at hres ⊢
  refine oO ?_
  refine Aq peers.length (fun j=>[(3,Aa dom),(6,.ref 8 (Aj n) 0),(10,.ref 7 (Ay q) 0),(18,.sl 3 Am u),(25,.sl 1 Aa peers),(27,.osl 1000),(32,Aa j)])
   (fun j=>[(1000,.row 9 Bi (acc0++(peers.take j).map (Im n dom q.frame)))]) [] ⟨⟨rfl,rfl,rfl,rfl,rfl,rfl,rfl,rfl,rfl,rfl,rfl,rfl,rfl,rfl,trivial⟩,⟨.inl (congrArg (Ob.row 9 Bi) qz),rfl,trivial⟩,rfl,rfl⟩ ?_
  intro j hj
  refine oO ?_
  refine⟨fun h=>?_,fun h=>?_⟩
  ·have hlt:j<peers.length:=qA h
   have hj0:((j:Nat):Int).toNat<peers.length:=by simpa using hlt
   obtain ⟨p,hp⟩:∃ p,peers[j]=p:=⟨_,rfl⟩
   have e1:peers[((j:Nat):Int).toNat]'hj0=p:=hp
   have hs:acc0++(peers.take (j+1)).map (Im n dom q.frame)=(acc0++(peers.take j).map (Im n dom q.frame))++[Im n dom q.frame p]:=by
    rw[List.take_succ_eq_append_getElem hlt,List.map_append,hp,List.append_assoc];rfl
   have hal:(acc0++(peers.take j).map (Im n dom q.frame)).length≤ports.length+j:=by rw[List.length_append,List.length_map,List.length_take];omega
   have ql:=Um n hn hm0 dom p q.frame hq.frame
   have hop:Im n dom q.frame p=Ef (Ki 3 0 p) ((meshT n dom p q.frame).1,(meshT n dom p q.frame).2):=rfl
   rw[hop]at hs
   clear hop
   obtain ⟨acc,hacc⟩:∃ acc,acc0++(peers.take j).map (Im n dom q.frame)=acc:=⟨_,rfl⟩
   rw[hacc]at hs hal ⊢
   clear h
   refine oO ?_
   refine⟨E,by omega,hj0,?_⟩
   rw[e1]
   conv=>whnf
   refine cD ql F259 ?_
   refine oD ?_
   refine kW ?_
   refine⟨E,by omega,hj0,?_⟩
   rw[e1]
   conv=>whnf
   refine Ae (C7 [] [] E F258 (Ej 3 0 p (meshT n dom p q.frame).1 (meshT n dom p q.frame).2) (.cons (.agg (.cons (.refl _) (.cons (.refl _) (.cons (.refl _) (.cons .nil (.cons (.refl _) (.cons (.refl _) (.cons (.refl _) (.cons .nil (.cons (.refl _) .nil)))))))))) (.cons (.refl _) (.cons (.refl _) .nil))) Y E Y E) E E ?_
   refine oO ?_
   refine Ae (Ad Γ.toTy 189 E E E E E (.row E) (.lit (e:=Bi) (l:=[Ef (Ki 3 0 p) ((meshT n dom p q.frame).1,(meshT n dom p q.frame).2)]) E E) qz (by simp;omega) (by simp;omega)) E E ?_
   refine oO ?_
   refine iW ?_
   exact An [(1000,189)] hlt ⟨⟨E,E,E,E,E,E,E,E,E,E,E,E,E,E,Y⟩,⟨.inl (congrArg (Ob.row 9 Bi) hs),E,Y⟩,E,E⟩
  have hjj:j=peers.length:=qB h
  subst hjj
  clear h
  rw[List.take_length]
  subst hres
  refine oO ?_
  refine Ap 1000 E ?_
  exact dN
end Go.Sy.YteinjapglfkamaaGreat
namespace Go.Sy
theorem Mf:∀ (l:List SV) (off:Nat) (z:SV),setAt l off [z]=l.set off z
 | [],0,_=>rfl
 | [],_+1,_=>rfl
 | _::l,0,z=>by
  show z::setAt l 0 []=z::l
  cases l<;>rfl
 | x::l,n+1,z=>by
  show x::setAt l n [z]=x::l.set n z
  rw[Mf l n z]
theorem Zj {b:Bool} {A B:Prop} (h:A):b=true→(match b with | true=>A | false=>B):=by
 intro hb
 subst hb
 exact h
theorem Amw {o:Option SV} {y:SV} {f:SV→Prop} {B:Prop} (h:f y):o=some y→(match o with | some y=>f y | none=>B):=by
 intro hb
 subst hb
 exact h
theorem Anb {l l':List SV} {K:List SV→Prop} (h:l=l') (hk:fl l' K):fl l K:=by
 rw[h];exact hk
end Go.Sy
namespace Go.Sy.YteinjapglfkamaaGreat
open Go.Proofs
attribute [local irreducible] Go.Sy.G Go.Sy.DR
set_option maxRecDepth 100000
set_option maxHeartbeats 4000000
def J0 (n:Net) (up:List Bool) (now inj:Int) (d:Nat→Int):List SV :=
 [.sl 5 Bn n.devices,.sl 7 A7 n.ports,.sl 3 Cp n.links,.sl 6 Au n.domains,.sl 4 Bk n.statics,.sl 4 B1 n.floods,.sl 5 C3 n.vrfs,.sl 5 Cr n.irbs,.sl 1 Ab up,.osl 902,.osl 903,.val (.int .i64 now),.val (.int .i64 inj),
 .val (.int .i64 (d 0)),.val (.int .i64 (d 1)),.val (.int .i64 (d 2)),.val (.int .i64 (d 3)),.val (.int .i64 (d 4)),.val (.int .i64 (d 5)),.val (.int .i64 (d 6)),.val (.int .i64 (d 7)),.val (.int .i64 (d 8)),.val (.int .i64 (d 9)),.val (.int .i64 (d 10)),.val (.int .i64 (d 11)),.val (.int .i64 (d 12)),.val (.int .i64 (d 13)),.val (.int .i64 (d 14)),.val (.int .i64 (d 15)),.val (.int .i64 (d 16)),.val (.int .i64 (d 17)),.val (.int .i64 (d 18)),.val (.int .i64 (d 19)),.val (.int .i64 (d 20)),.val (.int .i64 (d 21)),.val (.int .i64 (d 22)),.val (.int .i64 (d 23)),.val (.int .i64 (d 24)),.val (.int .i64 (d 25)),.val (.int .i64 (d 26)),.val (.int .i64 (d 27)),.val (.int .i64 (d 28)),.val (.int .i64 (d 29)),.val (.int .i64 (d 30)),.val (.int .i64 (d 31)),.val (.int .i64 (d 32)),.val (.int .i64 (d 33)),.val (.int .i64 (d 34)),.val (.int .i64 (d 35)),.val (.int .i64 (d 36)),.val (.int .i64 (d 37)),.val (.int .i64 (d 38)),.val (.int .i64 (d 39)),.val (.int .i64 (d 40)),.val (.int .i64 (d 41)),.val (.int .i64 (d 42)),.val (.int .i64 (d 43)),.val (.int .i64 (d 44)),.val (.int .i64 (d 45)),.val (.int .i64 (d 46)),.val (.int .i64 (d 47)),.val (.int .i64 (d 48)),.val (.int .i64 (d 49)),.val (.int .i64 (d 50)),.val (.int .i64 (d 51)),.val (.int .i64 (d 52)),.val (.int .i64 (d 53)),.val (.int .i64 (d 54)),.val (.int .i64 (d 55)),.val (.int .i64 (d 56)),.val (.int .i64 (d 57)),.val (.int .i64 (d 58)),.val (.int .i64 (d 59)),.val (.int .i64 (d 60)),.val (.int .i64 (d 61)),.val (.int .i64 (d 62)),.val (.int .i64 (d 63))]
def Ed (n:Net) (m:MacM):Obs:=[(0,.box (J0 n m.up m.now m.injected m.drops)),(902,.row 1 Id m.tables),(903,.row 1 I8 m.queues)]
theorem U1 (n:Net) (up:List Bool) (now inj:Int) (d:Nat→Int):J0 n up now inj d =
  .sl 5 Bn n.devices::.sl 7 A7 n.ports::.sl 3 Cp n.links::.sl 6 Au n.domains::.sl 4 Bk n.statics::.sl 4 B1 n.floods::.sl 5 C3 n.vrfs::.sl 5 Cr n.irbs::.sl 1 Ab up::.osl 902::.osl 903::.val (.int .i64 now)::.val (.int .i64 inj) ::
   (List.range' 0 64).map (fun i=>.val (.int .i64 (d i))):=rfl
theorem Jz (n:Net) (up:List Bool) (now inj:Int) (d:Nat→Int) (e:Nat) (he:e<64):Eo (J0 n up now inj d) (0+13+e * 1)=some (.val (.int .i64 (d e))):=by
 rw[U1,show 0+13+e * 1=e+13 by omega]
 show Eo ((List.range' 0 64).map (fun i=>SV.val (.int .i64 (d i)))) e=_
 rw[getI_map _ e 0 64 he,Nat.zero_add]
theorem Ass (n:Net) (up:List Bool) (now inj:Int) (d:Nat→Int) (e:Nat) (v:Int):(J0 n up now inj d).set (0+13+e * 1) (.val (.int .i64 v))=J0 n up now inj (fun i=>if i=e then v else d i):=by
 rw[U1,U1,show 0+13+e * 1=e+13 by omega]
 have h:=Aem (fun i=>SV.val (.int .i64 (d i))) (.val (.int .i64 v)) e 0 64
 have h2:(fun i=>if i=0+e then SV.val (.int .i64 v) else SV.val (.int .i64 (d i)))=(fun i=>SV.val (.int .i64 (if i=e then v else d i))):=by
  funext i
  rw[Nat.zero_add]
  split<;>rfl
 rw[h2]at h
 rw[← h]
 rfl
theorem Mw (n:Net) (m:MacM) (e:Int):J0 n m.up m.now m.injected (Bf m e).drops=(J0 n m.up m.now m.injected m.drops).set (0+13+e.toNat * 1) (.val (.int .i64 (m.drops e.toNat+1))):=by
 rw[Ass]
 congr 1
 funext i
 show (if i=e.toNat then m.drops i+1 else m.drops i)=_
 split
 ·rename_i h;rw[h]
 ·rfl
theorem Aq4 {α:Type} (l:List α) (i:Nat) (h:i<l.length):l.set i l[i]=l:=by
 simp
theorem Wk (n:Net) (m:MacM) (dom:Int) (q:QueuedM) (e:Int) (he:0≤e∧e<64) (hd:e=0→0≤dom∧dom.toNat<m.queues.length) (hb:H4 m) (hl:Es (queueL m dom)) (hq:QueuedOK q) :
  Sy.Spec Tryz.prog 127 [.ptr 0 0,Aa dom,Ay q,Aa e] (Ed n m) (.tup []) (Ed n (comeM m dom q e)):=cT F127 Tryz.ntmps127 fun F hF=>by
 have hqb:=Iu hl
 have hp:=Aj8 (queueL m dom) q hqb.1
 have hres:=comeM.eq_1 m dom q e
 generalize comeM m dom q e=res at *
 have hbe:=hb e.toNat
 have hb3:=hb 3
 have hg:H8 ⟨.int .i64,1,[.int .i64 0]⟩ (J0 n m.up m.now m.injected m.drops) (0+13+e.toNat * 1)=_:=Jz n m.up m.now m.injected m.drops e.toNat qn
 have hgl:=Lt (Jz n m.up m.now m.injected m.drops e.toNat qn)
 have hst:=Mw n m e
 have hst2:setAt (J0 n m.up m.now m.injected m.drops) (0+13+e.toNat * 1) [.val (.int .i64 (m.drops e.toNat+1))]=J0 n m.up m.now m.injected (Bf m e).drops:=by rw[hst,Mf]
 have hble:Nat.ble (0+13+e.toNat * 1+1) (J0 n m.up m.now m.injected m.drops).length=true:=Nat.ble_eq_true_of_le hgl
 conv=>whnf
 refine⟨fun h=>?_,fun h=>?_⟩
 ·rw[if_pos (by simpa using h)]at hres
  subst hres
  refine oO ?_
  refine⟨he.1,by omega,?_⟩
  conv=>whnf
  rw[hg]
  conv=>whnf
  refine iW ?_
  refine⟨he.1,by omega,?_⟩
  conv=>whnf
  refine Zj (Anb hst2 ?_) hble
  conv=>whnf
  refine kW ?_
  exact done E .nil [] (Ed n (Bf m e)) (fun _ h=>h) E E ⟨Y,⟨.inl E,E,.inl E,E,.inl E,E,Y⟩,E,E⟩
 have h0:e=0:=by simpa using h
 have hd:=hd h0
 rw[if_neg (by rw[h0];decide)]at hres
 clear h hqb hl he
 have hq0:=queueL.eq_1 m dom
 have hq1:(pushT (queueL m dom) q).2=false→(pushT (queueL m dom) q).1=queueL m dom:=fun h=>by
  unfold pushT at h ⊢
  split at h
  ·rw[if_pos (by assumption)]
  ·cases h
 rw[Lu hd.2]at hq0
 generalize queueL m dom=l at *
 generalize pushT l q=r at *
 obtain ⟨l2,ok⟩:=r
 subst hq0
 refine oO ?_
 refine⟨hd.1,hd.2,?_⟩
 conv=>whnf
 refine⟨E,hd.2,?_⟩
 conv=>whnf
 refine cD hp F188 ?_
 refine oD ?_
 refine kW ?_
 cases ok
 ·rw[if_neg qz]at hres
  subst hres
  have hl2:l2=m.queues[dom.toNat]:=hq1 rfl
  (refine⟨fun _=>?_,fun h=>False.elim (by simp at h)⟩;refine rg ?_;conv=>whnf)
  refine⟨by decide,by decide,?_⟩
  conv=>whnf
  refine iW ?_
  refine⟨by decide,by decide,?_⟩
  conv=>whnf
  refine kW ?_
  refine⟨hd.1,hd.2,?_⟩
  conv=>whnf
  refine⟨E,hd.2,l2,E,E,?_⟩
  conv=>whnf
  have hss:m.queues.set dom.toNat l2=m.queues:=by rw[hl2];exact Aq4 _ _ hd.2
  exact Bg E .nil [] (Ed n (Bf m 3)) (fun _ h=>h) E E ⟨Y,⟨.inl (congrArg Ob.box (Mw n m 3)),E,.inl E,E,.inl (congrArg (Ob.row 1 I8) hss.symm),E,Y⟩,E,E⟩
 ·rw[if_pos rfl]at hres
  subst hres
  (refine⟨fun h=>False.elim (by simp at h),fun _=>?_⟩;refine rg ?_;conv=>whnf)
  refine⟨hd.1,hd.2,?_⟩
  conv=>whnf
  refine⟨E,hd.2,l2,E,E,?_⟩
  conv=>whnf
  exact Bg E .nil [] (Ed n (Ags m dom l2)) (fun _ h=>h) E E ⟨Y,⟨.inl E,E,.inl E,E,.inl E,E,Y⟩,E,E⟩
theorem Aix (n:Net) (m:MacM) (x:StepM) (hl:Es (queueL m x.domain)) :
  Sy.Spec Tryz.prog 129 [.ptr 0 0,Bw x] (Ed n m) (.tup [Ay (takeM m x.domain x.at_).2.1,Ab (takeM m x.domain x.at_).2.2]) (Ed n (takeM m x.domain x.at_).1):=cT F129 Tryz.ntmps129 fun F hF=>by
 have hqb:=Iu hl
 have hp:=Aj7 (queueL m x.domain) x.at_ hqb.1
 have h1:=A1 x.domain m.queues.length
 have hpl:=placeB_iff (d:=x.domain) (k:=m.queues.length)
 have hres:=takeM.eq_1 m x.domain x.at_
 generalize takeM m x.domain x.at_=res at *
 generalize Ak x.domain m.queues.length=b at *
 have hq0:=queueL.eq_1 m x.domain
 clear hl hqb
 generalize queueL m x.domain=l at *
 generalize takeT l x.at_=r at *
 obtain ⟨q,l2,ok⟩:=r
 conv=>whnf
 refine cD h1 F46 ?_
 cases b
 ·rw[if_pos rfl]at hres
  subst hres
  refine oD ?_
  refine⟨qq,?_⟩
  ((conv=>whnf);refine aT ?_;refine rg ?_;conv=>whnf)
  (skip)
  refine Ar 4 [Aa 0,Aa 0,Aa 0,Aw 0,Aw 0,Aa 0,.sl 1 Af []] E (.cons (.refl _) (.cons (.refl _) (.cons (.refl _) (.cons (.refl _) (.cons (.refl _) (.cons (.refl _) (.cons .nil .nil))))))) ?_
  exact done E (.cons (.cell E E E E) (.cons .tmp .nil)) [] (Ed n m) (fun _ h=>h) E E ⟨Y,⟨.inl E,E,.inl E,E,.inl E,E,Y⟩,E,E⟩
 have hd:=hpl.1 rfl
 rw[Lu hd.2]at hq0
 subst hq0
 rw[if_neg qz]at hres
 subst hres
 refine oD ?_
 refine⟨qq,?_⟩
 ((conv=>whnf);refine aF ?_;refine rg ?_;conv=>whnf)
 (skip)
 refine⟨hd.1,hd.2,?_⟩
 conv=>whnf
 refine⟨E,hd.2,?_⟩
 conv=>whnf
 refine cD hp F191 ?_
 refine oD ?_
 refine kW ?_
 refine⟨hd.1,hd.2,?_⟩
 conv=>whnf
 refine⟨E,hd.2,l2,E,E,?_⟩
 conv=>whnf
 refine kW ?_
 exact done E (.cons (.cell E E E E) (.cons .tmp .nil)) [] (Ed n (Ags m x.domain l2)) (fun _ h=>h) E E ⟨Y,⟨.inl E,E,.inl E,E,.inl E,E,Y⟩,E,E⟩
theorem Afu (n:Net) (hn:n.Fin) (hm1:n.Num) (m:MacM) (J D:Int) (hm0:MacOK n m J D) (hD:D≤1000000000000) (o:OutM) (ho:OutOK n o) (origin:Int) :
  Sy.Spec Tryz.prog 190 [.ptr 0 0,Bi o,Aa origin] (Ed n m) (.sl 3 B3 (goesM n m o origin).2) (Ed n (goesM n m o origin).1):=cT F190 Tryz.ntmps190 fun F hF=>by
 have hres:=goesM.eq_1 n m o origin
 generalize goesM n m o origin=res at *
 have hdr:H4 m:=fun i=>⟨(hm0.drp i).1,by have:=(hm0.drp i).2;omega⟩
 have hbl:o.bytes.length<100000:=by have:=ho.bytes;omega
 have hin:∀ {x:Int},DomIn n x→0≤x∧x.toNat<m.queues.length:=fun h=>by rw[hm0.ques];exact h
 conv=>whnf
 refine⟨fun h=>?_,fun h=>?_⟩
 ·have h1:o.kind=1:=by simpa using h
  rw[if_pos h1]at hres
  subst hres
  refine oO ?_
  refine Ec 25 B3 [⟨o.port,origin,o.bytes⟩] E E ?_
  refine Ap 25 E ?_
  exact done E (.cons .tmp .nil) [] (Ed n m) (fun _ h=>h) E E ⟨Y,⟨.inl E,E,.inl E,E,.inl E,E,Y⟩,E,E⟩
 have h1:¬ o.kind=1:=by simpa using h
 rw[if_neg h1]at hres
 clear h
 refine oO ?_
 refine⟨fun h=>?_,fun h=>?_⟩
 ·have h2:o.kind=2:=by simpa using h
  rw[if_pos h2]at hres
  have q1:=Akb n hn o.port o.bytes hbl
  have he:=Adi n o.port o.bytes
  have hd:=fun h=>hin (Adj (n:=n) (port:=o.port) (b:=o.bytes) h)
  have hf:=Aa5 n o.port o.bytes
  have ht:=Aa4 hn o.port o.bytes
  generalize linkT n o.port o.bytes=r at *
  have q2:=Wk n m r.2.1 ⟨r.1,0,origin,r.2.2.1⟩ r.2.2.2 he hd hdr (Cn hm0 _) (Dv hf _ qn qy)
  subst hres
  refine oO ?_
  refine cD q1 F260 ?_
  refine oD ?_
  refine kW ?_
  refine Ae (Ah [] E F127 q2 E ⟨E,E,E,Y⟩ E ⟨.inl E,.inl E,.inl E,Y⟩) E E ?_
  refine oO ?_
  refine Ai 6 3 B3 E ?_
  exact done E (.cons .tmp .nil) [] (Ed n (comeM _ _ _ _)) (fun _ h=>h) E E ⟨Y,⟨.inl E,E,.inl E,E,.inl E,E,Y⟩,E,E⟩
 have h2:¬ o.kind=2:=by simpa using h
 rw[if_neg h2]at hres
 clear h
 refine oO ?_
 refine⟨fun h=>?_,fun h=>?_⟩
 ·have h2:o.kind=3:=by simpa using h
  rw[if_pos h2]at hres
  have q1:=Akd n hn o.bytes hbl
  have he:=Ad4 n o.bytes
  have hd:=fun h=>hin (X3 (n:=n) (b:=o.bytes) h).2
  have hf:=Ab2 n o.bytes
  have ht:=U6 hn o.bytes
  generalize comeT n o.bytes=r at *
  have q2:=Wk n m r.2.1 ⟨-1,r.1,origin,r.2.2.1⟩ r.2.2.2 he hd hdr (Cn hm0 _) (Dv hf _ qy ht)
  subst hres
  refine oO ?_
  refine cD q1 F261 ?_
  refine oD ?_
  refine kW ?_
  refine Ae (Ah [] E F127 q2 E ⟨E,E,E,Y⟩ E ⟨.inl E,.inl E,.inl E,Y⟩) E E ?_
  refine oO ?_
  refine Ai 6 3 B3 E ?_
  exact done E (.cons .tmp .nil) [] (Ed n (comeM _ _ _ _)) (fun _ h=>h) E E ⟨Y,⟨.inl E,E,.inl E,E,.inl E,E,Y⟩,E,E⟩
 have h3:¬ o.kind=3:=by simpa using h
 rw[if_neg h3]at hres
 clear h
 refine oO ?_
 refine⟨fun h=>?_,fun h=>?_⟩
 ·have h4:o.kind=4:=by simpa using h
  rw[if_pos h4]at hres
  have hf:=ho.frame h4
  have q2:=Wk n m o.domain ⟨-2,0,origin,o.frame⟩ 0 qy (fun _=>hin hf.2) hdr (Cn hm0 _) (Dv hf.1 _ qy qy)
  subst hres
  refine oO ?_
  refine Ae (Ah [] E F127 q2 E ⟨E,E,E,Y⟩ E ⟨.inl E,.inl E,.inl E,Y⟩) E E ?_
  refine oO ?_
  refine Ai 6 3 B3 E ?_
  exact done E (.cons .tmp .nil) [] (Ed n (comeM _ _ _ _)) (fun _ h=>h) E E ⟨Y,⟨.inl E,E,.inl E,E,.inl E,E,Y⟩,E,E⟩
 have h4:¬ o.kind=4:=by simpa using h
 rw[if_neg h4]at hres
 have h5:o.kind=5:=by have:=ho.kind;omega
 have he:=ho.err h5
 obtain ⟨e,hee⟩:∃ e,o.error=e:=⟨_,rfl⟩
 rw[hee]at he hres
 have hbe:=hdr e.toNat
 have hg:H8 ⟨.int .i64,1,[.int .i64 0]⟩ (J0 n m.up m.now m.injected m.drops) (0+13+e.toNat * 1)=_:=Jz n m.up m.now m.injected m.drops e.toNat (by have:=he.2;omega)
 have hgl:=Lt (Jz n m.up m.now m.injected m.drops e.toNat (by have:=he.2;omega))
 have hst2:setAt (J0 n m.up m.now m.injected m.drops) (0+13+e.toNat * 1) [.val (.int .i64 (m.drops e.toNat+1))]=J0 n m.up m.now m.injected (Bf m e).drops:=by rw[Mw n m e,Mf]
 have hble:Nat.ble (0+13+e.toNat * 1+1) (J0 n m.up m.now m.injected m.drops).length=true:=Nat.ble_eq_true_of_le hgl
 subst hres
 clear h
 refine oO ?_
 refine⟨fun _=>?_,fun h=>absurd h5 (by simpa using h)⟩
 rw[hee]
 refine oO ?_
 refine⟨he.1,by have:=he.2;omega,?_⟩
 conv=>whnf
 rw[hg]
 conv=>whnf
 refine iW ?_
 refine⟨he.1,by have:=he.2;omega,?_⟩
 conv=>whnf
 refine Zj (Anb hst2 ?_) hble
 conv=>whnf
 refine kW ?_
 refine Ai 6 3 B3 E ?_
 exact done E (.cons .tmp .nil) [] (Ed n (Bf m e)) (fun _ h=>h) E E ⟨Y,⟨.inl E,E,.inl E,E,.inl E,E,Y⟩,E,E⟩
end Go.Sy.YteinjapglfkamaaGreat
namespace Go.Sy.YteinjapglfkamaaGreat
section
variable {n:Net} {up:List Bool} {ranks roots costs:List Int}
end
end Go.Sy.YteinjapglfkamaaGreat
namespace Go.Sy.YteinjapglfkamaaGreat
open Go.Proofs
attribute [local irreducible] Go.Sy.G Go.Sy.DR
set_option maxRecDepth 100000
set_option maxHeartbeats 4000000
theorem Aob {n:Net} {up:List Bool} (h:okB n up=true) {p:Nat} (hp:p<n.ports.length) (hl:B9 n up p<0):nth (J3 n up) p=0:=by
 obtain ⟨hu,hr,hcost⟩:=ok_iff.1 h
 rw[J3,Ac8 hr hp,if_neg (fun hb=>?_),Ajz hl]
 obtain ⟨j,h1,_⟩:=Ab4 hb
 have:=h1.2
 omega
theorem far_up {n:Net} {up:List Bool} (hr:Ac n=true) {i:Nat} (hi:i<n.ports.length) (h0:0≤n.ports[i].link) (hu:up.getD n.ports[i].link.toNat false=true) :
  ∃ j:Nat,j<n.ports.length∧B9 n up i=j∧(nth n.links n.ports[i].link).a+(nth n.links n.ports[i].link).b-i=j:=by
 have hp:=Kx hr hi
 have hpl:=Hb hr hi
 simp only[D8,Bool.and_eq_true,Bool.or_eq_true,beq_iff_eq]at hp
 have hp:=hp.2
 have hlk:n.ports[i].link.toNat<n.links.length:=by omega
 have he:=Jd hr hlk
 have hfar:B9 n up i=(nth n.links n.ports[i].link).a+(nth n.links n.ports[i].link).b-i:=by
  rw[B9,A8 hi]
  simp only[hu,Bool.not_true,Bool.or_false,decide_eq_true_eq]
  rw[if_neg qn]
 rw[Ag (l:=n.links) (i:=n.ports[i].link) hlk]at hfar hp ⊢
 generalize n.links[n.ports[i].link.toNat]=l at *
 exact⟨(B9 n up i).toNat,by omega,by omega,by omega⟩
end Go.Sy.YteinjapglfkamaaGreat
namespace Go.Sy.YteinjapglfkamaaGreat
instance:Inhabited Vec:=⟨⟨0,0,0,0,0⟩⟩
def Ajl (ranks:List Int) (d:Nat):Vec:=⟨ranks.getD d 0,0,ranks.getD d 0,-1,-1⟩
def J9 (n:Net) (ranks:List Int):List Vec:=(List.range n.devices.length).map (Ajl ranks)
def Mq (n:Net) (ranks:List Int) (old:List Vec) (i j:Nat):Vec:=⟨(nth old (Bl n j)).root,(nth old (Bl n j)).cost+Ie n i,nth ranks (Bl n j),j,i⟩
def Aa9 (n:Net) (up:List Bool) (ranks:List Int) (old best:List Vec) (i:Nat):List Vec :=
 if 0≤B9 n up i∧Ch (Mq n ranks old i (B9 n up i).toNat) (nth best (Bl n i))=true then best.set (Bl n i).toNat (Mq n ranks old i (B9 n up i).toNat) else best
def La (n:Net) (up:List Bool) (ranks:List Int) (old:List Vec) (m:Nat):List Vec:=(List.range m).foldl (Aa9 n up ranks old) old
theorem Oo (n:Net) (up:List Bool) (ranks:List Int) (old:List Vec) (m:Nat):La n up ranks old (m+1)=Aa9 n up ranks old (La n up ranks old m) m:=by
 rw[La,List.range_succ,List.foldl_append];rfl
def Db (n:Net) (up:List Bool) (ranks:List Int):Nat→List Vec
 | 0=>J9 n ranks
 | r+1=>La n up ranks (Db n up ranks r) n.ports.length
theorem Afd (n:Net) (up:List Bool) (ranks:List Int) (old best:List Vec) (i:Nat):(Aa9 n up ranks old best i).length=best.length:=by
 rw[Aa9];split
 ·rw[List.length_set]
 ·rfl
theorem Kk (n:Net) (up:List Bool) (ranks:List Int) (old:List Vec):∀ m,(La n up ranks old m).length=old.length
 | 0=>rfl
 | m+1=>by rw[Oo,Afd,Kk n up ranks old m]
theorem Em (n:Net) (up:List Bool) (ranks:List Int):∀ r,(Db n up ranks r).length=n.devices.length
 | 0=>by simp[Db,J9]
 | r+1=>by rw[Db,Kk,Em n up ranks r]
theorem Aua {α:Type} [Inhabited α] {l:List α} {a b:Int} {v:α} (h0:0≤a) (h1:a<l.length) (hb:0≤b):nth (l.set a.toNat v) b=if b=a then v else nth l b:=by
 rw[nth,nth,List.getElem?_set]
 by_cases h:b=a
 ·subst h
  rw[if_pos rfl,if_pos rfl,if_pos qn]
  rfl
 ·rw[if_neg qn,if_neg h]
section
variable {n:Net} {up:List Bool} {ranks roots costs:List Int}
structure KnowM (n:Net) (up:List Bool) (ranks:List Int) (old best:List Vec) (m:Nat):Prop where
 shape:∀ d:Int,0≤d→d<n.devices.length→nth best d=nth old d∨∃ i j:Nat,i<m∧Km n up i j∧Bl n i=d∧nth best d=Mq n ranks old i j
 was:∀ d:Int,0≤d→d<n.devices.length→Ch (nth old d) (nth best d)=false
 cand:∀ i j:Nat,i<m→Km n up i j→Ch (Mq n ranks old i j) (nth best (Bl n i))=false
theorem K8 {a b c:Vec} (h1:Ch b a=false) (h2:Ch c b=false):Ch c a=false:=by
 cases h:Ch c a
 ·rfl
 ·by_cases hbc:b=c
  ·subst hbc;rw[h1]at h;exact h.symm
  ·rcases Ur hbc with h3 | h3
   ·have:=Uq h3 h;rw[h1]at this;exact this.symm
   ·rw[h2]at h3;cases h3
theorem S5 (hr:Ac n=true) (old:List Vec) (hl:old.length=n.devices.length):∀ m,m≤n.ports.length→KnowM n up ranks old (La n up ranks old m) m
 | 0,_=>⟨fun d _ _=>.inl rfl,fun d _ _=>Lq _,fun i j h=>absurd h qn⟩
 | m+1,hm=>by
  have ih:=S5 hr old hl m qn
  have hlen:=Kk n up ranks old m
  have hpd:=C2 hr (show m<n.ports.length by omega)
  rw[Oo,Aa9]
  split
  ·rename_i hc
   obtain ⟨j,hj⟩:∃ j:Nat,B9 n up m=j:=⟨(B9 n up m).toNat,by omega⟩
   have hop:Km n up m j:=⟨by omega,hj⟩
   rw[hj,Int.toNat_natCast]at hc ⊢
   have hset:∀ d:Int,0≤d→nth ((La n up ranks old m).set (Bl n m).toNat (Mq n ranks old m j)) d=if d=Bl n m then Mq n ranks old m j else nth (La n up ranks old m) d:=fun d h0=>Aua hpd.1 qn h0
   have hnew:Ch (nth (La n up ranks old m) (Bl n m)) (Mq n ranks old m j)=false:=Ak5 hc.2
   refine⟨fun d h0 h1=>?_,fun d h0 h1=>?_,fun i k hi hik=>?_⟩
   ·rw[hset d h0]
    by_cases hd:d=Bl n m
    ·rw[if_pos hd];exact .inr ⟨m,j,by omega,hop,hd.symm,rfl⟩
    ·rw[if_neg hd]
     rcases ih.shape d h0 h1 with h | ⟨i,k,e1,e2,e3,e4⟩
     ·exact .inl h
     ·exact .inr ⟨i,k,by omega,e2,e3,e4⟩
   ·rw[hset d h0]
    by_cases hd:d=Bl n m
    ·rw[if_pos hd,hd]
     exact K8 hnew (ih.was _ hpd.1 hpd.2)
    ·rw[if_neg hd];exact ih.was d h0 h1
   ·have hpi:=C2 hr hik.1
    rw[hset _ hpi.1]
    by_cases him:i=m
    ·subst him
     have:k=j:=by have:=hik.2;omega
     subst this
     rw[if_pos rfl];exact Lq _
    ·by_cases hd:Bl n i=Bl n m
     ·rw[if_pos hd]
      have:=ih.cand i k qn hik
      rw[hd]at this
      exact K8 hnew this
     ·rw[if_neg hd];exact ih.cand i k qn hik
  ·rename_i hc
   refine⟨fun d h0 h1=>?_,ih.was,fun i k hi hik=>?_⟩
   ·rcases ih.shape d h0 h1 with h | ⟨i,k,e1,e2,e3,e4⟩
    ·exact .inl h
    ·exact .inr ⟨i,k,by omega,e2,e3,e4⟩
   ·by_cases him:i=m
    ·subst him
     cases h:Ch (Mq n ranks old i k) (nth (La n up ranks old i) (Bl n i))
     ·rfl
     ·refine absurd ⟨by rw[hik.2];omega,?_⟩ hc
      rw[hik.2,Int.toNat_natCast]
      exact h
    ·exact ih.cand i k qn hik
structure KnowR (n:Net) (up:List Bool) (ranks roots costs:List Int) (r:Nat) (best:List Vec):Prop where
 low:∀ d:Int,0≤d→d<n.devices.length→Le2 (nth roots d) (nth costs d) (nth best d).root (nth best d).cost
 shape:∀ d:Int,0≤d→d<n.devices.length→nth best d=⟨nth ranks d,0,nth ranks d,-1,-1⟩∨∃ (i j:Nat) (x c:Int),Km n up i j∧Bl n i=d∧Le2 (nth roots (Bl n j)) (nth costs (Bl n j)) x c∧nth best d=⟨x,c+Ie n i,nth ranks (Bl n j),j,i⟩
 self:∀ d:Int,0≤d→d<n.devices.length→Ch ⟨nth ranks d,0,nth ranks d,-1,-1⟩ (nth best d)=false
 bound:∀ d:Int,0≤d→d<n.devices.length→0≤(nth best d).cost∧(nth best d).cost≤65535 * r
theorem S7 (hrk:ranks.length=n.devices.length) {d:Int} (h0:0≤d) (h1:d<n.devices.length):nth (J9 n ranks) d=⟨nth ranks d,0,nth ranks d,-1,-1⟩:=by
 rw[Ag (by simp[J9];omega)]
 simp only[J9,List.getElem_map,List.getElem_range,Ajl]
 rw[A8 qn,Ag qn]
theorem Am1 {a b c d m:Int} (h:Le2 a b c d):Le2 a (b+m) c (d+m):=by
 unfold Le2 at *
 omega
theorem S6 (S:Solved n up ranks roots costs) (hr:Ac n=true) (hcost:Cq n=true) (hrk:ranks.length=n.devices.length):∀ r,KnowR n up ranks roots costs r (Db n up ranks r)
 | 0=>by
  refine⟨fun d h0 h1=>?_,fun d h0 h1=>?_,fun d h0 h1=>?_,fun d h0 h1=>?_⟩
  ·rw[Db,S7 hrk h0 h1];exact S.self d h0 h1
  ·exact .inl (S7 hrk h0 h1)
  ·rw[Db,S7 hrk h0 h1];exact Lq _
  ·rw[Db,S7 hrk h0 h1];exact⟨by simp,by simp⟩
 | r+1=>by
  have ih:=S6 S hr hcost hrk r
  have hM:=S5 (up:=up) (ranks:=ranks) hr (Db n up ranks r) (Em n up ranks r) n.ports.length (Nat.le_refl _)
  rw[Db]
  refine⟨fun d h0 h1=>?_,fun d h0 h1=>?_,fun d h0 h1=>K8 (hM.was d h0 h1) (ih.self d h0 h1),fun d h0 h1=>?_⟩
  ·rcases hM.shape d h0 h1 with h | ⟨i,j,_,e2,e3,e4⟩
   ·rw[h];exact ih.low d h0 h1
   ·rw[e4]
    have hj:=C2 hr (Hl hr e2)
    have t1:=S.tri i j e2
    rw[e3]at t1
    exact Xm t1 (Am1 (ih.low _ hj.1 hj.2))
  ·rcases hM.shape d h0 h1 with h | ⟨i,j,_,e2,e3,e4⟩
   ·rw[h];exact ih.shape d h0 h1
   ·have hj:=C2 hr (Hl hr e2)
    exact .inr ⟨i,j,_,_,e2,e3,ih.low _ hj.1 hj.2,e4⟩
  ·rcases hM.shape d h0 h1 with h | ⟨i,j,_,e2,e3,e4⟩
   ·rw[h]
    have:=ih.bound d h0 h1
    omega
   ·rw[e4]
    have hj:=C2 hr (Hl hr e2)
    have:=ih.bound _ hj.1 hj.2
    have:=K4 hcost e2.1
    simp only[Mq]
    omega
theorem Vu {a b:Vec} (h:Ch a b=false):Le2 b.root b.cost a.root a.cost:=by
 unfold Le2
 simp only[Ch]at h
 grind
def dep (n:Net) (costs:List Int) (d:Int):Nat:=(List.range n.devices.length).countP fun e:Nat=>decide (nth costs (e:Int)<nth costs d)
theorem dep_lt {a d:Int} (ha:0≤a∧a<n.devices.length) (h:nth costs a<nth costs d):dep n costs a<dep n costs d:=by
 have hmem:a.toNat∈List.range n.devices.length:=List.mem_range.2 qn
 obtain ⟨l1,l2,hl⟩:=List.append_of_mem hmem
 have ea:((a.toNat:Nat):Int)=a:=by omega
 simp only[dep,hl,List.countP_append,List.countP_cons,ea,h,Int.lt_irrefl,decide_true,decide_false,if_true,Bool.false_eq_true,if_false]
 have m1:=List.countP_mono_left (l:=l1) (p:=fun e:Nat=>decide (nth costs (e:Int)<nth costs a)) (q:=fun e:Nat=>decide (nth costs (e:Int)<nth costs d)) (fun x _ hx=>by simp only[decide_eq_true_eq]at hx ⊢;omega)
 have m2:=List.countP_mono_left (l:=l2) (p:=fun e:Nat=>decide (nth costs (e:Int)<nth costs a)) (q:=fun e:Nat=>decide (nth costs (e:Int)<nth costs d)) (fun x _ hx=>by simp only[decide_eq_true_eq]at hx ⊢;omega)
 omega
theorem dep_le (d:Int):dep n costs d≤n.devices.length:=by
 have:=List.countP_le_length (p:=fun e:Nat=>decide (nth costs (e:Int)<nth costs d)) (l:=List.range n.devices.length)
 simpa [dep] using this
theorem Aba (S:Solved n up ranks roots costs) (hr:Ac n=true) (hcost:Cq n=true) (hrk:ranks.length=n.devices.length):∀ (r:Nat) (d:Int),0≤d→d<n.devices.length→dep n costs d≤r→Le2 (nth (Db n up ranks r) d).root (nth (Db n up ranks r) d).cost (nth roots d) (nth costs d)
 | r,d,h0,h1,hd=>by
  rcases S.der d h0 h1 with h | ⟨i,j,e1,e2,e3,e4⟩
  ·have:=Vu ((S6 S hr hcost hrk r).self d h0 h1)
   rw[h.1,h.2]
   exact this
  ·have hp:=K4 hcost e1.1
   have hj:=C2 hr (Hl hr e1)
   have hlt:=dep_lt (costs:=costs) (d:=d) hj qn
   match r with
   | 0=>omega
   | r+1 =>
    have ih:=Aba S hr hcost hrk r (Bl n j) hj.1 hj.2 qn
    have hM:=S5 (up:=up) (ranks:=ranks) hr (Db n up ranks r) (Em n up ranks r) n.ports.length (Nat.le_refl _)
    have hc:=Vu (hM.cand i j e1.1 e1)
    rw[e2]at hc
    rw[e3,e4]
    exact Xm hc (Am1 ih)
theorem Aa8 (S:Solved n up ranks roots costs) (hr:Ac n=true) (hcost:Cq n=true) (hrk:ranks.length=n.devices.length) {r:Nat} (hrn:n.devices.length≤r) {d:Int} (h0:0≤d) (h1:d<n.devices.length) :
  (nth (Db n up ranks r) d).root=nth roots d∧(nth (Db n up ranks r) d).cost=nth costs d:=by
 have a1:=(S6 S hr hcost hrk r).low d h0 h1
 have a2:=Aba S hr hcost hrk r d h0 h1 (Nat.le_trans (dep_le d) hrn)
 unfold Le2 at a1 a2
 omega
theorem Ar4 (S:Solved n up ranks roots costs) (hr:Ac n=true) (hcost:Cq n=true) (hrk:ranks.length=n.devices.length) {d:Int} (h0:0≤d) (h1:d<n.devices.length) :
  (nth (Db n up ranks (n.devices.length+1)) d).root=nth roots d∧(nth (Db n up ranks (n.devices.length+1)) d).cost=nth costs d∧(nth (Db n up ranks (n.devices.length+1)) d).own=Hh n up ranks roots costs d:=by
 obtain ⟨x1,x2⟩:=Aa8 S hr hcost hrk (r:=n.devices.length+1) qn h0 h1
 refine⟨x1,x2,?_⟩
 have hI:=S6 S hr hcost hrk (n.devices.length+1)
 have hcb:=Qm S h0 h1
 by_cases hroot:nth roots d=nth ranks d
 ·rw[Ap0 hroot]
  have hz:=Agn S h0 h1 hroot
  rcases hI.shape d h0 h1 with h | ⟨i,j,x,c,e1,e2,e3,e4⟩
  ·rw[h]
  ·exfalso
   have hp:=K4 hcost e1.1
   have hj:=C2 hr (Hl hr e1)
   have hrt:=Ll S hr e1
   have hcj:=Qm S hj.1 hj.2
   rw[e4]at x1 x2
   simp only at x1 x2
   rw[e2]at hrt
   unfold Le2 at e3
   omega
 ·obtain ⟨i,j,b1,b2,b3,b4⟩:=Apz S hr h0 h1 hroot
  obtain ⟨j',c1,c2,_,c4⟩:=Ab4 b3
  have:j'=j:=by have:=c1.2;have:=b1.2;omega
  subst this
  have hmem:nth (Db n up ranks (n.devices.length+1)) d∈Il n up ranks roots costs d n.ports.length:=by
   rcases hI.shape d h0 h1 with h | ⟨p,q,x,c,e1,e2,e3,e4⟩
   ·exfalso
    rw[h]at x1
    exact hroot x1.symm
   ·refine best_mem.2 ⟨p,q,e1,e2,?_⟩
    have hrt:=Ll S hr e1
    have hv:=Z6 S hr e1
    rw[e2]at hrt hv
    rw[e4]at x1 x2
    simp only at x1 x2
    have g1:x=nth roots (Bl n q):=by omega
    have g2:c=nth costs (Bl n q):=by unfold Le2 at e3;omega
    rw[e4,g1,g2]
  have hle:=Adl _ _ hmem
  have hM:=S5 (up:=up) (ranks:=ranks) hr (Db n up ranks n.devices.length) (Em n up ranks n.devices.length) n.ports.length (Nat.le_refl _)
  have hcand:=hM.cand i j' b1.1 b1
  have hj:=C2 hr (Hl hr b1)
  obtain ⟨y1,y2⟩:=Aa8 S hr hcost hrk (r:=n.devices.length) (Nat.le_refl _) hj.1 hj.2
  rw[Mq,y1,y2,b2]at hcand
  have hcand:Ch ⟨nth roots (Bl n j'),nth costs (Bl n j')+Ie n i,nth ranks (Bl n j'),j',i⟩ (nth (Db n up ranks (n.devices.length+1)) d)=false:=hcand
  rw[c4]at hle
  rw[b3]
  by_cases he:nth (Db n up ranks (n.devices.length+1)) d=⟨nth roots (Bl n j'),nth costs (Bl n j')+Ie n i,nth ranks (Bl n j'),j',i⟩
  ·rw[he]
  ·rcases Ur he with h | h
   ·rw[hle]at h;cases h
   ·rw[hcand]at h;cases h
end
end Go.Sy.YteinjapglfkamaaGreat
namespace Go.Sy.YteinjapglfkamaaGreat
open Go.Proofs
attribute [local irreducible] Go.Sy.G Go.Sy.DR
set_option maxRecDepth 100000
set_option maxHeartbeats 4000000
theorem Add {n:Net} {up:List Bool} (hr:Ac n=true) {i:Nat} (hi:i<n.ports.length) (h0:n.ports[i].link≠-1) (hu:up.getD n.ports[i].link.toNat false=true):K6 n.links i=B9 n up i:=by
 have hpl:=Hb hr hi
 obtain ⟨j,hj,hf,hsum⟩:=far_up (up:=up) hr hi qn hu
 have hop:Km n up i j:=⟨hi,hf⟩
 obtain ⟨k,hk,h1,h2,h3,h4,hne⟩:=Xs hr hop
 rw[hf]
 have hall:∀ q (hq:q<n.links.length),(n.links[q].a=i∨n.links[q].b=i)→q=k:=fun q hq h=>by
  have hlq:=Uk hr hq
  simp only[J8,Bool.and_eq_true,beq_iff_eq,bne_iff_ne]at hlq
  rcases h with h | h
  ·rw[h]at hlq;have:=hlq.1.2;omega
  ·rw[h]at hlq;have:=hlq.2;omega
 have hij:(i:Int)≠j:=fun h=>hne (by have:i=j:=qn;rw[this])
 rw[Ag (l:=n.links) (i:=(k:Int)) (by simpa using hk)]at h4
 simp only[Int.toNat_natCast]at h4
 have hfind:n.links.find? (fun l=>l.a == (i:Int) || l.b == (i:Int))=some n.links[k]:=by
  rw[List.find?_eq_some_iff_getElem]
  refine⟨?_,k,hk,E,fun q hq=>?_⟩
  ·rcases h4 with h4 | h4<;>simp[h4.1,h4.2]
  ·have hn:¬ (n.links[q].a=i∨n.links[q].b=i):=fun h=>by have:=hall q qn h;omega
   simpa using hn
 rw[K6,hfind]
 simp only
 rcases h4 with h4 | h4
 ·rw[if_pos h4.1,h4.2]
 ·rw[if_neg (by rw[h4.1];omega),h4.1]
def Xo (n:Net) (up:List Bool) (ranks:List Int) (x:SV):List SV:=[.sl 5 Bn n.devices,.sl 7 A7 n.ports,.sl 3 Cp n.links,.sl 6 Au n.domains,.sl 4 Bk n.statics,.sl 4 B1 n.floods,.sl 5 C3 n.vrfs,.sl 5 Cr n.irbs,.sl 1 Ab up,.sl 1 Aa ranks,x]
def Ah9 (n:Net) (up:List Bool) (ranks:List Int) (best:List Vec):Obs:=[(0,.box (Xo n up ranks (.osl 1))),(1,.row 5 D2 best)]
def Alc (n:Net) (up:List Bool) (ranks:List Int) (best:List Vec):SV:=.ref 11 (.agg (Xo n up ranks (.sl 5 D2 best))) 0
theorem Atw (n:Net) (up:List Bool) (ranks:List Int) (best:List Vec) (i:Nat) (hr:Ac n=true) (hu:up.length=n.links.length) (hi:i<n.ports.length) :
  Sy.Spec Tryz.prog 250 [.ptr 0 0,Aa i] (Ah9 n up ranks best) (Aa (B9 n up i)) (Ah9 n up ranks best):=cT F250 Tryz.ntmps250 fun F hF=>by
 have hpl:=Hb hr hi
 have hf:=C4 hr
 have e1:n.ports[(i:Int).toNat]'qn=n.ports[i]:=rfl
 have hof:=Add (up:=up) hr hi
 have hfar:B9 n up i=if n.ports[i].link<0 || !(up.getD n.ports[i].link.toNat false) then -1 else (nth n.links n.ports[i].link).a+(nth n.links n.ports[i].link).b-i:=by
  rw[B9,A8 hi]
 have hos:=Aks n i (by unfold Al;omega)
 generalize B9 n up i=f at *
 conv=>whnf
 refine⟨E,by omega,by omega,?_⟩
 conv=>whnf
 refine⟨fun h=>?_,fun h=>?_⟩
 ·have h1:n.ports[i].link=-1:=by simpa using h
  rw[h1]at hfar
  have hfr:f=-1:=hfar
  refine oD ?_
  refine⟨qq,?_⟩
  ((conv=>whnf);refine aT ?_;refine rg ?_;conv=>whnf)
  refine done E (.cons .tmp .nil) [] (Ah9 n up ranks best) (fun _ h=>h) ?_ E ⟨Y,⟨.inl E,E,.inl E,E,Y⟩,E,E⟩
  exact congrArg Aa hfr
 have h1:¬ n.ports[i].link=-1:=by simpa using h
 have hlk:n.ports[i].link.toNat<up.length:=by omega
 have hof:=hof h1
 rw[A8 hlk]at hof hfar
 refine oD ?_
 refine⟨E,by omega,by omega,?_⟩
 conv=>whnf
 refine⟨E,by simp only[Int.toNat_natCast];omega,by simp only[Int.toNat_natCast];omega,?_⟩
 conv=>whnf
 refine kW ?_
 refine⟨fun h2=>?_,fun h2=>?_⟩
 ·have h3:up[n.ports[i].link.toNat]=false:=by simpa using h2
  rw[h3]at hfar
  have hfr:f=-1:=by simpa using hfar
  refine oO ?_
  refine done E (.cons .tmp .nil) [] (Ah9 n up ranks best) (fun _ h=>h) ?_ E ⟨Y,⟨.inl E,E,.inl E,E,Y⟩,E,E⟩
  exact congrArg Aa hfr
 ·have h3:up[n.ports[i].link.toNat]=true:=by simpa using h2
  rw[hof h3]at hos
  refine oO ?_
  refine c0 hos F211 ?_
  refine oO ?_
  exact done E (.cons .tmp .nil) [] (Ah9 n up ranks best) (fun _ h=>h) E E ⟨Y,⟨.inl E,E,.inl E,E,Y⟩,E,E⟩
theorem Atv (n:Net) (up:List Bool) (ranks:List Int) (best:List Vec) (i:Nat) (hr:Ac n=true) (hu:up.length=n.links.length) (hi:i<n.ports.length) :
  Sy.Spec Tryz.prog 250 [Alc n up ranks best,Aa i] [] (Aa (B9 n up i)) []:=cT F250 Tryz.ntmps250 fun F hF=>by
 have hpl:=Hb hr hi
 have hf:=C4 hr
 have e1:n.ports[(i:Int).toNat]'qn=n.ports[i]:=rfl
 have hof:=Add (up:=up) hr hi
 have hfar:B9 n up i=if n.ports[i].link<0 || !(up.getD n.ports[i].link.toNat false) then -1 else (nth n.links n.ports[i].link).a+(nth n.links n.ports[i].link).b-i:=by
  rw[B9,A8 hi]
 have hos:=Aks n i (by unfold Al;omega)
 generalize B9 n up i=f at *
 conv=>whnf
 refine⟨E,by omega,by omega,?_⟩
 conv=>whnf
 refine⟨fun h=>?_,fun h=>?_⟩
 ·have h1:n.ports[i].link=-1:=by simpa using h
  rw[h1]at hfar
  have hfr:f=-1:=hfar
  refine oD ?_
  refine⟨qq,?_⟩
  ((conv=>whnf);refine aT ?_;refine rg ?_;conv=>whnf)
  refine Ao E (.cons .tmp .nil) ?_ E
  exact congrArg Aa hfr
 have h1:¬ n.ports[i].link=-1:=by simpa using h
 have hlk:n.ports[i].link.toNat<up.length:=by omega
 have hof:=hof h1
 rw[A8 hlk]at hof hfar
 refine oD ?_
 refine⟨E,by omega,by omega,?_⟩
 conv=>whnf
 refine⟨E,by simp only[Int.toNat_natCast];omega,by simp only[Int.toNat_natCast];omega,?_⟩
 conv=>whnf
 refine kW ?_
 refine⟨fun h2=>?_,fun h2=>?_⟩
 ·have h3:up[n.ports[i].link.toNat]=false:=by simpa using h2
  rw[h3]at hfar
  have hfr:f=-1:=by simpa using hfar
  refine oO ?_
  refine Ao E (.cons .tmp .nil) ?_ E
  exact congrArg Aa hfr
 ·have h3:up[n.ports[i].link.toNat]=true:=by simpa using h2
  rw[hof h3]at hos
  refine oO ?_
  refine c0 hos F211 ?_
  refine oO ?_
  exact dN
theorem Ald (n:Net) (ranks:List Int) (j:Nat) (h:j<n.devices.length):(J9 n ranks).take (j+1)=(J9 n ranks).take j++[Ajl ranks j]:=by
 rw[List.take_succ_eq_append_getElem (by simpa [J9] using h)]
 simp[J9]
theorem Yp (n:Net) (up:List Bool) (ranks:List Int) (hr:Ac n=true) (hcost:Cq n=true) (old:List Vec) (hl:old.length=n.devices.length) {b:Int} (hb:∀ x∈old,0≤x.cost∧x.cost≤b):∀ m,m≤n.ports.length→∀ x∈La n up ranks old m,0≤x.cost∧x.cost≤b+65535
 | 0,_,x,hx=>by have:=hb x hx;omega
 | m+1,hm,x,hx=>by
  have ih:=Yp n up ranks hr hcost old hl hb m qn
  rw[Oo,Aa9]at hx
  split at hx
  ·rename_i hc
   rcases List.mem_or_eq_of_mem_set hx with h | h
   ·exact ih x h
   ·have hp:=K4 hcost (show m<n.ports.length by omega)
    obtain ⟨j,hj⟩:∃ j:Nat,B9 n up m=j:=⟨(B9 n up m).toNat,by omega⟩
    have hop:Km n up m j:=⟨by omega,hj⟩
    have hjd:=C2 hr (Hl hr hop)
    have he:nth old (Bl n j)∈old:=by rw[Ag qn];exact List.getElem_mem _
    have:=hb _ he
    rw[hj,Int.toNat_natCast]at h
    rw[h]
    simp only[Mq]
    omega
  ·exact ih x hx
theorem Yq (n:Net) (up:List Bool) (ranks:List Int) (hr:Ac n=true) (hcost:Cq n=true):∀ r:Nat,∀ x∈Db n up ranks r,0≤x.cost∧x.cost≤65535 * r
 | 0,x,hx=>by
  simp only[Db,J9,List.mem_map]at hx
  obtain ⟨_,_,rfl⟩:=hx
  simp[Ajl]
 | r+1,x,hx=>by
  have:=Yp n up ranks hr hcost (Db n up ranks r) (Em n up ranks r) (Yq n up ranks hr hcost r) n.ports.length (Nat.le_refl _) x hx
  omega
theorem Are (n:Net) (up:List Bool) (hn:n.Fin) (hu:up.length=n.links.length) (hr:Ac n=true) (hcost:Cq n=true) :
  Sy.Spec Tryz.prog 249 [Aj n,.sl 1 Ab up] [] (Alc n up (C0 n) (Db n up (C0 n) (n.devices.length+1))) []:=cT F249 Tryz.ntmps249 fun F hF=>by
 have hf:=C4 hr
 have hrs:=Aol n hn
 rw[← Aau n]at hrs
 have hrk:=Ey n
 generalize C0 n=ranks at *
 conv=>whnf
 refine cD hrs F312 ?_
 refine oD ?_
 refine kW ?_
 refine A0 2 8 (Aj n) E E E ?_
 refine Ss 18 10 1000 5 D2 E E E E ?_
 refine Aq n.devices.length (fun j=>[(2,.ref 8 (Aj n) 0),(5,.ptr 18 0),(6,Aa j)]) (fun j=>[(18,.box (Xo n up ranks (.osl 1000))),(1000,.row 5 D2 ((J9 n ranks).take j))]) []
  ⟨⟨rfl,rfl,rfl,rfl,rfl,rfl,trivial⟩,⟨.inl rfl,rfl,.inl rfl,rfl,trivial⟩,rfl,rfl⟩ ?_
 intro j hj
 refine oO ?_
 refine⟨fun h=>?_,fun h=>?_⟩
 ·have hlt:j<n.devices.length:=by simpa using h
  have hsucc:=Ald n ranks j hlt
  have hln:((J9 n ranks).take j).length≤8:=by simp[J9];omega
  have hv:Ajl ranks j=⟨ranks[(j:Int).toNat]'qn,0,ranks[(j:Int).toNat]'qn,-1,-1⟩:=by
   simp only[Ajl,Int.toNat_natCast];rw[A8 qn]
  obtain ⟨u,hu'⟩:∃ u,(J9 n ranks).take j=u:=⟨_,rfl⟩
  rw[hu']at hsucc hln ⊢
  refine oO ?_
  refine⟨E,by omega,by omega,?_⟩
  conv=>whnf
  refine⟨E,by omega,by omega,?_⟩
  conv=>whnf
  refine Bb (Ad Γ.toTy 47 E E E E E (.row E) (.lit (e:=D2) (l:=[Ajl ranks j]) E (by rw[hv];rfl)) qz (by simp;omega) (by simp;omega)) qq E ?_
  refine oD ?_
  refine kW ?_
  refine iW ?_
  exact An [(1000,47)] hlt ⟨⟨E,E,E,E,E,E,Y⟩,⟨.inl E,E,.inl (congrArg (Ob.row 5 D2) hsucc),E,Y⟩,E,E⟩
 have hjl:j=n.devices.length:=by
  have:¬ j<n.devices.length:=by simpa using h
  omega
 subst hjl
 have hall:(J9 n ranks).take n.devices.length=Db n up ranks 0:=by rw[List.take_of_length_le (by simp[J9]),Db]
 clear h hj
 refine oO ?_
 refine Aq (n.devices.length+1) (fun r=>[(2,.ref 8 (Aj n) 0),(5,.ptr 18 0),(7,Aa r)]) (fun r=>[(18,.box (Xo n up ranks (.osl 1000))),(1000,.row 5 D2 (Db n up ranks r))]) []
  ⟨⟨rfl,rfl,rfl,rfl,rfl,rfl,trivial⟩,⟨.inl rfl,rfl,.inl (by rw[← hall];rfl),rfl,trivial⟩,rfl,rfl⟩ ?_
 clear hall
 intro r hrn
 refine oO ?_
 refine⟨fun h=>?_,fun h=>?_⟩
 ·have hlt:r<n.devices.length+1:=by
   have:(r:Int)≤n.devices.length:=of_decide_eq_true h
   omega
  have hol:=Em n up ranks r
  have hob:=Yq n up ranks hr hcost r
  have hnext:Db n up ranks (r+1)=La n up ranks (Db n up ranks r) n.ports.length:=rfl
  obtain ⟨old,hold⟩:∃ old,Db n up ranks r=old:=⟨_,rfl⟩
  rw[hold]at hol hob hnext ⊢
  have hz:La n up ranks old 0=old:=rfl
  refine oO ?_
  refine Ae (Ad Γ.toTy 62 E E E E E (.lit (e:=D2) (l:=[]) E E) (.row (l:=old) E) qz (by simp;omega) (by simp;omega)) E E ?_
  refine oO ?_
  refine Ap 62 E ?_
  refine Aq n.ports.length (fun i=>[(2,.ref 8 (Aj n) 0),(5,.ptr 18 0),(7,Aa r),(8,.sl 5 D2 old),(9,Aa i)]) (fun i=>[(18,.box (Xo n up ranks (.osl 1000))),(1000,.row 5 D2 (La n up ranks old i))]) []
   ⟨⟨rfl,rfl,rfl,rfl,rfl,rfl,rfl,rfl,rfl,rfl,trivial⟩,⟨.inl rfl,rfl,.inl rfl,rfl,trivial⟩,rfl,rfl⟩ ?_
  intro i hi
  refine oO ?_
  refine⟨fun h=>?_,fun h=>?_⟩
  ·have hil:i<n.ports.length:=by simpa using h
   have hul:=Kk n up ranks old i
   have hsucc:=Oo n up ranks old i
   rw[Aa9]at hsucc
   have hfl:=Uw (up:=up) hr hil
   have ei:Bl n i=(n.ports[(i:Int).toNat]'qn).dev:=by rw[Bl,Ag qn]
   have ec:Ie n i=(n.ports[(i:Int).toNat]'qn).cost:=by rw[Ie,Ag qn]
   have hpi:=C2 hr hil
   have hci:=K4 hcost hil
   generalize La n up ranks old i=u at *
   have hcall:=Atw n up ranks u i hr hu hil
   obtain ⟨f,hf'⟩:∃ f,B9 n up i=f:=⟨_,rfl⟩
   rw[hf']at hfl hcall hsucc
   refine oO ?_
   refine Ae (Ah [(0,18),(1,1000)] E F250 hcall E ⟨E,E,Y⟩ E ⟨.inl E,.inl E,Y⟩) E E ?_
   refine oO ?_
   refine⟨fun h=>?_,fun h=>?_⟩
   ·have hneg:f<0:=of_decide_eq_true h
    rw[if_neg (fun hh=>absurd hh.1 qn)]at hsucc
    refine oO ?_
    refine iW ?_
    exact An [] hil ⟨⟨E,E,E,E,E,E,E,E,E,E,Y⟩,⟨.inl E,E,.inl (congrArg (Ob.row 5 D2) hsucc),E,Y⟩,E,E⟩
   have hneg:¬ f<0:=of_decide_eq_false h
   obtain ⟨j,rfl⟩:∃ j:Nat,f=j:=⟨f.toNat,by omega⟩
   have hjl:=hfl qn
   have ej:Bl n j=(n.ports[(j:Int).toNat]'qn).dev:=by rw[Bl,Ag qn]
   have hpj:=C2 hr (show j<n.ports.length by omega)
   obtain ⟨q,hq⟩:∃ q,n.ports[(j:Int).toNat]'qn=q:=⟨_,rfl⟩
   rw[hq]at ej
   rw[ej]at hpj
   have hv:Mq n ranks old i j=⟨(old[q.dev.toNat]'qn).root,(old[q.dev.toNat]'qn).cost+(n.ports[(i:Int).toNat]'qn).cost,ranks[q.dev.toNat]'qn,j,i⟩:=by
    rw[Mq,ej,ec,Ag (l:=old) (i:=q.dev) qn,Ag (l:=ranks) (i:=q.dev) qn]
   have hbo:=hob _ (List.getElem_mem (show q.dev.toNat<old.length by omega))
   rw[ec]at hci
   rw[ei]at hpi
   rw[Int.toNat_natCast,hv,ei,Ag (l:=u) (i:=(n.ports[(i:Int).toNat]'qn).dev) qn]at hsucc
   have hless:=Ard ⟨(old[q.dev.toNat]'qn).root,(old[q.dev.toNat]'qn).cost+(n.ports[(i:Int).toNat]'qn).cost,ranks[q.dev.toNat]'qn,j,i⟩ (u[(n.ports[(i:Int).toNat]'qn).dev.toNat]'qn)
   refine oO ?_
   refine⟨E,by omega,by omega,?_⟩
   rw[hq]
   conv=>whnf
   refine⟨E,by omega,by omega,?_⟩
   conv=>whnf
   refine⟨E,by omega,by omega,?_⟩
   conv=>whnf
   refine⟨E,by omega,by omega,?_⟩
   conv=>whnf
   refine iW ?_
   refine⟨E,by omega,by omega,?_⟩
   conv=>whnf
   refine kW ?_
   refine⟨E,by omega,by omega,?_⟩
   conv=>whnf
   refine⟨by omega,by omega,?_⟩
   conv=>whnf
   refine⟨E,by omega,?_⟩
   conv=>whnf
   refine cD hless F313 ?_
   refine oD ?_
   refine kW ?_
   refine⟨fun h=>?_,fun h=>?_⟩
   ·rw[if_pos ⟨by omega,h⟩]at hsucc
    refine oO ?_
    refine⟨E,by omega,by omega,?_⟩
    conv=>whnf
    refine⟨by omega,by omega,?_⟩
    conv=>whnf
    refine⟨E,by omega,⟨(old[q.dev.toNat]'qn).root,(old[q.dev.toNat]'qn).cost+(n.ports[(i:Int).toNat]'qn).cost,ranks[q.dev.toNat]'qn,j,i⟩,E,E,?_⟩
    conv=>whnf
    refine kW ?_
    refine iW ?_
    exact An [] hil ⟨⟨E,E,E,E,E,E,E,E,E,E,Y⟩,⟨.inl E,E,.inl (congrArg (Ob.row 5 D2) hsucc),E,Y⟩,E,E⟩
   ·rw[if_neg (fun hh=>by rw[hh.2]at h;cases h)]at hsucc
    refine oO ?_
    refine iW ?_
    exact An [] hil ⟨⟨E,E,E,E,E,E,E,E,E,E,Y⟩,⟨.inl E,E,.inl (congrArg (Ob.row 5 D2) hsucc),E,Y⟩,E,E⟩
  have hil:i=n.ports.length:=by
   have:¬ i<n.ports.length:=by simpa using h
   omega
  subst hil
  refine oO ?_
  refine iW ?_
  exact An [] qn ⟨⟨E,E,E,E,E,E,Y⟩,⟨.inl E,E,.inl (congrArg (Ob.row 5 D2) hnext),E,Y⟩,E,E⟩
 have hrl:r=n.devices.length+1:=by
  have:¬ (r:Int)≤n.devices.length:=of_decide_eq_false h
  omega
 subst hrl
 refine oO ?_
 refine Ap 1000 E ?_
 refine A0 18 11 (.agg (Xo n up ranks (.sl 5 D2 (Db n up ranks (n.devices.length+1))))) E E E ?_
 exact dN
def Q0 (n:Net) (up:List Bool):List Vec:=Db n up (C0 n) (n.devices.length+1)
theorem Afc (n:Net) (up:List Bool):(Q0 n up).length=n.devices.length:=Em ..
theorem Am2 {n:Net} {up:List Bool} (h:okB n up=true) {d:Int} (h0:0≤d) (h1:d<n.devices.length) :
  (nth (Q0 n up) d).root=nth (Uj n up) d∧(nth (Q0 n up) d).cost=nth (U4 n up) d∧(nth (Q0 n up) d).own=Hh n up (C0 n) (Uj n up) (U4 n up) d:=by
 obtain ⟨hu,hr,hcost⟩:=ok_iff.1 h
 exact Ar4 (X5 h) hr hcost (Ey n) h0 h1
theorem Avb (n:Net) (up:List Bool) (hn:n.Fin):Sy.Spec Tryz.prog 248 [Aj n,.sl 1 Ab up] [] (Ab (okB n up)) []:=cT F248 Tryz.ntmps248 fun F hF=>by
 conv=>whnf
 (repeat' (first | (refine⟨fun h=>?_,fun h=>?_⟩<;>(repeat (first | simp only[beq_iff_eq]at h | simp only[beq_eq_false_iff_ne]at h))<;>((refine oO ?_);repeat((refine aF ?_);(refine oO ?_)))) | (refine Ao rfl (.cons .tmp .nil) ?_ rfl) | (refine c0 (Dy n hn) F10 ?_;((refine oO ?_))) | (refine c0 (Aoq n hn.ports) F311 ?_;((refine oO ?_)))))
 all_goals (refine congrArg Ab ?_;clear hF;simp_all[okB])
 all_goals omega
theorem Ag5 (n:Net) (up:List Bool) (hn:n.Fin) (h:okB n up=false):Sy.Spec Tryz.prog 183 [Aj n,.sl 1 Ab up] [] (.tup [.sl 1 Aa [],Aa 2]) []:=cT F183 Tryz.ntmps183 fun F hF=>by
 have hfit:=Avb n up hn
 rw[h]at hfit
 conv=>whnf
 refine c0 hfit F248 ?_
 refine oT ?_
 refine Ai 4 1 Aa E ?_
 exact dN
theorem Aoc {n:Net} {up:List Bool} (h:okB n up=true) {i:Nat} (hi:i<n.ports.length) :
  (B9 n up i<0→nth (J3 n up) i=0)∧(∀ j:Nat,B9 n up i=j→nth (J3 n up) i=if (nth (Q0 n up) (Bl n i)).own=i then 1 else
   if (nth (Q0 n up) (Bl n i)).cost<(nth (Q0 n up) (Bl n j)).cost∨((nth (Q0 n up) (Bl n i)).cost=(nth (Q0 n up) (Bl n j)).cost∧nth (C0 n) (Bl n i)<nth (C0 n) (Bl n j)) then 2 else 3):=by
 obtain ⟨hu,hr,hcost⟩:=ok_iff.1 h
 refine⟨fun hf=>Aob h hi hf,fun j hj=>?_⟩
 have hop:Km n up i j:=⟨hi,hj⟩
 have hpi:=C2 hr hi
 have hpj:=C2 hr (Hl hr hop)
 obtain ⟨_,k1,k2⟩:=Am2 h hpi.1 hpi.2
 obtain ⟨_,k3,_⟩:=Am2 h hpj.1 hpj.2
 rw[J3,Ac8 hr hi,Aod hop,k1,k2,k3]
theorem Aj3 (n:Net) (up:List Bool) (hn:n.Fin) (h:okB n up=true):Sy.Spec Tryz.prog 183 [Aj n,.sl 1 Ab up] [] (.tup [.sl 1 Aa (J3 n up),Aa 0]) []:=cT F183 Tryz.ntmps183 fun F hF=>by
 have hfit:=Avb n up hn
 rw[h]at hfit
 obtain ⟨hu,hr,hcost⟩:=ok_iff.1 h
 have hf:=C4 hr
 have hkn:=Are n up hn hu hr hcost
 have hkl:=Afc n up
 have hrk:=Ey n
 have hrole:=fun i hi=>Aoc h (i:=i) hi
 have hrl:=Lz n up
 rw[show Db n up (C0 n) (n.devices.length+1)=Q0 n up from rfl]at hkn
 generalize C0 n=ranks at *
 generalize Q0 n up=best at *
 generalize J3 n up=roles at *
 clear h
 conv=>whnf
 refine c0 hfit F248 ?_
 refine oF ?_
 refine c0 hkn F249 ?_
 refine oO ?_
 refine A0 2 8 (Aj n) E E E ?_
 refine Bo 7 1000 1 Aa E E ?_
 refine Aq n.ports.length (fun j=>[(2,.ref 8 (Aj n) 0),(6,Alc n up ranks best),(7,.osl 1000),(8,Aa j)]) (fun j=>[(1000,.row 1 Aa (roles.take j))]) []
  ⟨⟨rfl,rfl,rfl,rfl,rfl,rfl,rfl,rfl,trivial⟩,⟨.inl (by simp only[List.take_zero];rfl),rfl,trivial⟩,rfl,rfl⟩ ?_
 intro i hi
 refine oO ?_
 refine⟨fun h=>?_,fun h=>?_⟩
 ·have hlt:i<n.ports.length:=by simpa using h
  obtain ⟨hr0,hr1⟩:=hrole i hlt
  have hsucc:roles.take (i+1)=roles.take i++[roles[i]'qn]:=List.take_succ_eq_append_getElem qn
  have hln:(roles.take i).length≤40:=by simp;omega
  rw[Ag (l:=roles) (i:=(i:Int)) qn]at hr0
  rw[Ag (l:=roles) (i:=(i:Int)) qn]at hr1
  simp only[Int.toNat_natCast]at hr0 hr1
  generalize roles.take i=o at *
  have hcall:=Atv n up ranks best i hr hu hlt
  have hfl:=Uw (up:=up) hr hlt
  obtain ⟨f,hf'⟩:∃ f,B9 n up i=f:=⟨_,rfl⟩
  rw[hf']at hfl hcall hr0 hr1
  refine oO ?_
  refine c0 hcall F250 ?_
  refine oO ?_
  refine⟨fun h=>?_,fun h=>?_⟩
  ·have hpos:0≤f:=of_decide_eq_true h
   obtain ⟨j,rfl⟩:∃ j:Nat,f=j:=⟨f.toNat,by omega⟩
   have hjl:=hfl qn
   have hr1:=hr1 j rfl
   have ei:Bl n i=(n.ports[(i:Int).toNat]'qn).dev:=by rw[Bl,Ag qn]
   have ej:Bl n j=(n.ports[(j:Int).toNat]'qn).dev:=by rw[Bl,Ag qn]
   obtain ⟨p,hp⟩:∃ q,n.ports[(i:Int).toNat]'qn=q:=⟨_,rfl⟩
   obtain ⟨q,hq⟩:∃ q,n.ports[(j:Int).toNat]'qn=q:=⟨_,rfl⟩
   have hpi:=C2 hr hlt
   have hpj:=C2 hr (show j<n.ports.length by omega)
   rw[hp]at ei
   rw[hq]at ej
   rw[ei]at hpi
   rw[ej]at hpj
   rw[ei,ej,Ag (l:=best) (i:=p.dev) qn,Ag (l:=best) (i:=q.dev) qn,Ag (l:=ranks) (i:=p.dev) qn,Ag (l:=ranks) (i:=q.dev) qn]at hr1
   refine oO ?_
   refine⟨E,by omega,by omega,?_⟩
   rw[hp]
   conv=>whnf
   refine⟨E,by omega,by omega,?_⟩
   rw[hq]
   conv=>whnf
   refine kW ?_
   (repeat' (first | (refine⟨fun h=>?_,fun h=>?_⟩<;>(repeat (first | simp only[decide_eq_true_eq]at h | simp only[decide_eq_false_iff_not]at h | simp only[beq_iff_eq]at h | simp only[beq_eq_false_iff_ne]at h))<;>((first|refine rg ?_|refine rd qq ?_);(conv=>whnf))) | (refine⟨qq,?_⟩;((conv=>whnf);repeat((first|refine aF ?_|refine aT ?_);(refine oO ?_)))) | (refine⟨by (omega),by (omega),?_⟩;((conv=>whnf))) | (refine⟨by (unfold I64;omega),?_⟩;((conv=>whnf))) | (refine Ae (Ad Γ.toTy 110 rfl rfl rfl rfl rfl (.row rfl) (.lit (e:=Aa) (l:=[(1:Int)]) rfl rfl) qz (by simp;omega) (by simp;omega)) rfl rfl ?_;((refine oO ?_))) | (refine Ae (Ad Γ.toTy 110 rfl rfl rfl rfl rfl (.row rfl) (.lit (e:=Aa) (l:=[(2:Int)]) rfl rfl) qz (by simp;omega) (by simp;omega)) rfl rfl ?_;((refine oO ?_))) | (refine Ae (Ad Γ.toTy 110 rfl rfl rfl rfl rfl (.row rfl) (.lit (e:=Aa) (l:=[(3:Int)]) rfl rfl) qz (by simp;omega) (by simp;omega)) rfl rfl ?_;((refine oO ?_))) | refine An [(1000,110)] hlt ⟨⟨rfl,rfl,rfl,rfl,rfl,rfl,rfl,rfl,trivial⟩,⟨.inl (congrArg (Ob.row 1 Aa) ?_),rfl,trivial⟩,rfl,rfl⟩))
   all_goals (rw[hsucc,hr1];clear hF hfit hkn hcall hrole;refine congrArg (fun z=>o++[z]) ?_;grind)
  ·have hneg:f<0:=by
    have:¬ 0≤f:=of_decide_eq_false h
    omega
   rw[hr0 hneg]at hsucc
   refine oO ?_
   refine Ae (Ad Γ.toTy 110 E E E E E (.row E) (.lit (e:=Aa) (l:=[(0:Int)]) E E) qz (by simp;omega) (by simp;omega)) E E ?_
   refine oO ?_
   refine iW ?_
   exact An [(1000,110)] hlt ⟨⟨E,E,E,E,E,E,E,E,Y⟩,⟨.inl (congrArg (Ob.row 1 Aa) hsucc),E,Y⟩,E,E⟩
 have hjj:i=n.ports.length:=by
  have:¬ i<n.ports.length:=by simpa using h
  omega
 subst hjj
 rw[List.take_of_length_le qn]
 refine oO ?_
 refine Ap 1000 E ?_
 exact dN
theorem Ts (n:Net) (up:List Bool) (hn:n.Fin) (h:okB n up=false):Sy.Spec Tryz.prog 123 [Aj n,.sl 1 Ab up] [] (.tup [.sl 1 Ab [],Aa 2]) []:=cT F123 Tryz.ntmps123 fun F hF=>by
 conv=>whnf
 refine c0 (Ag5 n up hn h) F183 ?_
 refine oT ?_
 refine Ai 4 1 Ab E ?_
 exact dN
theorem Aui (roles:List Int) (l:Link):Xv roles l=((nth roles l.a == 1 && nth roles l.b == 2) || (nth roles l.a == 2 && nth roles l.b == 1)):=by
 simp only[Xv,inB,List.any_cons,List.any_nil,Bool.or_false]
 rw[Bool.eq_iff_iff]
 simp only[Bool.and_eq_true,Bool.or_eq_true,beq_iff_eq]
 omega
theorem Vo (n:Net) (up:List Bool) (hn:n.Fin) (h:okB n up=true):Sy.Spec Tryz.prog 123 [Aj n,.sl 1 Ab up] [] (.tup [.sl 1 Ab (Asl n up),Aa 0]) []:=cT F123 Tryz.ntmps123 fun F hF=>by
 obtain ⟨hu,hr,hcost⟩:=ok_iff.1 h
 have hf:=C4 hr
 have hro:=Aj3 n up hn h
 have hrl:=Lz n up
 rw[Asl]
 generalize J3 n up=roles at *
 conv=>whnf
 refine c0 hro F183 ?_
 refine oF ?_
 refine A0 2 8 (Aj n) E E E ?_
 refine Bo 8 1000 1 Ab E E ?_
 refine Aq n.links.length (fun j=>[(2,.ref 8 (Aj n) 0),(6,.sl 1 Aa roles),(8,.osl 1000),(9,Aa j)]) (fun j=>[(1000,.row 1 Ab ((n.links.take j).map (Xv roles)))]) []
  ⟨⟨rfl,rfl,rfl,rfl,rfl,rfl,rfl,rfl,trivial⟩,⟨.inl (by simp only[List.take_zero,List.map_nil];rfl),rfl,trivial⟩,rfl,rfl⟩ ?_
 intro j hj
 refine oO ?_
 refine⟨fun h=>?_,fun h=>?_⟩
 ·have hlt:j<n.links.length:=by simpa using h
  have he:=Jd hr hlt
  have e1:n.links[(j:Int).toNat]'qn=n.links[j]:=rfl
  have hsucc:(n.links.take (j+1)).map (Xv roles)=(n.links.take j).map (Xv roles)++[Xv roles n.links[j]]:=by
   rw[List.take_succ_eq_append_getElem hlt,List.map_append];rfl
  have hln:((n.links.take j).map (Xv roles)).length≤20:=by simp;omega
  obtain ⟨o,ho'⟩:∃ o,(n.links.take j).map (Xv roles)=o:=⟨_,rfl⟩
  rw[ho']at hsucc hln ⊢
  obtain ⟨l,hl⟩:∃ l,n.links[j]=l:=⟨_,rfl⟩
  rw[hl]at e1 hsucc he
  have hA:0≤l.a∧l.a<roles.length:=by omega
  have hB:0≤l.b∧l.b<roles.length:=by omega
  rw[Aui,Ag (l:=roles) (i:=l.a) qn,Ag (l:=roles) (i:=l.b) qn]at hsucc
  obtain ⟨x,hx⟩:∃ x,roles[l.a.toNat]'qn=x:=⟨_,rfl⟩
  obtain ⟨y,hy⟩:∃ y,roles[l.b.toNat]'qn=y:=⟨_,rfl⟩
  rw[hx,hy]at hsucc
  refine oO ?_
  refine⟨E,by omega,by omega,?_⟩
  rw[e1]
  conv=>whnf
  refine⟨E,by omega,by omega,?_⟩
  rw[hx]
  conv=>whnf
  refine⟨E,by omega,by omega,?_⟩
  rw[e1]
  conv=>whnf
  refine⟨E,by omega,by omega,?_⟩
  rw[hy]
  conv=>whnf
  refine kW ?_
  (repeat' (first | (refine⟨fun h=>?_,fun h=>?_⟩<;>(repeat (first | simp only[beq_iff_eq]at h | simp only[beq_eq_false_iff_ne]at h))<;>((refine oO ?_);repeat((refine aF ?_);(refine oO ?_)))) | (refine⟨by (unfold I64;omega),?_⟩;((conv=>whnf))) | (refine Ae (Ad Γ.toTy 62 rfl rfl rfl rfl rfl (.row rfl) (.lit (e:=Ab) (l:=[true]) rfl rfl) qz (by simp;omega) (by simp;omega)) rfl rfl ?_;((refine oO ?_))) | (refine Ae (Ad Γ.toTy 62 rfl rfl rfl rfl rfl (.row rfl) (.lit (e:=Ab) (l:=[false]) rfl rfl) qz (by simp;omega) (by simp;omega)) rfl rfl ?_;((refine oO ?_))) | (refine Ae (Ad Γ.toTy 62 rfl rfl rfl rfl rfl (.row rfl) (.lit (e:=Ab) (l:=[y == 1]) rfl rfl) qz (by simp;omega) (by simp;omega)) rfl rfl ?_;((refine oO ?_))) | refine An [(1000,62)] hlt ⟨⟨rfl,rfl,rfl,rfl,rfl,rfl,rfl,rfl,trivial⟩,⟨.inl (congrArg (Ob.row 1 Ab) ?_),rfl,trivial⟩,rfl,rfl⟩))
  all_goals (rw[hsucc];clear hF hro;refine congrArg (fun z=>o++[z]) ?_;clear hsucc;simp_all)
 have hjj:j=n.links.length:=by
  have:¬ j<n.links.length:=by simpa using h
  omega
 subst hjj
 rw[List.take_length]
 refine oO ?_
 refine Ap 1000 E ?_
 exact dN
def Asr (n:Net) (m:MacM) (q:QueuedM) (l:List SeenM):Obs:=[(0,.box (J0 n m.up m.now m.injected m.drops)),(902,.row 1 Id m.tables),(903,.row 1 I8 m.queues),(5,.box (queL q)),(1000,.row 3 B3 l)]
theorem Asq (n:Net) (hn:n.Fin) (hm1:n.Num) (m:MacM) (J D:Int) (hm0:MacOK n m J D) (hD0:0≤D) (hD:D≤900000000000) (x:StepM) :
  Sy.Spec Tryz.prog 128 [.ptr 0 0,Bw x] (Ed n m) (.sl 3 B3 (pickT n m x.domain x.at_).2) (Ed n (pickT n m x.domain x.at_).1):=cT F128 Tryz.ntmps128 fun F hF=>by
 have hres:=pickT.eq_1 n m x.domain x.at_
 generalize pickT n m x.domain x.at_=res at *
 have q1:=Aix n m x (Cn hm0 x.domain)
 have hok:=Vd hm0 x.domain x.at_
 have hpl:(takeM m x.domain x.at_).2.2=true→0≤x.domain∧x.domain.toNat<m.queues.length:=fun h=>by
  unfold takeM at h
  split at h
  ·cases h
  ·rename_i h2
   exact placeB_iff.1 (by cases hx:Ak x.domain m.queues.length;exact absurd hx h2;rfl)
 have htl:(takeM m x.domain x.at_).1.tables=m.tables:=by unfold takeM;split<;>rfl
 generalize takeM m x.domain x.at_=r at *
 obtain ⟨m1,q,ok⟩:=r
 have htq:m.queues.length=m.tables.length:=by rw[hm0.ques,hm0.tabs]
 conv=>whnf
 refine Ae (Ah [] E F129 q1 E ⟨E,E,E,Y⟩ E ⟨.inl E,.inl E,.inl E,Y⟩) E E ?_
 refine oO ?_
 cases ok
 ·rw[if_pos rfl]at hres
  subst hres
  (refine⟨fun _=>?_,fun h=>False.elim (by simp at h)⟩;refine rg ?_;conv=>whnf)
  refine Ai 4 3 B3 E ?_
  exact done E (.cons .tmp .nil) [] (Ed n m1) (fun _ h=>h) E E ⟨Y,⟨.inl E,E,.inl E,E,.inl E,E,Y⟩,E,E⟩
 rw[if_neg qz]at hres
 have hd:=hpl rfl
 have hd2:0≤x.domain∧x.domain.toNat<m1.tables.length:=by rw[htl,← htq];exact hd
 dsimp only at hres hok
 have hf:∃ e,Sy.Spec Tryz.prog 123 [Aj n,.sl 1 Ab m1.up] [] (.tup [.sl 1 Ab (I3 n m1.up),Aa e]) []:=by
  unfold I3
  split
  ·rename_i h;exact⟨0,Vo n m1.up hn h⟩
  ·rename_i h;exact⟨2,Ts n m1.up hn (by simpa using h)⟩
 obtain ⟨ef,hf⟩:=hf
 have q3:=Aj9 n hn hm1 (I3 n m1.up) (tableL m1 x.domain) x.domain q m1.now (Md hok.1 x.domain) hok.2
 have hb1:=Sg (n:=n) (fw:=I3 n m1.up) (dom:=x.domain) (now:=m1.now) (Md hok.1 x.domain) hok.2
 have hb2:=Sh (fw:=I3 n m1.up) (t:=tableL m1 x.domain) (dom:=x.domain) (now:=m1.now) hn hm1 hok.2
 have hb3:=Si hn (I3 n m1.up) (tableL m1 x.domain) x.domain q m1.now
 have hb4:=Y0 n (I3 n m1.up) (tableL m1 x.domain) x.domain q m1.now
 rw[Adc]at hres
 have hz:=Aaz hok.1 hD0 x.domain hb1
 have hdr0:∀ i,0≤m1.drops i∧m1.drops i≤1000000000000:=fun i=>⟨(hok.1.drp i).1,by have:=(hok.1.drp i).2;omega⟩
 generalize bridgeT n (I3 n m1.up) (tableL m1 x.domain) x.domain q m1.now=b at *
 generalize I3 n m1.up=fw at *
 obtain ⟨t,out,e⟩:=b
 have hb2:∀ o∈out,OutOK n o:=hb2
 have hb3:out.length<4294967296:=hb3
 have hb4:By e:=hb4
 have ht0:=tableL.eq_1 m1 x.domain
 rw[Lu hd2.2]at ht0
 generalize tableL m1 x.domain=t0 at *
 subst ht0
 (refine⟨fun h=>False.elim (by simp at h),fun _=>?_⟩;refine rg ?_;conv=>whnf)
 refine cD hf F123 ?_
 refine oD ?_
 refine kW ?_
 refine⟨hd2.1,hd2.2,?_⟩
 conv=>whnf
 refine⟨E,hd2.2,?_⟩
 conv=>whnf
 refine cD q3 F189 ?_
 refine oD ?_
 refine kW ?_
 refine⟨fun h=>?_,fun h=>?_⟩
 ·have h2:¬ e=2:=by simpa using h
  clear h
  refine oO ?_
  refine⟨hd2.1,hd2.2,?_⟩
  conv=>whnf
  refine⟨E,hd2.2,t,E,E,?_⟩
  conv=>whnf
  refine kW ?_
  refine⟨fun h=>?_,fun h=>?_⟩
  ·have h3:¬ e=0:=by simpa using h
   clear h
   have hpd:K3 m1 x.domain (t,out,e)=Bf (Bz m1 x.domain t) e:=by
    unfold K3
    rw[if_neg h2,if_pos h3]
   rw[hpd]at hres hz
   subst hres
   have hbe:=hdr0 e.toNat
   have hg:H8 ⟨.int .i64,1,[.int .i64 0]⟩ (J0 n (Bz m1 x.domain t).up (Bz m1 x.domain t).now (Bz m1 x.domain t).injected (Bz m1 x.domain t).drops) (0+13+e.toNat * 1)=_:=Jz n (Bz m1 x.domain t).up (Bz m1 x.domain t).now (Bz m1 x.domain t).injected (Bz m1 x.domain t).drops e.toNat (by have:=hb4.2;omega)
   have hgl:=Lt (Jz n (Bz m1 x.domain t).up (Bz m1 x.domain t).now (Bz m1 x.domain t).injected (Bz m1 x.domain t).drops e.toNat (by have:=hb4.2;omega))
   have hst2:setAt (J0 n (Bz m1 x.domain t).up (Bz m1 x.domain t).now (Bz m1 x.domain t).injected (Bz m1 x.domain t).drops) (0+13+e.toNat * 1) [.val (.int .i64 ((Bz m1 x.domain t).drops e.toNat+1))]=J0 n (Bz m1 x.domain t).up (Bz m1 x.domain t).now (Bz m1 x.domain t).injected (Bf (Bz m1 x.domain t) e).drops:=by rw[Mw n (Bz m1 x.domain t) e,Mf]
   have hble:Nat.ble (0+13+e.toNat * 1+1) (J0 n (Bz m1 x.domain t).up (Bz m1 x.domain t).now (Bz m1 x.domain t).injected (Bz m1 x.domain t).drops).length=true:=Nat.ble_eq_true_of_le hgl
   refine oO ?_
   refine⟨hb4.1,by have:=hb4.2;show e.toNat<64;omega,?_⟩
   conv=>whnf
   refine Amw ?_ hg
   conv=>whnf
   refine⟨(show I64 (m1.drops e.toNat+1) by unfold I64;omega),?_⟩
   conv=>whnf
   refine⟨hb4.1,by have:=hb4.2;show e.toNat<64;omega,?_⟩
   conv=>whnf
   refine Zj (Anb hst2 ?_) hble
   conv=>whnf
   refine kW ?_
   have hdr:H4 (Bf (Bz m1 x.domain t) e):=fun i=>⟨(hz.drp i).1,by have:=(hz.drp i).2;omega⟩
   refine Bo 12 1000 3 B3 E E ?_
   refine Aq out.length (fun j=>[(0,.ptr 0 0),(5,.ptr 5 0),(10,.sl 9 Bi out),(12,.osl 1000),(13,Aa j)]) (fun j=>Asr n (A9 n (Bf (Bz m1 x.domain t) e) q.origin (out.take j)).1 q (A9 n (Bf (Bz m1 x.domain t) e) q.origin (out.take j)).2) [] ⟨⟨E,E,E,E,E,E,E,E,E,E,Y⟩,⟨.inl E,E,.inl E,E,.inl E,E,.inl E,E,.inl E,E,Y⟩,E,E⟩ ?_
   intro j hj
   refine oO ?_
   refine⟨fun h=>?_,fun h=>?_⟩
   ·have hlt:j<out.length:=qA h
    have hj0:((j:Nat):Int).toNat<out.length:=by simpa using hlt
    obtain ⟨o,hoo⟩:∃ o,out[j]=o:=⟨_,rfl⟩
    have e1:out[((j:Nat):Int).toNat]'hj0=o:=hoo
    have hs:=Jg n (Bf (Bz m1 x.domain t) e) q.origin out j hlt
    rw[hoo]at hs
    have hjo:=Jy hn q.origin (out.take j) hz qn (fun x hx=>hb2 x (List.mem_of_mem_take hx))
    have hlen:(out.take j).length=j:=by rw[List.length_take];omega
    rw[hlen]at hjo
    have hsl:=Jh n q.origin (out.take j) (Bf (Bz m1 x.domain t) e)
    rw[hlen]at hsl
    have q5:=Afu n hn hm1 (A9 n (Bf (Bz m1 x.domain t) e) q.origin (out.take j)).1 J _ hjo qn o (hb2 o (by rw[← hoo];exact List.getElem_mem hlt)) q.origin
    have hfw:=Jf n (A9 n (Bf (Bz m1 x.domain t) e) q.origin (out.take j)).1 o q.origin
    clear h
    refine oO ?_
    refine⟨E,by omega,hj0,?_⟩
    rw[e1]
    conv=>whnf
    refine Bb (Ah [] E F190 q5 E ⟨E,E,E,Y⟩ E ⟨.inl E,.inl E,.inl E,Y⟩) qq E ?_
    refine oD ?_
    refine Bb (Ad Γ.toTy 96 E E E E E (.row E) .sl qz qn qn) qq E ?_
    refine oD ?_
    refine kW ?_
    refine iW ?_
    have g1:(A9 n (Bf (Bz m1 x.domain t) e) q.origin (out.take (j+1))).1=(goesM n (A9 n (Bf (Bz m1 x.domain t) e) q.origin (out.take j)).1 o q.origin).1:=by rw[hs]
    have g2:(A9 n (Bf (Bz m1 x.domain t) e) q.origin (out.take (j+1))).2=(A9 n (Bf (Bz m1 x.domain t) e) q.origin (out.take j)).2++(goesM n (A9 n (Bf (Bz m1 x.domain t) e) q.origin (out.take j)).1 o q.origin).2:=by rw[hs]
    refine An [(1000,96)] hlt ⟨⟨E,E,E,E,E,E,E,E,E,E,Y⟩,?_,E,E⟩
    dsimp only
    rw[g1,g2]
    exact⟨.inl E,E,.inl E,E,.inl E,E,.inl E,E,.inl E,E,Y⟩
   ·have hjj:j=out.length:=qB h
    subst hjj
    rw[List.take_length]
    clear h
    refine oO ?_
    refine Ap 1000 E ?_
    exact done E (.cons .tmp .nil) [] (Ed n (A9 n (Bf (Bz m1 x.domain t) e) q.origin out).1) (fun _ h=>h) E E ⟨Y,⟨.inl E,E,.inl E,E,.inl E,E,Y⟩,E,E⟩
  ·have h3:e=0:=by simpa using h
   clear h
   have hpd:K3 m1 x.domain (t,out,e)=Bz m1 x.domain t:=by
    unfold K3
    rw[if_neg h2,if_neg (fun h=>h h3)]
   rw[hpd]at hres hz
   subst hres
   refine oO ?_
   have hdr:H4 (Bz m1 x.domain t):=fun i=>⟨(hz.drp i).1,by have:=(hz.drp i).2;omega⟩
   refine Bo 12 1000 3 B3 E E ?_
   refine Aq out.length (fun j=>[(0,.ptr 0 0),(5,.ptr 5 0),(10,.sl 9 Bi out),(12,.osl 1000),(13,Aa j)]) (fun j=>Asr n (A9 n (Bz m1 x.domain t) q.origin (out.take j)).1 q (A9 n (Bz m1 x.domain t) q.origin (out.take j)).2) [] ⟨⟨E,E,E,E,E,E,E,E,E,E,Y⟩,⟨.inl E,E,.inl E,E,.inl E,E,.inl E,E,.inl E,E,Y⟩,E,E⟩ ?_
   intro j hj
   refine oO ?_
   refine⟨fun h=>?_,fun h=>?_⟩
   ·have hlt:j<out.length:=qA h
    have hj0:((j:Nat):Int).toNat<out.length:=by simpa using hlt
    obtain ⟨o,hoo⟩:∃ o,out[j]=o:=⟨_,rfl⟩
    have e1:out[((j:Nat):Int).toNat]'hj0=o:=hoo
    have hs:=Jg n (Bz m1 x.domain t) q.origin out j hlt
    rw[hoo]at hs
    have hjo:=Jy hn q.origin (out.take j) hz qn (fun x hx=>hb2 x (List.mem_of_mem_take hx))
    have hlen:(out.take j).length=j:=by rw[List.length_take];omega
    rw[hlen]at hjo
    have hsl:=Jh n q.origin (out.take j) (Bz m1 x.domain t)
    rw[hlen]at hsl
    have q5:=Afu n hn hm1 (A9 n (Bz m1 x.domain t) q.origin (out.take j)).1 J _ hjo qn o (hb2 o (by rw[← hoo];exact List.getElem_mem hlt)) q.origin
    have hfw:=Jf n (A9 n (Bz m1 x.domain t) q.origin (out.take j)).1 o q.origin
    clear h
    refine oO ?_
    refine⟨E,by omega,hj0,?_⟩
    rw[e1]
    conv=>whnf
    refine Bb (Ah [] E F190 q5 E ⟨E,E,E,Y⟩ E ⟨.inl E,.inl E,.inl E,Y⟩) qq E ?_
    refine oD ?_
    refine Bb (Ad Γ.toTy 96 E E E E E (.row E) .sl qz qn qn) qq E ?_
    refine oD ?_
    refine kW ?_
    refine iW ?_
    have g1:(A9 n (Bz m1 x.domain t) q.origin (out.take (j+1))).1=(goesM n (A9 n (Bz m1 x.domain t) q.origin (out.take j)).1 o q.origin).1:=by rw[hs]
    have g2:(A9 n (Bz m1 x.domain t) q.origin (out.take (j+1))).2=(A9 n (Bz m1 x.domain t) q.origin (out.take j)).2++(goesM n (A9 n (Bz m1 x.domain t) q.origin (out.take j)).1 o q.origin).2:=by rw[hs]
    refine An [(1000,96)] hlt ⟨⟨E,E,E,E,E,E,E,E,E,E,Y⟩,?_,E,E⟩
    dsimp only
    rw[g1,g2]
    exact⟨.inl E,E,.inl E,E,.inl E,E,.inl E,E,.inl E,E,Y⟩
   ·have hjj:j=out.length:=qB h
    subst hjj
    rw[List.take_length]
    clear h
    refine oO ?_
    refine Ap 1000 E ?_
    exact done E (.cons .tmp .nil) [] (Ed n (A9 n (Bz m1 x.domain t) q.origin out).1) (fun _ h=>h) E E ⟨Y,⟨.inl E,E,.inl E,E,.inl E,E,Y⟩,E,E⟩
 ·have h2:e=2:=by simpa using h
  clear h
  have hpd:K3 m1 x.domain (t,out,e)=Bf m1 e:=by
   unfold K3
   rw[if_pos h2,h2]
  rw[hpd]at hres hz
  subst hres
  refine oO ?_
  refine⟨fun _=>?_,fun h=>False.elim (by rw[h2]at h;simp at h)⟩
  have hbe:=hdr0 e.toNat
  have hg:H8 ⟨.int .i64,1,[.int .i64 0]⟩ (J0 n (m1).up (m1).now (m1).injected (m1).drops) (0+13+e.toNat * 1)=_:=Jz n (m1).up (m1).now (m1).injected (m1).drops e.toNat (by have:=hb4.2;omega)
  have hgl:=Lt (Jz n (m1).up (m1).now (m1).injected (m1).drops e.toNat (by have:=hb4.2;omega))
  have hst2:setAt (J0 n (m1).up (m1).now (m1).injected (m1).drops) (0+13+e.toNat * 1) [.val (.int .i64 ((m1).drops e.toNat+1))]=J0 n (m1).up (m1).now (m1).injected (Bf (m1) e).drops:=by rw[Mw n (m1) e,Mf]
  have hble:Nat.ble (0+13+e.toNat * 1+1) (J0 n (m1).up (m1).now (m1).injected (m1).drops).length=true:=Nat.ble_eq_true_of_le hgl
  refine oO ?_
  refine⟨hb4.1,by have:=hb4.2;show e.toNat<64;omega,?_⟩
  conv=>whnf
  refine Amw ?_ hg
  conv=>whnf
  refine⟨(show I64 (m1.drops e.toNat+1) by unfold I64;omega),?_⟩
  conv=>whnf
  refine⟨hb4.1,by have:=hb4.2;show e.toNat<64;omega,?_⟩
  conv=>whnf
  refine Zj (Anb hst2 ?_) hble
  conv=>whnf
  refine kW ?_
  have hdr:H4 (Bf m1 e):=fun i=>⟨(hz.drp i).1,by have:=(hz.drp i).2;omega⟩
  refine Bo 12 1000 3 B3 E E ?_
  refine Aq out.length (fun j=>[(0,.ptr 0 0),(5,.ptr 5 0),(10,.sl 9 Bi out),(12,.osl 1000),(13,Aa j)]) (fun j=>Asr n (A9 n (Bf m1 e) q.origin (out.take j)).1 q (A9 n (Bf m1 e) q.origin (out.take j)).2) [] ⟨⟨E,E,E,E,E,E,E,E,E,E,Y⟩,⟨.inl E,E,.inl E,E,.inl E,E,.inl E,E,.inl E,E,Y⟩,E,E⟩ ?_
  intro j hj
  refine oO ?_
  refine⟨fun h=>?_,fun h=>?_⟩
  ·have hlt:j<out.length:=qA h
   have hj0:((j:Nat):Int).toNat<out.length:=by simpa using hlt
   obtain ⟨o,hoo⟩:∃ o,out[j]=o:=⟨_,rfl⟩
   have e1:out[((j:Nat):Int).toNat]'hj0=o:=hoo
   have hs:=Jg n (Bf m1 e) q.origin out j hlt
   rw[hoo]at hs
   have hjo:=Jy hn q.origin (out.take j) hz qn (fun x hx=>hb2 x (List.mem_of_mem_take hx))
   have hlen:(out.take j).length=j:=by rw[List.length_take];omega
   rw[hlen]at hjo
   have hsl:=Jh n q.origin (out.take j) (Bf m1 e)
   rw[hlen]at hsl
   have q5:=Afu n hn hm1 (A9 n (Bf m1 e) q.origin (out.take j)).1 J _ hjo qn o (hb2 o (by rw[← hoo];exact List.getElem_mem hlt)) q.origin
   have hfw:=Jf n (A9 n (Bf m1 e) q.origin (out.take j)).1 o q.origin
   clear h
   refine oO ?_
   refine⟨E,by omega,hj0,?_⟩
   rw[e1]
   conv=>whnf
   refine Bb (Ah [] E F190 q5 E ⟨E,E,E,Y⟩ E ⟨.inl E,.inl E,.inl E,Y⟩) qq E ?_
   refine oD ?_
   refine Bb (Ad Γ.toTy 96 E E E E E (.row E) .sl qz qn qn) qq E ?_
   refine oD ?_
   refine kW ?_
   refine iW ?_
   have g1:(A9 n (Bf m1 e) q.origin (out.take (j+1))).1=(goesM n (A9 n (Bf m1 e) q.origin (out.take j)).1 o q.origin).1:=by rw[hs]
   have g2:(A9 n (Bf m1 e) q.origin (out.take (j+1))).2=(A9 n (Bf m1 e) q.origin (out.take j)).2++(goesM n (A9 n (Bf m1 e) q.origin (out.take j)).1 o q.origin).2:=by rw[hs]
   refine An [(1000,96)] hlt ⟨⟨E,E,E,E,E,E,E,E,E,E,Y⟩,?_,E,E⟩
   dsimp only
   rw[g1,g2]
   exact⟨.inl E,E,.inl E,E,.inl E,E,.inl E,E,.inl E,E,Y⟩
  ·have hjj:j=out.length:=qB h
   subst hjj
   rw[List.take_length]
   clear h
   refine oO ?_
   refine Ap 1000 E ?_
   exact done E (.cons .tmp .nil) [] (Ed n (A9 n (Bf m1 e) q.origin out).1) (fun _ h=>h) E E ⟨Y,⟨.inl E,E,.inl E,E,.inl E,E,Y⟩,E,E⟩
def Ave (n:Net) (m:MacM) (now:Int) (j:Nat):Obs:=[(0,.box (J0 n m.up now m.injected m.drops)),(902,.row 1 Id (Mb m.tables now j)),(903,.row 1 I8 m.queues)]
theorem Ab0 (n:Net) (hn:n.Fin) (hm1:n.Num) (hrt:Ac n=true) (m:MacM) (J D:Int) (hm0:MacOK n m J D) (hJ:J<900000000000) (hD0:0≤D) (hD:D≤900000000000) (x:StepM) (hb:x.bytes.length<100000) :
  Sy.Spec Tryz.prog 58 [.ptr 0 0,Bw x] (Ed n m) (.sl 3 B3 (doT n m x).2) (Ed n (doT n m x).1):=cT F58 Tryz.ntmps58 fun F hF=>by
 have hres:=doT.eq_1 n m x
 generalize doT n m x=res at *
 have hls:=hn.links
 unfold Al at hls
 conv=>whnf
 refine⟨fun h=>?_,fun h=>?_⟩
 ·have h1:x.kind=1:=by simpa using h
  rw[if_pos h1]at hres
  have hij:=injectT.eq_1 n m x.port x.bytes
  generalize injectT n m x.port x.bytes=ri at *
  subst hres
  clear h
  have q0:=A1 x.port n.ports.length
  have hpl:=placeB_iff (d:=x.port) (k:=n.ports.length)
  generalize Ak x.port n.ports.length=pb at *
  refine oO ?_
  refine cD q0 F46 ?_
  cases pb
  ·rw[if_pos (.inl rfl)]at hij
   subst hij
   (refine oD ?_;refine aF ?_;refine oD ?_)
   refine⟨qq,?_⟩
   ((conv=>whnf);refine aF ?_;refine rg ?_;conv=>whnf)
   (skip)
   refine Ai 4 3 B3 E ?_
   exact done E (.cons .tmp .nil) [] (Ed n ri) (fun _ h=>h) E E ⟨Y,⟨.inl E,E,.inl E,E,.inl E,E,Y⟩,E,E⟩
  have hp:=hpl.1 rfl
  have hlk:=Hb hrt hp.2
  rw[Ag hp.2]at hij
  obtain ⟨p,hpp⟩:∃ p,n.ports[x.port.toNat]'hp.2=p:=⟨_,rfl⟩
  rw[hpp]at hij hlk
  have hinj:=hm0.inj
  have hok:MacOK n ⟨m.up,m.tables,m.queues,m.now,m.injected+1,m.drops⟩ (J+1) D:=⟨hm0.up,hm0.tabs,hm0.ques,hm0.tab,hm0.que,hm0.now,⟨by dsimp only;omega,by dsimp only;omega⟩,hm0.drp⟩
  have hdr:H4 ⟨m.up,m.tables,m.queues,m.now,m.injected+1,m.drops⟩:=fun i=>⟨(hm0.drp i).1,by have:=(hm0.drp i).2;dsimp only at *;omega⟩
  have he:=Ux n x.port x.bytes
  have hdom:=Uy (n:=n) (port:=x.port) (b:=x.bytes)
  have q1:=Aha n hn x.port x.bytes hb
  have hfr:=Ta n x.port x.bytes
  generalize enterT n x.port x.bytes=r at *
  have q2:=Wk n ⟨m.up,m.tables,m.queues,m.now,m.injected+1,m.drops⟩ r.1 ⟨x.port,0,m.injected+1,r.2.1⟩ r.2.2 ⟨he.1,by have:=he.2;omega⟩ (fun h=>by
   have:=hdom h
   exact⟨this.1,by show r.1.toNat<m.queues.length;rw[hm0.ques];exact this.2⟩) hdr (Cn hok _) (Dv hfr _ ⟨by omega,by have:=hn.ports;unfold Al at this;omega⟩ qy)
  (refine oD ?_;refine aT ?_;refine oD ?_)
  refine⟨E,hp.1,hp.2,?_⟩
  rw[hpp]
  conv=>whnf
  refine kW ?_
  refine⟨fun h=>?_,fun h=>?_⟩
  ·have h2:p.link=-1:=by simpa using h
   rw[if_neg (by simp;omega)]at hij
   subst hij
   clear h
   refine oO ?_
   refine iW ?_
   refine cD q1 F126 ?_
   refine oD ?_
   refine kW ?_
   refine Bb (Ah [] E F127 q2 E ⟨E,E,E,Y⟩ E ⟨.inl E,.inl E,.inl E,Y⟩) qq E ?_
   refine oD ?_
   refine kW ?_
   refine Ai 4 3 B3 E ?_
   exact done E (.cons .tmp .nil) [] (Ed n (comeM _ _ _ _)) (fun _ h=>h) E E ⟨Y,⟨.inl E,E,.inl E,E,.inl E,E,Y⟩,E,E⟩
  ·have h2:¬ p.link=-1:=by simpa using h
   rw[if_pos (.inr qn)]at hij
   subst hij
   refine oO ?_
   refine Ai 4 3 B3 E ?_
   exact done E (.cons .tmp .nil) [] (Ed n ri) (fun _ h=>h) E E ⟨Y,⟨.inl E,E,.inl E,E,.inl E,E,Y⟩,E,E⟩
 have h1:¬ x.kind=1:=by simpa using h
 rw[if_neg h1]at hres
 clear h
 refine oO ?_
 refine⟨fun h=>?_,fun h=>?_⟩
 ·have h1:x.kind=2:=by simpa using h
  rw[if_pos h1]at hres
  subst hres
  have q1:=Asq n hn hm1 m J D hm0 hD0 hD x
  refine oO ?_
  refine Ae (Ah [] E F128 q1 E ⟨E,E,E,Y⟩ E ⟨.inl E,.inl E,.inl E,Y⟩) E E ?_
  refine oO ?_
  exact done E (.cons .tmp .nil) [] (Ed n (pickT n m x.domain x.at_).1) (fun _ h=>h) E E ⟨Y,⟨.inl E,E,.inl E,E,.inl E,E,Y⟩,E,E⟩
 have h1:¬ x.kind=2:=by simpa using h
 rw[if_neg h1]at hres
 clear h
 refine oO ?_
 refine⟨fun h=>?_,fun h=>?_⟩
 ·have h1:x.kind=3:=by simpa using h
  rw[if_pos h1]at hres
  subst hres
  have q1:=Aix n m x (Cn hm0 _)
  refine oO ?_
  refine Ae (Ah [] E F129 q1 E ⟨E,E,E,Y⟩ E ⟨.inl E,.inl E,.inl E,Y⟩) E E ?_
  refine oO ?_
  refine Ai 4 3 B3 E ?_
  exact done E (.cons .tmp .nil) [] (Ed n (takeM m x.domain x.at_).1) (fun _ h=>h) E E ⟨Y,⟨.inl E,E,.inl E,E,.inl E,E,Y⟩,E,E⟩
 have h1:¬ x.kind=3:=by simpa using h
 rw[if_neg h1]at hres
 clear h
 refine oO ?_
 refine⟨fun h=>?_,fun h=>?_⟩
 ·have h1:x.kind=4:=by simpa using h
  rw[if_pos h1]at hres
  have hnow:=hm0.now
  have htl:m.tables.length<2147483648:=by rw[hm0.tabs];exact hn.domains
  have hto:=hm0.tab
  have hti:∀ nw,min (m.now+1) 1099511627776=nw→O4 m=⟨m.up,Mb m.tables nw m.tables.length,m.queues,nw,m.injected,m.drops⟩:=fun nw this=>by
   unfold O4 Mb
   rw[this,List.take_length,List.drop_length,List.append_nil]
  clear h
  refine oO ?_
  refine⟨fun h=>?_,fun h=>?_⟩
  ·have h2:m.now<1099511627776:=of_decide_eq_true h
   rw[hti (m.now+1) qn]at hres
   subst hres
   clear h
   refine oO ?_
   refine iW ?_
   refine Aq m.tables.length (fun j=>[(0,.ptr 0 0),(8,Aa j)]) (fun j=>Ave n m (m.now+1) j) [] ⟨⟨E,E,E,E,Y⟩,⟨.inl E,E,.inl E,E,.inl E,E,Y⟩,E,E⟩ ?_
   intro j hj
   have hal:=Sp m.tables (m.now+1) j
   refine oO ?_
   refine⟨fun h=>?_,fun h=>?_⟩
   ·have hlt:j<m.tables.length:=qA h
    have hj0:((j:Nat):Int).toNat<(Mb m.tables (m.now+1) j).length:=by rw[hal];simpa using hlt
    obtain ⟨t,hoo⟩:∃ t,m.tables[j]=t:=⟨_,rfl⟩
    have e1:(Mb m.tables (m.now+1) j)[((j:Nat):Int).toNat]'hj0=t:=(Acb m.tables (m.now+1) j hlt (by rw[hal];exact hlt)).trans hoo
    have hs:=W3 m.tables (m.now+1) j hlt
    rw[hoo]at hs
    have ht:=hto t (by rw[← hoo];exact List.getElem_mem hlt)
    clear h
    refine oO ?_
    refine⟨by omega,hj0,?_⟩
    conv=>whnf
    refine⟨E,hj0,?_⟩
    rw[e1]
    conv=>whnf
    refine cD (Adb t (m.now+1) ht.short ht.mac) F130 ?_
    refine oD ?_
    refine⟨by omega,hj0,?_⟩
    conv=>whnf
    refine⟨E,hj0,ageT t (m.now+1),E,E,?_⟩
    conv=>whnf
    refine kW ?_
    refine iW ?_
    exact An [] hlt ⟨⟨E,E,E,E,Y⟩,⟨.inl E,E,.inl (congrArg (Ob.row 1 Id) hs.symm),E,.inl E,E,Y⟩,E,E⟩
   ·have hjj:j=m.tables.length:=qB h
    subst hjj
    clear h
    refine oO ?_
    refine Ai 4 3 B3 E ?_
    exact done E (.cons .tmp .nil) [] (Ed n ⟨m.up,Mb m.tables (m.now+1) m.tables.length,m.queues,(m.now+1),m.injected,m.drops⟩) (fun _ h=>h) E E ⟨Y,⟨.inl E,E,.inl E,E,.inl E,E,Y⟩,E,E⟩
  ·have h2:¬ m.now<1099511627776:=of_decide_eq_false h
   rw[hti m.now qn]at hres
   subst hres
   clear h
   refine oO ?_
   refine Aq m.tables.length (fun j=>[(0,.ptr 0 0),(8,Aa j)]) (fun j=>Ave n m (m.now) j) [] ⟨⟨E,E,E,E,Y⟩,⟨.inl E,E,.inl E,E,.inl E,E,Y⟩,E,E⟩ ?_
   intro j hj
   have hal:=Sp m.tables (m.now) j
   refine oO ?_
   refine⟨fun h=>?_,fun h=>?_⟩
   ·have hlt:j<m.tables.length:=qA h
    have hj0:((j:Nat):Int).toNat<(Mb m.tables (m.now) j).length:=by rw[hal];simpa using hlt
    obtain ⟨t,hoo⟩:∃ t,m.tables[j]=t:=⟨_,rfl⟩
    have e1:(Mb m.tables (m.now) j)[((j:Nat):Int).toNat]'hj0=t:=(Acb m.tables (m.now) j hlt (by rw[hal];exact hlt)).trans hoo
    have hs:=W3 m.tables (m.now) j hlt
    rw[hoo]at hs
    have ht:=hto t (by rw[← hoo];exact List.getElem_mem hlt)
    clear h
    refine oO ?_
    refine⟨by omega,hj0,?_⟩
    conv=>whnf
    refine⟨E,hj0,?_⟩
    rw[e1]
    conv=>whnf
    refine cD (Adb t (m.now) ht.short ht.mac) F130 ?_
    refine oD ?_
    refine⟨by omega,hj0,?_⟩
    conv=>whnf
    refine⟨E,hj0,ageT t (m.now),E,E,?_⟩
    conv=>whnf
    refine kW ?_
    refine iW ?_
    exact An [] hlt ⟨⟨E,E,E,E,Y⟩,⟨.inl E,E,.inl (congrArg (Ob.row 1 Id) hs.symm),E,.inl E,E,Y⟩,E,E⟩
   ·have hjj:j=m.tables.length:=qB h
    subst hjj
    clear h
    refine oO ?_
    refine Ai 4 3 B3 E ?_
    exact done E (.cons .tmp .nil) [] (Ed n ⟨m.up,Mb m.tables (m.now) m.tables.length,m.queues,(m.now),m.injected,m.drops⟩) (fun _ h=>h) E E ⟨Y,⟨.inl E,E,.inl E,E,.inl E,E,Y⟩,E,E⟩
 have h1:¬ x.kind=4:=by simpa using h
 rw[if_neg h1]at hres
 clear h
 refine oO ?_
 refine⟨fun h=>?_,fun h=>?_⟩
 ·have h1:x.kind=5:=by simpa using h
  rw[if_pos h1]at hres
  clear h
  refine oO ?_
  refine kW ?_
  refine⟨fun h=>?_,fun h=>?_⟩
  ·have h2:x.up.length=n.links.length:=qA h
   rw[if_pos h2]at hres
   subst hres
   clear h
   refine oO ?_
   refine Ae (Ad Γ.toTy 134 E E E E E (.lit (e:=Ab) (l:=[]) E E) .sl qz (by simp;omega) (by simp;omega)) E E ?_
   refine Ap 134 E ?_
   refine oO ?_
   refine Ai 4 3 B3 E ?_
   exact done E (.cons .tmp .nil) [] (Ed n (upT m x.up)) (fun _ h=>h) E E ⟨Y,⟨.inl E,E,.inl E,E,.inl E,E,Y⟩,E,E⟩
  ·have h2:¬ x.up.length=n.links.length:=qB h
   rw[if_neg h2]at hres
   subst hres
   clear h
   refine oO ?_
   refine Ai 4 3 B3 E ?_
   exact done E (.cons .tmp .nil) [] (Ed n m) (fun _ h=>h) E E ⟨Y,⟨.inl E,E,.inl E,E,.inl E,E,Y⟩,E,E⟩
 have h1:¬ x.kind=5:=by simpa using h
 rw[if_neg h1]at hres
 subst hres
 clear h
 refine oO ?_
 refine Ai 4 3 B3 E ?_
 exact done E (.cons .tmp .nil) [] (Ed n m) (fun _ h=>h) E E ⟨Y,⟨.inl E,E,.inl E,E,.inl E,E,Y⟩,E,E⟩
def docC (n:Net) (c8 c9 c10:SV) (now inj:Int) (d:Nat→Int):List SV :=
 [.sl 5 Bn n.devices,.sl 7 A7 n.ports,.sl 3 Cp n.links,.sl 6 Au n.domains,.sl 4 Bk n.statics,.sl 4 B1 n.floods,.sl 5 C3 n.vrfs,.sl 5 Cr n.irbs,c8,c9,c10,.val (.int .i64 now),.val (.int .i64 inj),
 .val (.int .i64 (d 0)),.val (.int .i64 (d 1)),.val (.int .i64 (d 2)),.val (.int .i64 (d 3)),.val (.int .i64 (d 4)),.val (.int .i64 (d 5)),.val (.int .i64 (d 6)),.val (.int .i64 (d 7)),.val (.int .i64 (d 8)),.val (.int .i64 (d 9)),.val (.int .i64 (d 10)),.val (.int .i64 (d 11)),.val (.int .i64 (d 12)),.val (.int .i64 (d 13)),.val (.int .i64 (d 14)),.val (.int .i64 (d 15)),.val (.int .i64 (d 16)),.val (.int .i64 (d 17)),.val (.int .i64 (d 18)),.val (.int .i64 (d 19)),.val (.int .i64 (d 20)),.val (.int .i64 (d 21)),.val (.int .i64 (d 22)),.val (.int .i64 (d 23)),.val (.int .i64 (d 24)),.val (.int .i64 (d 25)),.val (.int .i64 (d 26)),.val (.int .i64 (d 27)),.val (.int .i64 (d 28)),.val (.int .i64 (d 29)),.val (.int .i64 (d 30)),.val (.int .i64 (d 31)),.val (.int .i64 (d 32)),.val (.int .i64 (d 33)),.val (.int .i64 (d 34)),.val (.int .i64 (d 35)),.val (.int .i64 (d 36)),.val (.int .i64 (d 37)),.val (.int .i64 (d 38)),.val (.int .i64 (d 39)),.val (.int .i64 (d 40)),.val (.int .i64 (d 41)),.val (.int .i64 (d 42)),.val (.int .i64 (d 43)),.val (.int .i64 (d 44)),.val (.int .i64 (d 45)),.val (.int .i64 (d 46)),.val (.int .i64 (d 47)),.val (.int .i64 (d 48)),.val (.int .i64 (d 49)),.val (.int .i64 (d 50)),.val (.int .i64 (d 51)),.val (.int .i64 (d 52)),.val (.int .i64 (d 53)),.val (.int .i64 (d 54)),.val (.int .i64 (d 55)),.val (.int .i64 (d 56)),.val (.int .i64 (d 57)),.val (.int .i64 (d 58)),.val (.int .i64 (d 59)),.val (.int .i64 (d 60)),.val (.int .i64 (d 61)),.val (.int .i64 (d 62)),.val (.int .i64 (d 63))]
def nilC:SV:=.val (.slice none 0 0)
def Avf (n:Net) (j:Nat):Obs:=[(1,.box (Ao7 n)),(10,.box (docC n (.osl 1000) nilC nilC 0 0 (fun _=>0))),(1000,.row 1 Ab (List.replicate j true))]
theorem Alz (n:Net) (hn:n.Fin) (hb:okB n (Acg n)=false) :
  Sy.Spec Tryz.prog 56 [Aj n] [] (.tup [.val (.pointer none),Aa 2]) []:=cT F56 Tryz.ntmps56 fun F hF=>by
 have hls:=hn.links
 unfold Al at hls
 have q2:=Ts n (Acg n) hn hb
 unfold Acg at q2
 conv=>whnf
 refine Ss 10 8 1000 1 Ab E E E E ?_
 refine Aq n.links.length (fun j=>[(1,.ptr 1 0),(4,.ptr 10 0),(5,Aa j)]) (fun j=>Avf n j) [] ⟨⟨E,E,E,E,E,E,Y⟩,⟨.inl E,E,.inl E,E,.inl E,E,Y⟩,E,E⟩ ?_
 intro j hj
 refine oO ?_
 refine⟨fun h=>?_,fun h=>?_⟩
 ·have hlt:j<n.links.length:=qA h
  have hs:List.replicate (j+1) true=List.replicate j true++[true]:=by rw[List.replicate_succ']
  clear h
  refine oO ?_
  refine Ae (Ad Γ.toTy 24 E E E E E (.row E) (.lit (e:=Ab) (l:=[true]) E E) qz (by simp;omega) (by simp;omega)) E E ?_
  refine oO ?_
  refine iW ?_
  exact An [(1000,24)] hlt ⟨⟨E,E,E,E,E,E,Y⟩,⟨.inl E,E,.inl E,E,.inl (congrArg (Ob.row 1 Ab) hs),E,Y⟩,E,E⟩
 have hjj:j=n.links.length:=qB h
 subst hjj
 clear h
 refine Ap 1000 E ?_
 refine oO ?_
 refine cD q2 F123 ?_
 refine oD ?_
 refine⟨qq,?_⟩
 ((conv=>whnf);refine aT ?_;refine rg ?_;conv=>whnf)
 exact dN
theorem Auo (n:Net) (hn:n.Fin) (hb:okB n (Acg n)=true) :
  Sy.Spec Tryz.prog 56 [Aj n] [] (.tup [.ptr 0 0,Aa 0]) (Ed n (newT n)):=cT F56 Tryz.ntmps56 fun F hF=>by
 have hls:=hn.links
 have hds:=hn.domains
 unfold Al at hls hds
 have q2:=Vo n (Acg n) hn hb
 unfold Acg at q2
 have hnt:=newT.eq_1 n
 generalize newT n=m at *
 conv=>whnf
 refine Ss 10 8 1000 1 Ab E E E E ?_
 refine Aq n.links.length (fun j=>[(1,.ptr 1 0),(4,.ptr 10 0),(5,Aa j)]) (fun j=>Avf n j) [] ⟨⟨E,E,E,E,E,E,Y⟩,⟨.inl E,E,.inl E,E,.inl E,E,Y⟩,E,E⟩ ?_
 intro j hj
 refine oO ?_
 refine⟨fun h=>?_,fun h=>?_⟩
 ·have hlt:j<n.links.length:=qA h
  have hs:List.replicate (j+1) true=List.replicate j true++[true]:=by rw[List.replicate_succ']
  clear h
  refine oO ?_
  refine Ae (Ad Γ.toTy 24 E E E E E (.row E) (.lit (e:=Ab) (l:=[true]) E E) qz (by simp;omega) (by simp;omega)) E E ?_
  refine oO ?_
  refine iW ?_
  exact An [(1000,24)] hlt ⟨⟨E,E,E,E,E,E,Y⟩,⟨.inl E,E,.inl E,E,.inl (congrArg (Ob.row 1 Ab) hs),E,Y⟩,E,E⟩
 have hjj:j=n.links.length:=qB h
 subst hjj
 clear h
 refine Ap 1000 E ?_
 refine oO ?_
 refine cD q2 F123 ?_
 refine oD ?_
 refine⟨qq,?_⟩
 ((conv=>whnf);refine aF ?_;refine rg ?_;conv=>whnf)
 refine Ae (Bm Γ.toTy (d:=42) (n:=n.domains.length) (fun _:Unit=>.val (.slice none 0 0)) () E E E E E E E E qn qn E E E) E E ?_
 refine oO ?_
 refine Ae (Bm Γ.toTy (d:=49) (n:=n.domains.length) (fun _:Unit=>.val (.slice none 0 0)) () E E E E E E E E qn qn E E E) E E ?_
 refine oO ?_
 refine Wz 42 (e':=Id) (l':=List.replicate n.domains.length []) E qz (fun M w i h1 h2 v hv=>?_) ?_
 ·rw[List.getElem_replicate]
  simp only[RdD]at hv
  exact O2 hv
 refine Wz 49 (e':=I8) (l':=List.replicate n.domains.length []) E qz (fun M w i h1 h2 v hv=>?_) ?_
 ·rw[List.getElem_replicate]
  simp only[RdD]at hv
  exact O2 hv
 subst hnt
 exact done E (.cons .tmp (.cons .tmp .nil)) [(0,10),(902,42),(903,49)] (Ed n ⟨List.replicate n.links.length true,List.replicate n.domains.length [],List.replicate n.domains.length [],0,0,fun _=>0⟩) (fun _ h=>h) E E ⟨Y,⟨.inl E,E,.inl E,E,.inl E,E,Y⟩,E,E⟩
end Go.Sy.YteinjapglfkamaaGreat
namespace Go.Sy.YteinjapglfkamaaGreat
open Go.Proofs
attribute [local irreducible] Go.Sy.G Go.Sy.DR
set_option maxRecDepth 100000
set_option maxHeartbeats 8000000
theorem Aag (n:Net) (m:MacM) (dom:Int) (hd:0≤dom∧dom.toNat<m.queues.length) (hq:Es (queueL m dom)) :
  Sy.Spec Tryz.prog 59 [.ptr 0 0,Aa dom] (Ed n m) (Bw (pickX m dom)) (Ed n m):=cT F59 Tryz.ntmps59 fun F hF=>by
 have hpx:=pickX.eq_1 m dom
 have hql:(queueL m dom).length<1000000:=by have:=hq.1;omega
 rw[if_pos (placeB_iff.2 hd)]at hpx
 have hq0:=queueL.eq_1 m dom
 rw[Lu hd.2]at hq0
 generalize queueL m dom=l at *
 generalize pickX m dom=px at *
 subst hpx
 subst hq0
 refine T ?_
 refine⟨fun h=>?_,fun h=>?_⟩
 ·rw[if_pos (of_decide_eq_true h)]
  refine T ?_
  refine Ar 4 [Aa 2,Aa 0,Aa dom,Aa 0,.sl 1 Af [],.sl 1 Ab []] E (.cons (.refl _) (.cons (.refl _) (.cons (.refl _) (.cons (.refl _) (.cons .nil (.cons .nil .nil)))))) ?_
  exact done E (.cons (.cell E E E E) .nil) [] (Ed n m) (fun _ h=>h) E E U
 ·rw[if_neg (of_decide_eq_false h)]
  refine T ?_
  refine Ar 4 [Aa 2,Aa 0,Aa dom,Aa (((m.queues[dom.toNat]'hd.2).length:Int)-1),.sl 1 Af [],.sl 1 Ab []] E (.cons (.refl _) (.cons (.refl _) (.cons (.refl _) (.cons (.refl _) (.cons .nil (.cons .nil .nil)))))) ?_
  exact done E (.cons (.cell E E E E) .nil) [] (Ed n m) (fun _ h=>h) E E U
def stW (n:Net) (from_:Int) (l:List Hop) (j:Nat):GoM:=if j<l.length then goW n from_ l j else Alu n from_ l
theorem Aqu {n:Net} {from_:Int} {l:List Hop} {j:Nat} (h:j+1<l.length) (h1:((j:Int)+1).toNat<l.length) (h0:((j:Int)+1-1).toNat<l.length) :
  stW n from_ l (j+1)=Tx n (linkW n (stW n from_ l j) (l[((j:Int)+1).toNat]'h1)) (l[((j:Int)+1-1).toNat]'h0).domain:=by
 have e:((j:Int)+1-1)=((j:Nat):Int):=by omega
 rw[stW,if_pos h,stW,if_pos qn,goW,← Ag h1,← Ag h0,e]
 rfl
theorem Aqv {n:Net} {from_:Int} {l:List Hop} {j:Nat} (h:j+1=l.length) (h0:((j:Int)+1-1).toNat<l.length) :
  stW n from_ l (j+1)=Tx n (stW n from_ l j) (l[((j:Int)+1-1).toNat]'h0).domain:=by
 have e:((j:Int)+1-1)=(l.length:Int)-1:=by omega
 have e2:l.length-1=j:=by omega
 rw[stW,if_neg qn,stW,if_pos qn,Alu,← Ag h0,e,e2]
abbrev dpO (n:Net) (s:GoM):Obs:=[(0,.box (J0 n s.m.up s.m.now s.m.injected s.m.drops)),(902,.row 1 Id s.m.tables),(903,.row 1 I8 s.m.queues),(1000,.row 6 Bw s.out)]
theorem Au5 {n:Net} {from_ to:Int} (h:hostD n from_=false∨hostD n to=false∨from_=to∨okB n (Acg n)=false):wscriptT n from_ to=([],2):=by
 rw[wscriptT,if_neg]
 rintro ⟨h1,h2,h3,h4⟩
 have hb:=(ok_iff.1 h4).2.1
 rw[Xr hb]at h1 h2
 rcases h with h | h | h | h
 ·unfold hostD at h;rw[h]at h1;cases h1
 ·unfold hostD at h;rw[h]at h2;cases h2
 ·exact h3 h
 ·rw[h]at h4;cases h4
theorem Ag4 (n:Net) (hn:n.Fin) (hm1:n.Num) (hu:Dj n) (from_ to:Int) :
  Sy.Spec Tryz.prog 17 [Aj n,Aa from_,Aa to] [] (.tup [.sl 6 Bw (wscriptT n from_ to).1,Aa (wscriptT n from_ to).2]) []:=cT F17 Tryz.ntmps17 fun F hF=>by
 have hlk:=wscriptT.eq_1 n from_ to
 have hbad:=@Au5 n from_ to
 generalize wscriptT n from_ to=res at *
 have h1:=Xa n from_
 have h2:=Xa n to
 have hls:=hn.links
 unfold Al at hls
 conv=>whnf
 refine A0 3 8 (Aj n) E E E ?_
 refine T ?_
 refine C h1 F33 ?_
 cases hf:hostD n from_
 ·have hbad:=hbad (.inl hf)
  subst hbad
  refine T ?_
  refine Ai 6 6 Bw E ?_
  exact D
 refine T ?_
 refine C h2 F33 ?_
 cases ht:hostD n to
 ·have hbad:=hbad (.inr (.inl ht))
  subst hbad
  refine T ?_
  refine Ai 6 6 Bw E ?_
  exact D
 refine T ?_
 refine⟨fun h=>?_,fun h=>?_⟩
 ·have hbad:=hbad (.inr (.inr (.inl (by simpa using h))))
  subst hbad
  refine T ?_
  refine Ai 6 6 Bw E ?_
  exact D
 have hne:from_≠to:=by simpa using h
 clear h
 refine T ?_
 cases hok:okB n (Acg n)
 ·have hbad:=hbad (.inr (.inr (.inr hok)))
  subst hbad
  refine C (Alz n hn hok) F56 ?_
  refine Ai 6 6 Bw E ?_
  exact D
 clear hbad
 have hb:=(ok_iff.1 hok).2.1
 unfold hostD at hf ht
 rw[← Xr hb]at hf ht
 rw[if_pos ⟨hf,ht,hne,hok⟩]at hlk
 refine X (Ah [] E F56 (Auo n hn hok) E Y E V) ?_
 have q2:=Att n hn hu hb from_ to
 have hfac:=@Ajj n hu from_ to
 have hlnk:=@way_links n from_ to
 generalize wayT n from_ to=wr at *
 obtain ⟨l,ok⟩:=wr
 cases ok
 ·rw[if_neg qz]at hlk
  subst hlk
  refine C q2 F11 ?_
  refine Ai 6 6 Bw E ?_
  exact D
 rw[if_pos rfl]at hlk
 obtain ⟨hla,hlen,hlne,_⟩:=hfac rfl
 have hlk2:=hlnk rfl
 clear hfac hlnk
 dsimp only at *
 have hfe:=Aiu hb
 have h0:0<l.length:=List.length_pos_iff.2 hlne
 have hsl:Al l:=by unfold Al;omega
 have hp:=Mt hf
 have q3:=Ag7 n hn hu hb from_ hp l hsl hla h0
 have q4:=Ab0 n hn hm1 hb (newT n) 0 0 (Ae4 n) qn qn qn (injectW n from_ l) (Yu hu hb from_ h0 hla)
 have hw0:stW n from_ l 0=doW n ⟨newT n,false,[]⟩ (injectW n from_ l):=by rw[stW,if_pos h0];rfl
 have hw1:(doT n (newT n) (injectW n from_ l)).1=(stW n from_ l 0).m:=by rw[hw0];rfl
 have hw2:(stW n from_ l 0).out=[injectW n from_ l]:=by rw[hw0];rfl
 rw[hw1]at q4
 refine C q2 F11 ?_
 refine C q3 F57 ?_
 refine⟨Nat.zero_lt_one,?_⟩
 refine T ?_
 refine X (Ah [] E F58 q4 E W E V) ?_
 refine Ec 51 Bw [injectW n from_ l] E E ?_
 rw[← hw2]
 clear q2 q3 q4 hw0 hw1 hw2
 refine Aq l.length (fun j=>[(3,.ref 8 (Aj n) 0),(8,.ptr 0 0),(10,.sl 4 Bp l),(12,.osl 1000),(13,Aa ((j:Int)+1))]) (fun j=>dpO n (stW n from_ l j)) [(1000,51)] U ?_
 intro j hj
 refine T ?_
 refine⟨fun h=>?_,fun h=>?_⟩
 ·have hlt:j<l.length:=qA h
  have hkp:((j:Int)+1-1).toNat<l.length:=by omega
  have hdo:=(hla _ (List.getElem_mem hkp)).1
  obtain ⟨hm0,hol⟩:=Afi hn hm1 from_ l j
  rw[show goW n from_ l j=stW n from_ l j by rw[stW,if_pos hlt]]at hm0 hol
  clear h
  by_cases hlast:j+1<l.length
  ·have hk1:((j:Int)+1).toNat<l.length:=by omega
   have hs:=Aqu (n:=n) (from_:=from_) hlast hk1 hkp
   have hgl:=linkW.eq_1 n (stW n from_ l j) (l[((j:Int)+1).toNat]'hk1)
   have hxl:=hlk2 _ (List.getElem_mem hk1)
   refine T ?_
   refine⟨fun h=>?_,fun h=>?_⟩
   ·have hk:(l[((j:Int)+1).toNat]'hk1).kind=1:=by simpa using h
    rw[if_pos hk]at hgl
    obtain ⟨hp1,hl0,hl1⟩:=hxl hk
    have hup:=upW.eq_1 n (l[((j:Int)+1).toNat]'hk1)
    rw[Ag hp1.2]at hl0 hl1 hup
    have q6:=Ab0 n hn hm1 hb (stW n from_ l j).m _ _ hm0 qn qn qn ⟨5,0,0,0,[],upW n (l[((j:Int)+1).toNat]'hk1)⟩ (by show 0<100000;decide)
    obtain ⟨hm2,hol2⟩:=X2 hn hm1 hm0 qn qn ⟨5,0,0,0,[],upW n (l[((j:Int)+1).toNat]'hk1)⟩
    rw[show (doT n (stW n from_ l j).m ⟨5,0,0,0,[],upW n (l[((j:Int)+1).toNat]'hk1)⟩).1=(doW n (stW n from_ l j) ⟨5,0,0,0,[],upW n (l[((j:Int)+1).toNat]'hk1)⟩).m from rfl]at q6
    have hs1o:(doW n (stW n from_ l j) ⟨5,0,0,0,[],upW n (l[((j:Int)+1).toNat]'hk1)⟩).out=(stW n from_ l j).out++[⟨5,0,0,0,[],upW n (l[((j:Int)+1).toNat]'hk1)⟩]:=rfl
    rw[hgl]at hs
    rw[hup]at q6 hs1o hs hm2 hol2
    clear hgl hup hxl hlk2
    obtain ⟨up,hupe⟩:∃ up,(List.replicate n.links.length false).set (n.ports[(l[((j:Int)+1).toNat]'hk1).port.toNat]'hp1.2).link.toNat true=up:=⟨_,rfl⟩
    rw[hupe]at q6 hs1o hs hm2 hol2
    generalize doW n (stW n from_ l j) ⟨5,0,0,0,[],up⟩=s1 at *
    have hso:(stW n from_ l (j+1)).out=s1.out++[pickX s1.m (l[((j:Int)+1-1).toNat]'hkp).domain]:=by rw[hs];rfl
    have hsm:(doT n s1.m (pickX s1.m (l[((j:Int)+1-1).toNat]'hkp).domain)).1=(stW n from_ l (j+1)).m:=by rw[hs];rfl
    clear h
    refine T ?_
    refine X (Bm Γ.toTy (d:=78) (n:=n.links.length) Ab false E E E E E E E E qn qn E E E) ?_
    refine⟨by rw[List.length_replicate];exact hl1,?_⟩
    conv=>whnf
    refine⟨E,(by rw[List.length_replicate];exact hl1),true,E,E,?_⟩
    subst hupe
    refine T ?_
    refine Ap 78 E ?_
    refine Ar 14 [Aa 5,Aa 0,Aa 0,Aa 0,.sl 1 Af [],.sl 1 Ab _] E (.cons (.refl _) (.cons (.refl _) (.cons (.refl _) (.cons (.refl _) (.cons .nil (.cons (.refl _) .nil)))))) ?_
    refine Aqa 94 (.agg [Aa 5,Aa 0,Aa 0,Aa 0,.sl 1 Af [],.sl 1 Ab _]) (.agg (.cons (.refl _) (.cons (.refl _) (.cons (.refl _) (.cons (.refl _) (.cons .nil (.cons (.refl _) .nil))))))) ?_
    refine X (Ah [] E F58 q6 E W E V) ?_
    refine X (Ad Γ.toTy 99 E E E E E (.row E) (.lit (e:=Bw) (l:=[⟨5,0,0,0,[],_⟩]) E E) qz (by simp;omega) (by simp;omega)) ?_
    rw[← hs1o]
    obtain ⟨p1,p2⟩:(0≤(l[((j:Int)+1-1).toNat]'hkp).domain∧(l[((j:Int)+1-1).toNat]'hkp).domain.toNat<(s1).m.queues.length)∧True:=⟨by rw[hm2.ques];exact hdo,trivial⟩
    have q7:=Aag n (s1).m (l[((j:Int)+1-1).toNat]'hkp).domain p1 (Cn hm2 _)
    have q8:=Ab0 n hn hm1 hb (s1).m _ _ hm2 qn qn qn (pickX (s1).m (l[((j:Int)+1-1).toNat]'hkp).domain) (by show 0<100000;decide)
    rw[hsm]at q8
    generalize pickX (s1).m (l[((j:Int)+1-1).toNat]'hkp).domain=px at *
    refine X (Ah [] E F59 q7 E W E V) ?_
    refine X (Ah [] E F58 q8 E W E V) ?_
    refine X (Ad Γ.toTy 114 E E E E E (.row E) (.lit (e:=Bw) (l:=[px]) E E) qz (by simp;omega) (by simp;omega)) ?_
    exact An [(1000,114)] hlt ⟨⟨E,E,E,E,E,E,E,E,E,E,Y⟩,⟨.inl E,E,.inl E,E,.inl E,E,.inl (congrArg (Ob.row 6 Bw) hso),E,Y⟩,E,E⟩
   ·have hk:¬ (l[((j:Int)+1).toNat]'hk1).kind=1:=by simpa using h
    rw[if_neg hk]at hgl
    rw[hgl]at hs
    clear hgl hxl hlk2 h
    have hm2:=hm0
    have hso:(stW n from_ l (j+1)).out=(stW n from_ l j).out++[pickX (stW n from_ l j).m (l[((j:Int)+1-1).toNat]'hkp).domain]:=by rw[hs];rfl
    have hsm:(doT n (stW n from_ l j).m (pickX (stW n from_ l j).m (l[((j:Int)+1-1).toNat]'hkp).domain)).1=(stW n from_ l (j+1)).m:=by rw[hs];rfl
    refine T ?_
    obtain ⟨p1,p2⟩:(0≤(l[((j:Int)+1-1).toNat]'hkp).domain∧(l[((j:Int)+1-1).toNat]'hkp).domain.toNat<(stW n from_ l j).m.queues.length)∧True:=⟨by rw[hm2.ques];exact hdo,trivial⟩
    have q7:=Aag n (stW n from_ l j).m (l[((j:Int)+1-1).toNat]'hkp).domain p1 (Cn hm2 _)
    have q8:=Ab0 n hn hm1 hb (stW n from_ l j).m _ _ hm2 qn qn qn (pickX (stW n from_ l j).m (l[((j:Int)+1-1).toNat]'hkp).domain) (by show 0<100000;decide)
    rw[hsm]at q8
    generalize pickX (stW n from_ l j).m (l[((j:Int)+1-1).toNat]'hkp).domain=px at *
    refine X (Ah [] E F59 q7 E W E V) ?_
    refine X (Ah [] E F58 q8 E W E V) ?_
    refine X (Ad Γ.toTy 114 E E E E E (.row E) (.lit (e:=Bw) (l:=[px]) E E) qz (by simp;omega) (by simp;omega)) ?_
    exact An [(1000,114)] hlt ⟨⟨E,E,E,E,E,E,E,E,E,E,Y⟩,⟨.inl E,E,.inl E,E,.inl E,E,.inl (congrArg (Ob.row 6 Bw) hso),E,Y⟩,E,E⟩
  ·have hs:=Aqv (n:=n) (from_:=from_) (l:=l) (j:=j) qn hkp
   have hm2:=hm0
   have hso:(stW n from_ l (j+1)).out=(stW n from_ l j).out++[pickX (stW n from_ l j).m (l[((j:Int)+1-1).toNat]'hkp).domain]:=by rw[hs];rfl
   have hsm:(doT n (stW n from_ l j).m (pickX (stW n from_ l j).m (l[((j:Int)+1-1).toNat]'hkp).domain)).1=(stW n from_ l (j+1)).m:=by rw[hs];rfl
   refine T ?_
   obtain ⟨p1,p2⟩:(0≤(l[((j:Int)+1-1).toNat]'hkp).domain∧(l[((j:Int)+1-1).toNat]'hkp).domain.toNat<(stW n from_ l j).m.queues.length)∧True:=⟨by rw[hm2.ques];exact hdo,trivial⟩
   have q7:=Aag n (stW n from_ l j).m (l[((j:Int)+1-1).toNat]'hkp).domain p1 (Cn hm2 _)
   have q8:=Ab0 n hn hm1 hb (stW n from_ l j).m _ _ hm2 qn qn qn (pickX (stW n from_ l j).m (l[((j:Int)+1-1).toNat]'hkp).domain) (by show 0<100000;decide)
   rw[hsm]at q8
   generalize pickX (stW n from_ l j).m (l[((j:Int)+1-1).toNat]'hkp).domain=px at *
   refine X (Ah [] E F59 q7 E W E V) ?_
   refine X (Ah [] E F58 q8 E W E V) ?_
   refine X (Ad Γ.toTy 114 E E E E E (.row E) (.lit (e:=Bw) (l:=[px]) E E) qz (by simp;omega) (by simp;omega)) ?_
   exact An [(1000,114)] hlt ⟨⟨E,E,E,E,E,E,E,E,E,E,Y⟩,⟨.inl E,E,.inl E,E,.inl E,E,.inl (congrArg (Ob.row 6 Bw) hso),E,Y⟩,E,E⟩
 ·have hjj:j=l.length:=qB h
  subst hjj
  rw[show Alu n from_ l=stW n from_ l l.length by rw[stW,if_neg (Nat.lt_irrefl _)]]at hlk
  subst hlk
  clear h
  refine T ?_
  refine Ap 1000 E ?_
  exact D
end Go.Sy.YteinjapglfkamaaGreat
namespace Go.Sy.YteinjapglfkamaaGreat
open Go.Proofs
attribute [local irreducible] Go.Sy.G Go.Sy.DR
set_option maxRecDepth 100000
set_option maxHeartbeats 4000000
theorem bytes_beq (b:ByteArray):(b == b)=true:=by
 show (b.data == b.data)=true
 simp
def StepShort (x:StepM):Prop:=x.up.length<100000
theorem stepsS (l:List StepM) (hl:l.length<100000) (hs:∀ x∈l,StepShort x):Sy.Spec Tryz.prog 18 [.sl 6 Bw l,.sl 6 Bw l] [] (Ab true) []:=cT F18 Tryz.ntmps18 fun F hF=>by
 conv=>whnf
 refine⟨fun h=>False.elim (by simp at h),fun _=>?_⟩
 refine oO ?_
 refine Aq l.length (fun j=>[(0,.sl 6 Bw l),(1,.sl 6 Bw l),(5,Aa j)]) (fun _=>[]) []
  ⟨⟨rfl,rfl,rfl,rfl,rfl,rfl,trivial⟩,trivial,rfl,rfl⟩ ?_
 intro j hj
 refine oO ?_
 refine⟨fun h=>?_,fun h=>?_⟩
 ·have hlt:j<l.length:=by simpa using h
  obtain ⟨x,hx⟩:∃ x,l[(j:Int).toNat]'qn=x:=⟨_,rfl⟩
  have hxs:x.up.length<100000:=by rw[← hx];exact hs _ (List.getElem_mem _)
  refine oO ?_
  refine⟨E,by omega,by omega,?_⟩
  rw[hx]
  conv=>whnf
  refine⟨E,by omega,by omega,?_⟩
  rw[hx]
  conv=>whnf
  refine kW ?_
  refine⟨fun h=>False.elim (by simp at h),fun _=>?_⟩
  refine oO ?_
  refine⟨fun h=>False.elim (by simp at h),fun _=>?_⟩
  refine oO ?_
  refine⟨fun h=>False.elim (by simp at h),fun _=>?_⟩
  refine oO ?_
  refine⟨fun h=>False.elim (by simp at h),fun _=>?_⟩
  refine oO ?_
  refine Ae (Kl Γ.toTy (bs:=x.bytes) E E E E E E E .sl) E E ?_
  refine oO ?_
  refine Ae (Kl Γ.toTy (bs:=x.bytes) E E E E E E E .sl) E E ?_
  refine oO ?_
  refine⟨fun h=>False.elim (by simp[bytes_beq]at h),fun _=>?_⟩
  refine oO ?_
  refine⟨fun h=>False.elim (by simp at h),fun _=>?_⟩
  refine oO ?_
  refine Aq x.up.length (fun k=>[(0,.sl 6 Bw l),(1,.sl 6 Bw l),(5,Aa j),(6,.ptr 6 0),(7,.ptr 7 0),(8,Aa k)]) (fun _=>[(6,.box [Aa x.kind,Aa x.port,Aa x.domain,Aa x.at_,.sl 1 Af x.bytes,.sl 1 Ab x.up]),(7,.box [Aa x.kind,Aa x.port,Aa x.domain,Aa x.at_,.sl 1 Af x.bytes,.sl 1 Ab x.up])]) []
   ⟨⟨rfl,rfl,rfl,rfl,rfl,rfl,rfl,rfl,rfl,rfl,rfl,rfl,trivial⟩,⟨.inl rfl,rfl,.inl rfl,rfl,trivial⟩,rfl,rfl⟩ ?_
  intro k hk
  refine oO ?_
  refine⟨fun h=>?_,fun h=>?_⟩
  ·have hlt2:k<x.up.length:=by simpa using h
   obtain ⟨b,hb⟩:∃ b,x.up[(k:Int).toNat]'qn=b:=⟨_,rfl⟩
   refine oO ?_
   refine⟨E,by omega,by omega,?_⟩
   rw[hb]
   conv=>whnf
   refine⟨E,by omega,by omega,?_⟩
   rw[hb]
   conv=>whnf
   refine kW ?_
   refine⟨fun h=>False.elim (by simp at h),fun _=>?_⟩
   refine oO ?_
   refine iW ?_
   exact An [] hlt2 ⟨⟨E,E,E,E,E,E,E,E,E,E,E,E,Y⟩,⟨.inl E,E,.inl E,E,Y⟩,E,E⟩
  ·refine oO ?_
   refine iW ?_
   exact An [] hlt ⟨⟨E,E,E,E,E,E,Y⟩,Y,E,E⟩
 ·refine oO ?_
  exact dN
end Go.Sy.YteinjapglfkamaaGreat
namespace Go.Sy.YteinjapglfkamaaGreat
open Go.Proofs
def Li (s:GoM):Prop:=∀ x∈s.out,StepShort x
theorem X1 {n:Net} {s:GoM} (h:Li s) {x:StepM} (hx:StepShort x):Li (doW n s x):=by
 intro y hy
 rcases List.mem_append.1 hy with hy | hy
 ·exact h y hy
 ·rw[List.mem_singleton.1 hy];exact hx
theorem Yi {n:Net} {s:GoM} (h:Li s) (d:Int):Li (Tx n s d):=X1 h (by show 0<100000;decide)
theorem Ah3 {n:Net} (hl:n.links.length<100000) {s:GoM} (h:Li s) (x:Hop):Li (linkW n s x):=by
 unfold linkW
 split
 ·refine X1 h ?_
  show (upW n x).length<100000
  unfold upW
  rw[List.length_set,List.length_replicate]
  exact hl
 ·exact h
theorem Adw {n:Net} (hl:n.links.length<100000) (from_:Int) (l:List Hop):∀ k,Li (goW n from_ l k)
 | 0=>X1 (fun x hx=>by cases hx) (by show 0<100000;decide)
 | k+1=>Yi (Ah3 hl (Adw hl from_ l k) _) _
theorem Ace {n:Net} (hn:n.Fin) (hm1:n.Num) (hu:Dj n) (from_ to:Int):(wscriptT n from_ to).1.length<100000∧∀ x∈(wscriptT n from_ to).1,StepShort x:=by
 rw[wscriptT]
 split
 ·rename_i hc
  have hb:=(ok_iff.1 hc.2.2.2).2.1
  have hfe:=Aiu hb
  split
  ·rename_i hw
   obtain ⟨hla,hlen,hlne,_⟩:=Ajj hu hw
   have h0:=List.length_pos_iff.2 hlne
   generalize (wayT n from_ to).1=l at *
   have hg:=Afi hn hm1 from_ l (l.length-1)
   have hd:=(X2 hn hm1 hg.1 qn qn (pickX (goW n from_ l (l.length-1)).m (nth l ((l.length:Int)-1)).domain)).2
   refine⟨?_,Yi (n:=n) (s:=goW n from_ l (l.length-1)) (Adw (n:=n) qn from_ l _) _⟩
   show (doW n _ _).out.length<100000
   omega
  ·exact⟨by show 0<100000;decide,fun x hx=>by cases hx⟩
 ·exact⟨by show 0<100000;decide,fun x hx=>by cases hx⟩
theorem witNum {n:Net} (h:n.In):n.Num:=by
 refine⟨fun x hx=>?_,fun x hx=>?_⟩
 ·have:=(h.devices.1 x hx).2.2.2.2
  simp only[wI,Lit.wf,decide_eq_true_eq,Bool.and_eq_true]at this
  exact⟨this.1,Int.lt_of_le_of_lt this.2 qy⟩
 ·have:=(h.irbs.1 x hx).2.2.2.1
  simp only[wI,Lit.wf,decide_eq_true_eq,Bool.and_eq_true]at this
  exact⟨this.1,Int.lt_of_le_of_lt this.2 qy⟩
attribute [local irreducible] Go.Sy.G Go.Sy.DR
set_option maxRecDepth 100000
set_option maxHeartbeats 8000000
theorem Y5 (n:Net) (hin:n.In) (f t:Int):Sy.Spec Tryz.prog 5 [Aj n,Aa f,Aa t] [] (Ab true) []:=cT F5 Tryz.ntmps5 fun F hF=>by
 conv=>whnf
 refine A0 3 8 (Aj n) E E E ?_
 refine T ?_
 refine C (greatS n) F7 ?_
 refine⟨fun hg=>?_,fun hg=>?_⟩
 ·refine T ?_
  refine C Af5 F8 ?_
  exact D
 have hn:=Afn hg
 have hu:=Aqe hin
 have hm1:=witNum hin
 have q1:=Ud n hn hm1 hu f t
 have q2:=Ag4 n hn hm1 hu f t
 have hs:=Ace hn hm1 hu f t
 generalize wscriptT n f t=w at *
 have q3:=stepsS w.1 hs.1 hs.2
 refine T ?_
 refine C q1 F16 ?_
 refine C q2 F17 ?_
 refine C q3 F18 ?_
 refine C Af5 F8 ?_
 exact D
end Go.Sy.YteinjapglfkamaaGreat
namespace Go.Proofs.YteinjapglfkamaaGreat
open Go.ChangeShapes Go.WideShapes Go.ChangeAt Go.RowKit
set_option maxRecDepth 100000
theorem M6:Tryz.checked.prog.inPlace 5=Rows.witnessScriptsRow.inPlace:=by kernel_rfl
theorem Lk:Tryz.checked.prog.unfollowed 5=Rows.witnessScriptsRow.unfollowed:=by kernel_rfl
theorem Mc:Tryz.checked.prog.recurses 5=Rows.witnessScriptsRow.recurses:=by kernel_rfl
theorem Qd:Tryz.checked.prog.varsNamed 5=Rows.witnessScriptsRow.named:=by kernel_rfl
theorem Tg:Tryz.checked.prog.liftsFinal=Rows.witnessScriptsRow.lifted:=by kernel_rfl
theorem M5:laidOutB Tryz.checked.prog=true:=by kernel_rfl
theorem Qg:Tryz.checked.prog.mayEnter=true:=by kernel_rfl
theorem Qe:Tryz.checked.prog.stopsHeard=true:=by kernel_rfl
theorem Qf:joinedFacts Tryz.checked.prog 5 Tryz.f5 Rows.witnessScriptsSpec Rows.witnessScriptsRow=true:=by
 unfold joinedFacts
 rw[M6,Lk,Mc,Qd,Tg,M5,Qg,Qe]
 kernel_rfl
end Go.Proofs.YteinjapglfkamaaGreat
