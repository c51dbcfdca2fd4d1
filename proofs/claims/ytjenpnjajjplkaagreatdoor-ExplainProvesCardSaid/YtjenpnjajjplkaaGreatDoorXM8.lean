/-
  NB11 NB12 NB13 NB16 BN1 EP2 V6 E35 NB14 NB15 NB17 NB18 NB19 I50 NB20 NB21 EP3: parts of a proof, joined by program.
-/
import Derived.Test.YtjenpnjajjplkaaGreatDoorXM7
import Derived.Test.YtjenpnjajjplkaaGreatDoorXM4
import Derived.Test.YtjenpnjajjplkaaGreatDoorXM5
import Derived.Test.YtjenpnjajjplkaaGreatDoorXM6
import Derived.Test.YtjenpnjajjplkaaGreatDoorXM3
import Derived.Tactics
import Derived.Tactics2
import Derived.Defers
import Derived.Laws.Pointers
import Derived.Laws.LoneSync
import Derived.RegionTactic
import Derived.RegionCalls
import Derived.ChangeAlike
import Derived.Laws.NewBlocks
set_option linter.all false
set_option linter.unusedVariables false
set_option linter.unusedSimpArgs false
set_option linter.deprecated false
namespace Go.Sy.YtjenpnjajjplkaaGreatDoor
open Go.Proofs
attribute [local irreducible] Go.Sy.G Go.Sy.DR
set_option maxRecDepth 100000
set_option maxHeartbeats 4000000
theorem Aga (n:Net) (hn:n.Fin) (l:LineM) (hl:LineW l):Sy.Spec Tryz.prog 281 [Ae n,Au l] [] (.tup [Ae (putPort n l).1,Aa (putPort n l).2]) []:=cT F281 Tryz.ntmps281 fun F hF=>by
 have hres:=putPort.eq_1 n l
 generalize putPort n l=res at *
 cases hf:fitsB n l 2 with
 | false =>
  have q1:=L3 n hn l hl 2 hf
  rw[hf,if_pos rfl]at hres
  subst hres
  refine T ?_
  refine C q1 F337 ?_
  refine Am 4 (B1 emptyN) E (.cons .nil (.cons .nil (.cons .nil (.cons .nil (.cons .nil (.cons .nil (.cons .nil (.cons .nil .nil)))))))) ?_
  refine T ?_
  exact D
 | true =>
 have q1:=So n hn l hl 2 hf
 have hr:Ac n=true:=by
  unfold fitsB at hf
  simp only[Bool.and_eq_true]at hf
  exact hf.2.2
 rw[hf,if_neg y_]at hres
 have q2:=D7 n hn hr l.dev
 have q3:=Mn n hn hr (Cb n l.dev) l.port
 have hlt:=hl.fin.t
 have q5:=Er l.tagged q_
 have hfl:n.ports.length≤40∧n.domains.length≤48:=⟨(Wz hr).2.1,(Wz hr).2.2.2.1⟩
 generalize Qu n (Cb n l.dev) l.port=pt at *
 generalize Cb n l.dev=dv at *
 by_cases h3:dv<0
 ·have g3:decide (dv<0)=true:=decide_eq_true h3
  rw[if_pos h3]at hres
  subst hres
  refine T ?_
  refine X (Aj [] E F337 q1 E W E V) ?_
  refine C q2 F340 ?_
  refine Am 4 (B1 emptyN) E (.cons .nil (.cons .nil (.cons .nil (.cons .nil (.cons .nil (.cons .nil (.cons .nil (.cons .nil .nil)))))))) ?_
  refine T ?_
  exact D
 have g3:decide (dv<0)=false:=decide_eq_false h3
 rw[if_neg h3]at hres
 by_cases h4:0≤pt
 ·have g4:decide (pt≥0)=true:=decide_eq_true h4
  rw[if_pos h4]at hres
  subst hres
  refine T ?_
  refine X (Aj [] E F337 q1 E W E V) ?_
  refine C q2 F340 ?_
  refine C q3 F341 ?_
  refine Am 4 (B1 emptyN) E (.cons .nil (.cons .nil (.cons .nil (.cons .nil (.cons .nil (.cons .nil (.cons .nil (.cons .nil .nil)))))))) ?_
  refine T ?_
  exact D
 have g4:decide (pt≥0)=false:=decide_eq_false h4
 rw[if_neg h4]at hres
 by_cases h5:n.ports.length=40
 ·have g5:((n.ports.length:Int) == 40)=true:=by rw[beq_iff_eq];omega
  rw[if_pos h5]at hres
  subst hres
  refine T ?_
  refine X (Aj [] E F337 q1 E W E V) ?_
  refine C q2 F340 ?_
  refine C q3 F341 ?_
  refine Am 4 (B1 emptyN) E (.cons .nil (.cons .nil (.cons .nil (.cons .nil (.cons .nil (.cons .nil (.cons .nil (.cons .nil .nil)))))))) ?_
  refine T ?_
  exact D
 have g5:((n.ports.length:Int) == 40)=false:=by rw[beq_eq_false_iff_ne];omega
 rw[if_neg h5]at hres
 have hd1l:(Ck dv n.domains l.vlan).length≤49:=by unfold Ck;split<;>(try simp)<;>omega
 have hlenB:∀ j,(A3 dv (Ck dv n.domains l.vlan) (l.tagged.take j)).length≤200000:=fun j=>by
  have h1:=Qj dv (l.tagged.take j) (Ck dv n.domains l.vlan)
  rw[List.length_take]at h1
  omega
 by_cases hc:0<l.vlan∧n.domains.any (fun d=>d.dev == dv && d.vlan == l.vlan)=false
 ·have q6:=Hh ({ n with ports:=n.ports++[(⟨l.row,dv,l.vlan,l.cost,-1,l.port,l.tagged⟩:Port)] }:Net) (by show n.domains.length<_;omega) dv l.vlan hc
  obtain ⟨d1,hd1⟩:∃ d1,Ck dv n.domains l.vlan=d1:=⟨_,rfl⟩
  have hlenA:=hlenB
  rw[hd1]at hlenA
  have hde:=hd1.symm.trans (Mz hc)
  rw[← hde]at q6
  clear hlenB hde hc hd1l
  refine T ?_
  refine X (Aj [] E F337 q1 E W E V) ?_
  refine C q2 F340 ?_
  refine C q3 F341 ?_
  refine C q5 F159 ?_
  refine Xd (Ai Γ.toTy 66 E E E E E (.row E) (.lit (e:=As) (l:=[(⟨l.row,dv,l.vlan,l.cost,-1,l.port,l.tagged⟩:Port)]) E E) j_ (by simp only[List.length_singleton];omega) (by simp only[List.length_singleton];omega)) ?_
  refine T ?_
  refine X (B9 [(902,66),(1904,1101)] (Cg E E F342) q6 E W E V) ?_
  refine T ?_
  refine Cc (fun j:Nat=>j≤l.tagged.length) (fun j=>[(4,.ptr 1001 0),(6,.ptr 900 0),(8,Aa dv),(9,.clo (.func 342) [] []),(77,.sl 1 Aa l.tagged),(78,Aa l.tagged.length),(79,Aa j)]) (fun j=>[(1001,.box [.val (.slice none 0 0),.val (.slice none 0 0),.val (.slice none 0 0),.val (.slice none 0 0),.val (.slice none 0 0),.val (.slice none 0 0),.val (.slice none 0 0),.val (.slice none 0 0)]),(900,.box [.osl 901,.osl 1002,.osl 903,.osl 1004,.osl 905,.osl 906,.osl 907,.osl 908]),(901,.row 5 Ap n.devices),(1002,.row 7 As (n.ports++[(⟨l.row,dv,l.vlan,l.cost,-1,l.port,l.tagged⟩:Port)])),(903,.row 3 Bg n.links),(1004,.row 6 Af (A3 dv d1 (l.tagged.take j))),(905,.row 4 Av n.statics),(906,.row 4 Ax n.floods),(907,.row 5 Bh n.vrfs),(908,.row 5 Bf n.irbs)]) (fun j=>l.tagged.length-j) 0 [(1001,4),(1002,66),(1004,1101)] q_ U ?_
  intro j hj
  have hlen:=hlenA j
  refine T ?_
  refine⟨fun h=>?_,fun h=>?_⟩
  ·have hlt:j<l.tagged.length:=qA h
   have hlt0:((j:Nat):Int).toNat<l.tagged.length:=hlt
   clear h
   have hsn:A3 dv d1 (l.tagged.take (j+1))=Ck dv (A3 dv d1 (l.tagged.take j)) (l.tagged[((j:Nat):Int).toNat]'hlt0):=by
    rw[List.take_succ_eq_append_getElem hlt,Qi];rfl
   by_cases hc:0<(l.tagged[((j:Nat):Int).toNat]'hlt0)∧(A3 dv d1 (l.tagged.take j)).any (fun d=>d.dev == dv && d.vlan == (l.tagged[((j:Nat):Int).toNat]'hlt0))=false
   ·have q:=Hh ({ n with ports:=n.ports++[(⟨l.row,dv,l.vlan,l.cost,-1,l.port,l.tagged⟩:Port)],domains:=A3 dv d1 (l.tagged.take j) }:Net) (by show (A3 dv d1 (l.tagged.take j)).length<_;omega) dv (l.tagged[((j:Nat):Int).toNat]'hlt0) hc
    rw[Mz hc]at hsn
    refine T ?_
    refine X (B9 [(902,1002),(904,1004),(1904,1102)] (Cg E E F342) q E W E V) ?_
    exact A8 (j+1) [(1004,1102)] hlt q_ ⟨⟨E,E,E,E,E,E,E,E,E,E,E,E,E,E,Y⟩,⟨.inl E,E,.inl E,E,.inl E,E,.inl E,E,.inl E,E,.inl (congrArg (Ob.row 6 Af) hsn),E,.inl E,E,.inl E,E,.inl E,E,.inl E,E,Y⟩,E,E⟩
   ·have q:=Ic ({ n with ports:=n.ports++[(⟨l.row,dv,l.vlan,l.cost,-1,l.port,l.tagged⟩:Port)],domains:=A3 dv d1 (l.tagged.take j) }:Net) (by show (A3 dv d1 (l.tagged.take j)).length<_;omega) dv (l.tagged[((j:Nat):Int).toNat]'hlt0) hc
    rw[Se hc]at hsn
    refine T ?_
    refine X (B9 [(902,1002),(904,1004)] (Cg E E F342) q E W E V) ?_
    exact A8 (j+1) [] hlt q_ ⟨⟨E,E,E,E,E,E,E,E,E,E,E,E,E,E,Y⟩,⟨.inl E,E,.inl E,E,.inl E,E,.inl E,E,.inl E,E,.inl (congrArg (Ob.row 6 Af) hsn),E,.inl E,E,.inl E,E,.inl E,E,.inl E,E,Y⟩,E,E⟩
  ·have hje:j=l.tagged.length:=qB h
   clear h
   rw[hje,List.take_length]
   have hfull:A3 dv n.domains (l.vlan::l.tagged)=A3 dv d1 l.tagged:=(show A3 dv n.domains (l.vlan::l.tagged)=A3 dv (Ck dv n.domains l.vlan) l.tagged from rfl).trans (by rw[hd1])
   rw[hfull]at hres
   by_cases h9:48<(A3 dv d1 l.tagged).length
   ·have g9:decide (((A3 dv d1 l.tagged).length:Int)>48)=true:=decide_eq_true q_
    rw[if_pos h9]at hres
    subst hres
    refine T ?_
    refine Am 1001 (B1 emptyN) E (.cons .nil (.cons .nil (.cons .nil (.cons .nil (.cons .nil (.cons .nil (.cons .nil (.cons .nil .nil)))))))) ?_
    refine T ?_
    exact D
   ·have g9:decide (((A3 dv d1 l.tagged).length:Int)>48)=false:=decide_eq_false q_
    rw[if_neg h9]at hres
    subst hres
    refine T ?_
    refine Ah 901 E ?_
    refine Ah 1002 E ?_
    refine Ah 903 E ?_
    refine Ah 1004 E ?_
    refine Ah 905 E ?_
    refine Ah 906 E ?_
    refine Ah 907 E ?_
    refine Ah 908 E ?_
    exact D
 ·have q6:=Ic ({ n with ports:=n.ports++[(⟨l.row,dv,l.vlan,l.cost,-1,l.port,l.tagged⟩:Port)] }:Net) (by show n.domains.length<_;omega) dv l.vlan hc
  have hd1:Ck dv n.domains l.vlan=n.domains:=Se hc
  have hlenA:=hlenB
  rw[hd1]at hlenA
  clear hlenB hc hd1l
  refine T ?_
  refine X (Aj [] E F337 q1 E W E V) ?_
  refine C q2 F340 ?_
  refine C q3 F341 ?_
  refine C q5 F159 ?_
  refine Xd (Ai Γ.toTy 66 E E E E E (.row E) (.lit (e:=As) (l:=[(⟨l.row,dv,l.vlan,l.cost,-1,l.port,l.tagged⟩:Port)]) E E) j_ (by simp only[List.length_singleton];omega) (by simp only[List.length_singleton];omega)) ?_
  refine T ?_
  refine X (B9 [(902,66)] (Cg E E F342) q6 E W E V) ?_
  refine T ?_
  refine Cc (fun j:Nat=>j≤l.tagged.length) (fun j=>[(4,.ptr 1001 0),(6,.ptr 900 0),(8,Aa dv),(9,.clo (.func 342) [] []),(77,.sl 1 Aa l.tagged),(78,Aa l.tagged.length),(79,Aa j)]) (fun j=>[(1001,.box [.val (.slice none 0 0),.val (.slice none 0 0),.val (.slice none 0 0),.val (.slice none 0 0),.val (.slice none 0 0),.val (.slice none 0 0),.val (.slice none 0 0),.val (.slice none 0 0)]),(900,.box [.osl 901,.osl 1002,.osl 903,.osl 1004,.osl 905,.osl 906,.osl 907,.osl 908]),(901,.row 5 Ap n.devices),(1002,.row 7 As (n.ports++[(⟨l.row,dv,l.vlan,l.cost,-1,l.port,l.tagged⟩:Port)])),(903,.row 3 Bg n.links),(1004,.row 6 Af (A3 dv n.domains (l.tagged.take j))),(905,.row 4 Av n.statics),(906,.row 4 Ax n.floods),(907,.row 5 Bh n.vrfs),(908,.row 5 Bf n.irbs)]) (fun j=>l.tagged.length-j) 0 [(1001,4),(1002,66),(1004,904)] q_ U ?_
  intro j hj
  have hlen:=hlenA j
  refine T ?_
  refine⟨fun h=>?_,fun h=>?_⟩
  ·have hlt:j<l.tagged.length:=qA h
   have hlt0:((j:Nat):Int).toNat<l.tagged.length:=hlt
   clear h
   have hsn:A3 dv n.domains (l.tagged.take (j+1))=Ck dv (A3 dv n.domains (l.tagged.take j)) (l.tagged[((j:Nat):Int).toNat]'hlt0):=by
    rw[List.take_succ_eq_append_getElem hlt,Qi];rfl
   by_cases hc:0<(l.tagged[((j:Nat):Int).toNat]'hlt0)∧(A3 dv n.domains (l.tagged.take j)).any (fun d=>d.dev == dv && d.vlan == (l.tagged[((j:Nat):Int).toNat]'hlt0))=false
   ·have q:=Hh ({ n with ports:=n.ports++[(⟨l.row,dv,l.vlan,l.cost,-1,l.port,l.tagged⟩:Port)],domains:=A3 dv n.domains (l.tagged.take j) }:Net) (by show (A3 dv n.domains (l.tagged.take j)).length<_;omega) dv (l.tagged[((j:Nat):Int).toNat]'hlt0) hc
    rw[Mz hc]at hsn
    refine T ?_
    refine X (B9 [(902,1002),(904,1004),(1904,1102)] (Cg E E F342) q E W E V) ?_
    exact A8 (j+1) [(1004,1102)] hlt q_ ⟨⟨E,E,E,E,E,E,E,E,E,E,E,E,E,E,Y⟩,⟨.inl E,E,.inl E,E,.inl E,E,.inl E,E,.inl E,E,.inl (congrArg (Ob.row 6 Af) hsn),E,.inl E,E,.inl E,E,.inl E,E,.inl E,E,Y⟩,E,E⟩
   ·have q:=Ic ({ n with ports:=n.ports++[(⟨l.row,dv,l.vlan,l.cost,-1,l.port,l.tagged⟩:Port)],domains:=A3 dv n.domains (l.tagged.take j) }:Net) (by show (A3 dv n.domains (l.tagged.take j)).length<_;omega) dv (l.tagged[((j:Nat):Int).toNat]'hlt0) hc
    rw[Se hc]at hsn
    refine T ?_
    refine X (B9 [(902,1002),(904,1004)] (Cg E E F342) q E W E V) ?_
    exact A8 (j+1) [] hlt q_ ⟨⟨E,E,E,E,E,E,E,E,E,E,E,E,E,E,Y⟩,⟨.inl E,E,.inl E,E,.inl E,E,.inl E,E,.inl E,E,.inl (congrArg (Ob.row 6 Af) hsn),E,.inl E,E,.inl E,E,.inl E,E,.inl E,E,Y⟩,E,E⟩
  ·have hje:j=l.tagged.length:=qB h
   clear h
   rw[hje,List.take_length]
   have hfull:A3 dv n.domains (l.vlan::l.tagged)=A3 dv n.domains l.tagged:=(show A3 dv n.domains (l.vlan::l.tagged)=A3 dv (Ck dv n.domains l.vlan) l.tagged from rfl).trans (by rw[hd1])
   rw[hfull]at hres
   by_cases h9:48<(A3 dv n.domains l.tagged).length
   ·have g9:decide (((A3 dv n.domains l.tagged).length:Int)>48)=true:=decide_eq_true q_
    rw[if_pos h9]at hres
    subst hres
    refine T ?_
    refine Am 1001 (B1 emptyN) E (.cons .nil (.cons .nil (.cons .nil (.cons .nil (.cons .nil (.cons .nil (.cons .nil (.cons .nil .nil)))))))) ?_
    refine T ?_
    exact D
   ·have g9:decide (((A3 dv n.domains l.tagged).length:Int)>48)=false:=decide_eq_false q_
    rw[if_neg h9]at hres
    subst hres
    refine T ?_
    refine Ah 901 E ?_
    refine Ah 1002 E ?_
    refine Ah 903 E ?_
    refine Ah 1004 E ?_
    refine Ah 905 E ?_
    refine Ah 906 E ?_
    refine Ah 907 E ?_
    refine Ah 908 E ?_
    exact D
theorem Aiv (n:Net) (hn:n.Fin) (ha:Bp n) (l:LineM) (hl:LineW l):Sy.Spec Tryz.prog 206 [Ae n,Au l] [] (.tup [Ae (putT n l).1,Aa (putT n l).2]) []:=cT F206 Tryz.ntmps206 fun F hF=>by
 have hres:=putT.eq_1 n l
 generalize putT n l=res at *
 by_cases h1:l.kind=1
 ·have g1:(l.kind == 1)=true:=by rw[beq_iff_eq];exact h1
  have q:=Ack n hn l hl
  rw[if_pos h1]at hres
  rw[← hres]at q
  refine T ?_
  refine C q F280 ?_
  exact D
 have g1:(l.kind == 1)=false:=by rw[beq_eq_false_iff_ne];exact h1
 rw[if_neg h1]at hres
 by_cases h2:l.kind=2
 ·have g2:(l.kind == 2)=true:=by rw[beq_iff_eq];exact h2
  have q:=Aga n hn l hl
  rw[if_pos h2]at hres
  rw[← hres]at q
  refine T ?_
  refine C q F281 ?_
  exact D
 have g2:(l.kind == 2)=false:=by rw[beq_eq_false_iff_ne];exact h2
 rw[if_neg h2]at hres
 by_cases h3:l.kind=3
 ·have g3:(l.kind == 3)=true:=by rw[beq_iff_eq];exact h3
  have q:=Ag3 n hn l hl
  rw[if_pos h3]at hres
  rw[← hres]at q
  refine T ?_
  refine C q F282 ?_
  exact D
 have g3:(l.kind == 3)=false:=by rw[beq_eq_false_iff_ne];exact h3
 rw[if_neg h3]at hres
 by_cases h4:l.kind=4
 ·have g4:(l.kind == 4)=true:=by rw[beq_iff_eq];exact h4
  have q:=Abh n hn l hl
  rw[if_pos h4]at hres
  rw[← hres]at q
  refine T ?_
  refine C q F283 ?_
  exact D
 have g4:(l.kind == 4)=false:=by rw[beq_eq_false_iff_ne];exact h4
 rw[if_neg h4]at hres
 by_cases h5:l.kind=5
 ·have g5:(l.kind == 5)=true:=by rw[beq_iff_eq];exact h5
  have q:=Ain n hn l hl
  rw[if_pos h5]at hres
  rw[← hres]at q
  refine T ?_
  refine C q F284 ?_
  exact D
 have g5:(l.kind == 5)=false:=by rw[beq_eq_false_iff_ne];exact h5
 rw[if_neg h5]at hres
 by_cases h6:l.kind=6
 ·have g6:(l.kind == 6)=true:=by rw[beq_iff_eq];exact h6
  have q:=ovVniS n hn l hl
  rw[if_pos h6]at hres
  rw[← hres]at q
  refine T ?_
  refine C q F285 ?_
  exact D
 have g6:(l.kind == 6)=false:=by rw[beq_eq_false_iff_ne];exact h6
 rw[if_neg h6]at hres
 by_cases h7:l.kind=7
 ·have g7:(l.kind == 7)=true:=by rw[beq_iff_eq];exact h7
  have q:=Agd n hn l hl
  rw[if_pos h7]at hres
  rw[← hres]at q
  refine T ?_
  refine C q F286 ?_
  exact D
 have g7:(l.kind == 7)=false:=by rw[beq_eq_false_iff_ne];exact h7
 rw[if_neg h7]at hres
 by_cases h8:l.kind=8
 ·have g8:(l.kind == 8)=true:=by rw[beq_iff_eq];exact h8
  have q:=Aih n hn l hl
  rw[if_pos h8]at hres
  rw[← hres]at q
  refine T ?_
  refine C q F287 ?_
  exact D
 have g8:(l.kind == 8)=false:=by rw[beq_eq_false_iff_ne];exact h8
 rw[if_neg h8]at hres
 by_cases h9:l.kind=9
 ·have g9:(l.kind == 9)=true:=by rw[beq_iff_eq];exact h9
  have q:=Ai5 n hn ha l hl
  rw[if_pos h9]at hres
  rw[← hres]at q
  refine T ?_
  refine C q F288 ?_
  exact D
 have g9:(l.kind == 9)=false:=by rw[beq_eq_false_iff_ne];exact h9
 rw[if_neg h9]at hres
 subst hres
 refine T ?_
 refine Am 4 (B1 emptyN) E (.cons .nil (.cons .nil (.cons .nil (.cons .nil (.cons .nil (.cons .nil (.cons .nil (.cons .nil .nil)))))))) ?_
 refine T ?_
 exact D
theorem Adq {n:Net} (h:Ac n=true) {i:Nat} (hi:i<n.floods.length):K1 n n.floods[i]=true:=by
 simp only[Ac,Bool.and_eq_true]at h
 exact allB_iff.1 h.1.1.2 i hi
theorem Ajj (n:Net) (hn:n.Fin) (hr:Ac n=true) (f:Flood) (hf:f∈n.floods):Sy.Spec Tryz.prog 60 [Ae n,Ax f] [] (Ab (agreesB n f)) []:=cT F60 Tryz.ntmps60 fun F hF=>by
 have hfd:0≤f.dev∧f.dev.toNat<n.devices.length:=by
  obtain ⟨j,hj,rfl⟩:=List.getElem_of_mem hf
  have:=Adq hr hj
  simp only[K1,Ar,Bool.and_eq_true,decide_eq_true_eq]at this
  omega
 have hfa:f.addrs.length<2147483648:=hn.addrs f hf
 have hown:(nth n.devices f.dev).vtep=(n.devices[f.dev.toNat]'hfd.2).vtep:=by rw[Ad hfd.2]
 have q1:=Oi n hn f.dev f.vni
 have hres:=agreesB.eq_1 n f
 have hag:∀ a,agreeA n f a=_:=agreeA.eq_1 n f
 generalize agreesB n f=res at *
 generalize J3 n f.dev f.vni=v0 at *
 refine T ?_
 refine A1 2 8 (Ae n) E E E ?_
 refine A1 3 4 (Ax f) E E E ?_
 refine T ?_
 refine C q1 F63 ?_
 refine Cc (fun j:Nat=>j≤f.addrs.length) (fun j=>[(2,.ref 8 (Ae n) 0),(3,.ref 4 (Ax f) 0),(5,A5 (n.devices[f.dev.toNat]'hfd.2).vtep),(6,Ab (decide (0≤v0) && (f.addrs.take j).all (agreeA n f))),(28,.sl 1 A5 f.addrs),(29,Aa f.addrs.length),(30,Aa j)]) (fun _=>[]) (fun j=>f.addrs.length-j) 0 [] q_ ⟨⟨E,E,E,E,E,E,congrArg Ab y_,E,E,E,E,E,E,E,Y⟩,Y,E,E⟩ ?_
 intro j hj
 refine T ?_
 refine⟨fun h=>?_,fun h=>?_⟩
 ·have hlt:j<f.addrs.length:=qA h
  have hj0:((j:Nat):Int).toNat<f.addrs.length:=hlt
  clear h
  have qo:=Abx n hn (f.addrs[((j:Nat):Int).toNat]'hj0)
  have hA:=hag (f.addrs[((j:Nat):Int).toNat]'hj0)
  have hsn:(f.addrs.take (j+1)).all (agreeA n f)=((f.addrs.take j).all (agreeA n f) && agreeA n f (f.addrs[((j:Nat):Int).toNat]'hj0)):=by
   rw[List.take_succ_eq_append_getElem hlt,List.all_append]
   simp only[List.all_cons,List.all_nil,Bool.and_true]
   rfl
  have hwhole:agreeA n f (f.addrs[((j:Nat):Int).toNat]'hj0)=false→f.addrs.all (agreeA n f)=false:=fun h=>by
   rw[List.all_eq_false]
   exact⟨_,List.getElem_mem hj0,by rw[h];simp⟩
  have hpart:(f.addrs.take j).all (agreeA n f)=false→f.addrs.all (agreeA n f)=false:=fun h=>by
   rw[List.all_eq_false]at h ⊢
   obtain ⟨x,hx,hx2⟩:=h
   exact⟨x,List.mem_of_mem_take hx,hx2⟩
  have qf:=Oi n hn (C3 n (f.addrs[((j:Nat):Int).toNat]'hj0)) f.vni
  have ql:=Xn n hn (C3 n (f.addrs[((j:Nat):Int).toNat]'hj0)) f.vni
  cases ho:(decide (0≤v0) && (f.addrs.take j).all (agreeA n f)) with
  | false =>
   have hr0:res=false:=by
    rw[hres]
    cases hd:decide (0≤v0)
    ·rfl
    ·rw[hd,Bool.true_and]at ho
     rw[hpart ho];rfl
   subst hr0
   generalize C3 n (f.addrs[((j:Nat):Int).toNat]'hj0)=dv at *
   refine T ?_
   refine C qo F64 ?_
   exact D
  | true =>
   have hdr:C3 n (f.addrs[((j:Nat):Int).toNat]'hj0)<0∨0≤C3 n (f.addrs[((j:Nat):Int).toNat]'hj0):=by omega
   have hlr:Eh n (C3 n (f.addrs[((j:Nat):Int).toNat]'hj0)) f.vni<0∨∃ k:Nat,Eh n (C3 n (f.addrs[((j:Nat):Int).toNat]'hj0)) f.vni=k∧k<n.floods.length:=by
    by_cases h:Eh n (C3 n (f.addrs[((j:Nat):Int).toNat]'hj0)) f.vni<0
    ·exact .inl h
    ·exact .inr (Eo h)
   generalize J3 n (C3 n (f.addrs[((j:Nat):Int).toNat]'hj0)) f.vni=fv at *
   generalize Eh n (C3 n (f.addrs[((j:Nat):Int).toNat]'hj0)) f.vni=lv at *
   generalize C3 n (f.addrs[((j:Nat):Int).toNat]'hj0)=dv at *
   by_cases k1:dv<0
   ·have g1:decide (dv≥0)=false:=decide_eq_false q_
    have g1n:(!(decide (dv≥0)))=true:=by rw[g1];rfl
    have hr0:res=false:=by rw[hres,hwhole (by rw[hA,decide_eq_false (by omega:¬ 0≤dv)];rfl),Bool.and_false]
    subst hr0
    refine T ?_
    refine C qo F64 ?_
    exact D
   have g1:decide (dv≥0)=true:=decide_eq_true q_
   rw[decide_eq_true (by omega:0≤dv),Bool.true_and]at hA
   by_cases k2:(f.addrs[((j:Nat):Int).toNat]'hj0)=0
   ·have g2:((f.addrs[((j:Nat):Int).toNat]'hj0) != 0)=false:=by rw[bne_eq_false_iff_eq];exact k2
    have g2n:(!((f.addrs[((j:Nat):Int).toNat]'hj0) != 0))=true:=by rw[g2];rfl
    have hr0:res=false:=by rw[hres,hwhole (by rw[hA,g2];rfl),Bool.and_false]
    subst hr0
    refine T ?_
    refine C qo F64 ?_
    exact D
   have g2:((f.addrs[((j:Nat):Int).toNat]'hj0) != 0)=true:=by rw[bne_iff_ne];exact k2
   rw[g2,Bool.true_and]at hA
   by_cases k3:fv<0
   ·have g3:decide (fv≥0)=false:=decide_eq_false q_
    have g3n:(!(decide (fv≥0)))=true:=by rw[g3];rfl
    have hr0:res=false:=by rw[hres,hwhole (by rw[hA,decide_eq_false (by omega:¬ 0≤fv)];rfl),Bool.and_false]
    subst hr0
    refine T ?_
    refine C qo F64 ?_
    refine C qf F63 ?_
    exact D
   have g3:decide (fv≥0)=true:=decide_eq_true q_
   rw[decide_eq_true (by omega:0≤fv),Bool.true_and]at hA
   by_cases k4:lv<0
   ·have g4:decide (lv≥0)=false:=decide_eq_false q_
    have g4n:(!(decide (lv≥0)))=true:=by rw[g4];rfl
    have hr0:res=false:=by rw[hres,hwhole (by rw[hA,decide_eq_false (by omega:¬ 0≤lv)];rfl),Bool.and_false]
    subst hr0
    refine T ?_
    refine C qo F64 ?_
    refine C qf F63 ?_
    refine C ql F62 ?_
    refine At E (.cons .tmp .nil) (congrArg Ab g4.symm) E
   have g4:decide (lv≥0)=true:=decide_eq_true q_
   have g4n:(!(decide (lv≥0)))=false:=by rw[g4];rfl
   rw[decide_eq_true (by omega:0≤lv),Bool.true_and]at hA
   obtain ⟨m,hm,hml⟩:=hlr.resolve_left k4
   subst hm
   have hm0:((m:Nat):Int).toNat<n.floods.length:=hml
   rw[Ad hm0,hown]at hA
   have hfar:=hn.addrs _ (List.getElem_mem hm0)
   have qc:=Jw (n.floods[((m:Nat):Int).toNat]'hm0).addrs (n.devices[f.dev.toNat]'hfd.2).vtep hfar
   have qcb:=fun b=>Jw (n.floods[((m:Nat):Int).toNat]'hm0).addrs b hfar
   have hnx:(decide (0≤v0) && (f.addrs.take (j+1)).all (agreeA n f))=(inB (n.floods[((m:Nat):Int).toNat]'hm0).addrs (n.devices[f.dev.toNat]'hfd.2).vtep && f.addrs.all fun b=>b == (f.addrs[((j:Nat):Int).toNat]'hj0) || inB (n.floods[((m:Nat):Int).toNat]'hm0).addrs b):=by
    rw[hsn,← Bool.and_assoc,ho,Bool.true_and,hA]
   clear hA hsn hwhole hpart ho hag
   refine T ?_
   refine C qo F64 ?_
   refine C qf F63 ?_
   refine C ql F62 ?_
   refine C ql F62 ?_
   refine C qc F150 ?_
   refine Cc (fun k:Nat=>k≤f.addrs.length) (fun k=>[(2,.ref 8 (Ae n) 0),(3,.ref 4 (Ax f) 0),(5,A5 (n.devices[f.dev.toNat]'hfd.2).vtep),(6,Ab (inB (n.floods[((m:Nat):Int).toNat]'hm0).addrs (n.devices[f.dev.toNat]'hfd.2).vtep && (f.addrs.take k).all fun b=>b == (f.addrs[((j:Nat):Int).toNat]'hj0) || inB (n.floods[((m:Nat):Int).toNat]'hm0).addrs b)),(8,A5 (f.addrs[((j:Nat):Int).toNat]'hj0)),(10,.sl 1 A5 (n.floods[((m:Nat):Int).toNat]'hm0).addrs),(28,.sl 1 A5 f.addrs),(29,Aa f.addrs.length),(30,Aa j),(78,.sl 1 A5 f.addrs),(79,Aa f.addrs.length),(80,Aa k)]) (fun _=>[]) (fun k=>f.addrs.length-k) 0 [] q_ ⟨⟨E,E,E,E,E,E,congrArg Ab y_,E,E,E,E,E,E,E,E,E,E,E,E,E,E,E,E,E,Y⟩,Y,E,E⟩ ?_
   intro k hk
   refine T ?_
   refine⟨fun h=>?_,fun h=>?_⟩
   ·have hlt2:k<f.addrs.length:=qA h
    have hk0:((k:Nat):Int).toNat<f.addrs.length:=hlt2
    clear h
    have hsn:(f.addrs.take (k+1)).all (fun b=>b == (f.addrs[((j:Nat):Int).toNat]'hj0) || inB (n.floods[((m:Nat):Int).toNat]'hm0).addrs b)=((f.addrs.take k).all (fun b=>b == (f.addrs[((j:Nat):Int).toNat]'hj0) || inB (n.floods[((m:Nat):Int).toNat]'hm0).addrs b) && ((f.addrs[((k:Nat):Int).toNat]'hk0) == (f.addrs[((j:Nat):Int).toNat]'hj0) || inB (n.floods[((m:Nat):Int).toNat]'hm0).addrs (f.addrs[((k:Nat):Int).toNat]'hk0))):=by
     rw[List.take_succ_eq_append_getElem hlt2,List.all_append]
     simp only[List.all_cons,List.all_nil,Bool.and_true]
     rfl
    have hst:(inB (n.floods[((m:Nat):Int).toNat]'hm0).addrs (n.devices[f.dev.toNat]'hfd.2).vtep && (f.addrs.take (k+1)).all fun b=>b == (f.addrs[((j:Nat):Int).toNat]'hj0) || inB (n.floods[((m:Nat):Int).toNat]'hm0).addrs b)=((inB (n.floods[((m:Nat):Int).toNat]'hm0).addrs (n.devices[f.dev.toNat]'hfd.2).vtep && (f.addrs.take k).all fun b=>b == (f.addrs[((j:Nat):Int).toNat]'hj0) || inB (n.floods[((m:Nat):Int).toNat]'hm0).addrs b) && ((f.addrs[((k:Nat):Int).toNat]'hk0) == (f.addrs[((j:Nat):Int).toNat]'hj0) || inB (n.floods[((m:Nat):Int).toNat]'hm0).addrs (f.addrs[((k:Nat):Int).toNat]'hk0))):=by
     rw[hsn,Bool.and_assoc]
    have qb:=qcb (f.addrs[((k:Nat):Int).toNat]'hk0)
    cases ho2:(inB (n.floods[((m:Nat):Int).toNat]'hm0).addrs (n.devices[f.dev.toNat]'hfd.2).vtep && (f.addrs.take k).all fun b=>b == (f.addrs[((j:Nat):Int).toNat]'hj0) || inB (n.floods[((m:Nat):Int).toNat]'hm0).addrs b) with
    | false =>
     rw[ho2,Bool.false_and]at hst
     refine T ?_
     exact A8 (k+1) [] hlt2 q_ ⟨⟨E,E,E,E,E,E,congrArg Ab hst,E,E,E,E,E,E,E,E,E,E,E,E,E,E,E,E,E,Y⟩,Y,E,E⟩
    | true =>
     rw[ho2,Bool.true_and]at hst
     cases he:((f.addrs[((k:Nat):Int).toNat]'hk0) == (f.addrs[((j:Nat):Int).toNat]'hj0)) with
     | true =>
      rw[he,Bool.true_or]at hst
      refine T ?_
      exact A8 (k+1) [] hlt2 q_ ⟨⟨E,E,E,E,E,E,congrArg Ab hst,E,E,E,E,E,E,E,E,E,E,E,E,E,E,E,E,E,Y⟩,Y,E,E⟩
     | false =>
      rw[he,Bool.false_or]at hst
      refine T ?_
      refine C qb F150 ?_
      exact A8 (k+1) [] hlt2 q_ ⟨⟨E,E,E,E,E,E,congrArg Ab hst,E,E,E,E,E,E,E,E,E,E,E,E,E,E,E,E,E,Y⟩,Y,E,E⟩
   ·have hke:k=f.addrs.length:=qB h
    clear h
    rw[hke,List.take_length]
    refine T ?_
    exact A8 (j+1) [] hlt q_ ⟨⟨E,E,E,E,E,E,congrArg Ab hnx,E,E,E,E,E,E,E,Y⟩,Y,E,E⟩
 ·have hje:j=f.addrs.length:=qB h
  clear h
  subst hje
  rw[List.take_length,← hres]
  refine T ?_
  exact D
theorem Mq {α:Type} {p:α→Bool}:∀ {l:List α} {j:Nat} (hj:j<l.length),(∀ k (hk:k<l.length),k<j→p l[k]=false)→p l[j]=true→l.find? p=some l[j]
 | x::l,0,_,_,h2=>by
  rw[List.getElem_cons_zero]at h2 ⊢
  rw[List.find?_cons,h2]
 | x::l,j+1,hj,h1,h2=>by
  rw[List.getElem_cons_succ]at h2 ⊢
  have h0:=h1 0 y_ q_
  rw[List.getElem_cons_zero]at h0
  rw[List.find?_cons,h0]
  exact Mq (by simpa using hj) (fun k hk hkj=>by
   have:=h1 (k+1) (by simp;omega) q_
   rwa [List.getElem_cons_succ]at this) h2
def J4 (n:Net) (j:Nat):List Domain:=(n.domains.take j).map (fun d=>{ d with peers:=peersT n d })++n.domains.drop j
theorem Aeu (n:Net):J4 n 0=n.domains:=by simp[J4]
theorem Agq (n:Net):J4 n n.domains.length=(Dw n).domains:=by simp[J4,Dw]
theorem Agp (n:Net) {j:Nat} (hj:j≤n.domains.length):(J4 n j).length=n.domains.length:=by simp[J4];omega
theorem Aev (n:Net) {j:Nat} (hj:j<n.domains.length) (h:((j:Nat):Int).toNat<(J4 n j).length) :
  (J4 n j)[((j:Nat):Int).toNat]'h=n.domains[j]∧(J4 n j).set ((j:Nat):Int).toNat { n.domains[j] with peers:=peersT n n.domains[j] }=J4 n (j+1):=by
 have hl:((n.domains.take j).map (fun d=>{ d with peers:=peersT n d })).length=j:=by simp;omega
 have e:J4 n j=(n.domains.take j).map (fun d=>{ d with peers:=peersT n d })++n.domains[j]::n.domains.drop (j+1):=by
  rw[J4,List.drop_eq_getElem_cons hj]
 have e2:J4 n (j+1)=(n.domains.take j).map (fun d=>{ d with peers:=peersT n d })++{ n.domains[j] with peers:=peersT n n.domains[j] }::n.domains.drop (j+1):=by
  rw[J4,List.take_succ_eq_append_getElem hj,List.map_append,List.map_cons,List.map_nil,List.append_assoc];rfl
 constructor
 ·simp only[Int.toNat_natCast,e]
  rw[List.getElem_append_right q_]
  simp only[hl,Nat.sub_self,List.getElem_cons_zero]
 ·rw[Int.toNat_natCast,e,e2,List.set_append_right _ _ q_,hl,Nat.sub_self]
  rfl
theorem Ahq (n:Net) (h:Ac n=true):(∀ f∈n.floods,f.addrs.length≤16):=fun f hf=>by
 obtain ⟨j,hj,rfl⟩:=List.getElem_of_mem hf
 have:=Adq h hj
 simp only[K1,Bool.and_eq_true,decide_eq_true_eq]at this
 exact this.2
theorem Aem {n:Net} (h:Ac n=true) (d:Domain):(peersT n d).length≤16:=by
 unfold peersT
 split
 ·rename_i hc
  rw[List.length_map]
  have hl:=Ot (fun f:Flood=>f.dev == d.dev && f.vni == d.vni) n.floods
  have h0:(Eh n d.dev d.vni).toNat<n.floods.length:=by
   have e:Eh n d.dev d.vni=Bd (fun f:Flood=>f.dev == d.dev && f.vni == d.vni) n.floods:=rfl
   have:=hc.2
   omega
  rw[Ad h0]
  exact Ahq n h _ (List.getElem_mem h0)
 ·simp
theorem Uo {n:Net} (hn:n.Fin) (h:Ac n=true):(Dw n).Fin:=by
 have hl:(Dw n).domains.length=n.domains.length:=by simp[Dw]
 refine { hn with domains:=?_,peers:=?_ }
 ·show (Dw n).domains.length<_
  rw[hl];exact hn.domains
 ·intro p hp
  have hp:p∈n.domains.map fun d=>{ d with peers:=peersT n d }:=hp
  obtain ⟨d,_,rfl⟩:=List.mem_map.1 hp
  show (peersT n d).length<_
  have:=Aem h d
  omega
theorem meshS (n:Net) (hn:n.Fin):Sy.Spec Tryz.prog 23 [Ae n] [] (.tup [Ae (meshNT n).1,Aa (meshNT n).2.1,Aa (meshNT n).2.2]) []:=cT F23 Tryz.ntmps23 fun F hF=>by
 have qn:=Aw n hn
 have qcopy:=Jv n hn
 have hres:=meshNT.eq_1 n
 generalize meshNT n=res at *
 cases hr:Ac n with
 | false =>
  rw[hr]at qn
  rw[hr,if_pos rfl]at hres
  subst hres
  refine T ?_
  refine C qn F25 ?_
  refine Am 2 (B1 emptyN) E (.cons .nil (.cons .nil (.cons .nil (.cons .nil (.cons .nil (.cons .nil (.cons .nil (.cons .nil .nil)))))))) ?_
  refine T ?_
  exact D
 | true =>
 rw[hr]at qn
 rw[hr,if_neg y_]at hres
 have hff:n.floods.length<2147483648:=hn.floods
 have hdd:n.domains.length<2147483648:=hn.domains
 refine T ?_
 refine C qn F25 ?_
 refine A1 1 8 (Ae n) E E E ?_
 refine Cc (fun j:Nat=>j≤n.floods.length∧∀ k (hk:k<n.floods.length),k<j→agreesB n n.floods[k]=true) (fun j=>[(1,.ref 8 (Ae n) 0),(2,.ptr 1001 0),(18,.sl 4 Ax n.floods),(19,Aa n.floods.length),(20,Aa j)]) (fun _=>[(1001,.box [.val (.slice none 0 0),.val (.slice none 0 0),.val (.slice none 0 0),.val (.slice none 0 0),.val (.slice none 0 0),.val (.slice none 0 0),.val (.slice none 0 0),.val (.slice none 0 0)])]) (fun j=>n.floods.length-j) 0 [(1001,2)] ⟨by omega,fun k hk h=>by omega⟩ U ?_
 rintro j ⟨hj,hI⟩
 refine T ?_
 refine⟨fun h=>?_,fun h=>?_⟩
 ·have hlt:j<n.floods.length:=qA h
  have hj0:((j:Nat):Int).toNat<n.floods.length:=hlt
  clear h
  have q:=Ajj n hn hr (n.floods[((j:Nat):Int).toNat]'hj0) (List.getElem_mem hj0)
  cases ha:agreesB n (n.floods[((j:Nat):Int).toNat]'hj0) with
  | false =>
   rw[ha]at q
   rw[Mq (p:=fun f=>!(agreesB n f)) hlt (fun k hk hkj=>by simp only[hI k hk hkj];rfl) (by show (!(agreesB n (n.floods[((j:Nat):Int).toNat]'hj0)))=true;rw[ha];rfl)]at hres
   dsimp only at hres
   subst hres
   refine T ?_
   refine C q F60 ?_
   refine Am 1001 (B1 emptyN) E (.cons .nil (.cons .nil (.cons .nil (.cons .nil (.cons .nil (.cons .nil (.cons .nil (.cons .nil .nil)))))))) ?_
   refine T ?_
   exact D
  | true =>
   rw[ha]at q
   refine T ?_
   refine C q F60 ?_
   refine A8 (j+1) [] ⟨hlt,fun k hk hkj=>?_⟩ q_ U
   by_cases e:k=j
   ·subst e;exact ha
   ·exact hI k hk q_
 ·have hje:j=n.floods.length:=qB h
  clear h
  have hnone:n.floods.find? (fun f=>!(agreesB n f))=none:=by
   rw[List.find?_eq_none]
   intro x hx
   obtain ⟨k,hk,rfl⟩:=List.getElem_of_mem hx
   rw[hI k hk q_];simp
  rw[hnone]at hres
  dsimp only at hres
  clear hI hj hje hnone
  refine T ?_
  refine X (Aj [(0,901),(1,902),(2,903),(3,904),(4,905),(5,906),(6,907),(7,908)] E F61 qcopy E W E V) ?_
  refine Cc (fun j:Nat=>j≤n.domains.length) (fun j=>[(1,.ref 8 (Ae n) 0),(2,.ptr 1001 0),(35,.sl 6 Af n.domains),(36,Aa n.domains.length),(37,Aa j)]) (fun j=>[(1001,.box [.osl 901,.osl 902,.osl 903,.osl 1004,.osl 905,.osl 906,.osl 907,.osl 908]),(901,.row 5 Ap n.devices),(902,.row 7 As n.ports),(903,.row 3 Bg n.links),(1004,.row 6 Af (J4 n j)),(905,.row 4 Av n.statics),(906,.row 4 Ax n.floods),(907,.row 5 Bh n.vrfs),(908,.row 5 Bf n.irbs)]) (fun j=>n.domains.length-j) 0 [(1004,904)] q_ ⟨⟨E,E,E,E,E,E,E,E,E,E,Y⟩,⟨.inl E,E,.inl E,E,.inl E,E,.inl E,E,.inl (congrArg (Ob.row 6 Af) (Aeu n)),E,.inl E,E,.inl E,E,.inl E,E,.inl E,E,Y⟩,E,E⟩ ?_
  intro j hj
  have hml:=Agp n hj
  refine T ?_
  refine⟨fun h=>?_,fun h=>?_⟩
  ·have hlt:j<n.domains.length:=qA h
   have hj0:((j:Nat):Int).toNat<n.domains.length:=hlt
   clear h
   have hjm:((j:Nat):Int).toNat<(J4 n j).length:=by rw[hml];exact hj0
   obtain ⟨m1,m2⟩:=Aev n hlt hjm
   have hDj:n.domains[j]=(n.domains[((j:Nat):Int).toNat]'hj0):=rfl
   rw[hDj]at m1 m2
   have hne:J4 n j≠[]:=fun e=>by rw[e]at hjm;cases hjm
   have ql:=Xn n hn (n.domains[((j:Nat):Int).toNat]'hj0).dev (n.domains[((j:Nat):Int).toNat]'hj0).vni
   have hpt:=peersT.eq_1 n (n.domains[((j:Nat):Int).toNat]'hj0)
   have hlr:Eh n (n.domains[((j:Nat):Int).toNat]'hj0).dev (n.domains[((j:Nat):Int).toNat]'hj0).vni<0∨∃ k:Nat,Eh n (n.domains[((j:Nat):Int).toNat]'hj0).dev (n.domains[((j:Nat):Int).toNat]'hj0).vni=k∧k<n.floods.length:=by
    by_cases h:Eh n (n.domains[((j:Nat):Int).toNat]'hj0).dev (n.domains[((j:Nat):Int).toNat]'hj0).vni<0
    ·exact .inl h
    ·exact .inr (Eo h)
   generalize Eh n (n.domains[((j:Nat):Int).toNat]'hj0).dev (n.domains[((j:Nat):Int).toNat]'hj0).vni=lv at *
   generalize hpT:peersT n (n.domains[((j:Nat):Int).toNat]'hj0)=ps at *
   by_cases k1:(n.domains[((j:Nat):Int).toNat]'hj0).vni=0
   ·have g1:((n.domains[((j:Nat):Int).toNat]'hj0).vni != 0)=false:=by rw[bne_eq_false_iff_eq];exact k1
    rw[if_neg (fun h=>h.1 k1)]at hpt
    subst hpt
    refine T ?_
    refine Ci 9 1 Aa E ?_
    refine C ql F62 ?_
    refine⟨hne,?_⟩
    refine T ?_
    refine⟨(⟨(n.domains[((j:Nat):Int).toNat]'hj0).dev,(n.domains[((j:Nat):Int).toNat]'hj0).vlan,(n.domains[((j:Nat):Int).toNat]'hj0).vni,(n.domains[((j:Nat):Int).toNat]'hj0).irb,(n.domains[((j:Nat):Int).toNat]'hj0).row,[]⟩:Domain),by rw[m1];rfl,by rw[m1];rfl,?_⟩
    refine T ?_
    exact A8 (j+1) [] hlt q_ ⟨⟨E,E,E,E,E,E,E,E,E,E,Y⟩,⟨.inl E,E,.inl E,E,.inl E,E,.inl E,E,.inl (congrArg (Ob.row 6 Af) m2.symm),E,.inl E,E,.inl E,E,.inl E,E,.inl E,E,Y⟩,E,E⟩
   have g1:((n.domains[((j:Nat):Int).toNat]'hj0).vni != 0)=true:=by rw[bne_iff_ne];exact k1
   by_cases k2:lv<0
   ·have g2:decide (lv≥0)=false:=decide_eq_false q_
    rw[if_neg (fun h=>by have:=h.2;omega)]at hpt
    subst hpt
    refine T ?_
    refine Ci 9 1 Aa E ?_
    refine C ql F62 ?_
    refine⟨hne,?_⟩
    refine T ?_
    refine⟨(⟨(n.domains[((j:Nat):Int).toNat]'hj0).dev,(n.domains[((j:Nat):Int).toNat]'hj0).vlan,(n.domains[((j:Nat):Int).toNat]'hj0).vni,(n.domains[((j:Nat):Int).toNat]'hj0).irb,(n.domains[((j:Nat):Int).toNat]'hj0).row,[]⟩:Domain),by rw[m1];rfl,by rw[m1];rfl,?_⟩
    refine T ?_
    exact A8 (j+1) [] hlt q_ ⟨⟨E,E,E,E,E,E,E,E,E,E,Y⟩,⟨.inl E,E,.inl E,E,.inl E,E,.inl E,E,.inl (congrArg (Ob.row 6 Af) m2.symm),E,.inl E,E,.inl E,E,.inl E,E,.inl E,E,Y⟩,E,E⟩
   obtain ⟨m,hm,hmf⟩:=hlr.resolve_left k2
   subst hm
   clear hlr
   have g2:decide ((m:Int)≥0)=true:=decide_eq_true q_
   have hm0:((m:Nat):Int).toNat<n.floods.length:=hmf
   rw[if_pos ⟨k1,by omega⟩,Ad hm0]at hpt
   have hfa:=Ahq n hr _ (List.getElem_mem hm0)
   refine T ?_
   refine Cq 9 1200 1 Aa E E ?_
   refine C ql F62 ?_
   refine A1 8 6 (Af (n.domains[((j:Nat):Int).toNat]'hj0)) E E E ?_
   refine Cc (fun k:Nat=>k≤(n.floods[((m:Nat):Int).toNat]'hm0).addrs.length) (fun k=>[(1,.ref 8 (Ae n) 0),(2,.ptr 1001 0),(7,Aa j),(8,.ref 6 (Af (n.domains[((j:Nat):Int).toNat]'hj0)) 0),(9,.osl 1200),(35,.sl 6 Af n.domains),(36,Aa n.domains.length),(37,Aa j),(60,.sl 1 A5 (n.floods[((m:Nat):Int).toNat]'hm0).addrs),(61,Aa (n.floods[((m:Nat):Int).toNat]'hm0).addrs.length),(62,Aa k)]) (fun k=>[(1001,.box [.osl 901,.osl 902,.osl 903,.osl 1004,.osl 905,.osl 906,.osl 907,.osl 908]),(901,.row 5 Ap n.devices),(902,.row 7 As n.ports),(903,.row 3 Bg n.links),(1004,.row 6 Af (J4 n j)),(905,.row 4 Av n.statics),(906,.row 4 Ax n.floods),(907,.row 5 Bh n.vrfs),(908,.row 5 Bf n.irbs),(1200,.row 1 Aa (((n.floods[((m:Nat):Int).toNat]'hm0).addrs.take k).map (fun a=>J3 n (C3 n a) (n.domains[((j:Nat):Int).toNat]'hj0).vni)))]) (fun k=>(n.floods[((m:Nat):Int).toNat]'hm0).addrs.length-k) 0 [] q_ U ?_
   intro k hk
   refine T ?_
   refine⟨fun h=>?_,fun h=>?_⟩
   ·have hlt2:k<(n.floods[((m:Nat):Int).toNat]'hm0).addrs.length:=qA h
    have hk0:((k:Nat):Int).toNat<(n.floods[((m:Nat):Int).toNat]'hm0).addrs.length:=hlt2
    clear h
    have qo:=Abx n hn ((n.floods[((m:Nat):Int).toNat]'hm0).addrs[((k:Nat):Int).toNat]'hk0)
    have qf:=Oi n hn (C3 n ((n.floods[((m:Nat):Int).toNat]'hm0).addrs[((k:Nat):Int).toNat]'hk0)) (n.domains[((j:Nat):Int).toNat]'hj0).vni
    have hsn:((n.floods[((m:Nat):Int).toNat]'hm0).addrs.take (k+1)).map (fun a=>J3 n (C3 n a) (n.domains[((j:Nat):Int).toNat]'hj0).vni)=((n.floods[((m:Nat):Int).toNat]'hm0).addrs.take k).map (fun a=>J3 n (C3 n a) (n.domains[((j:Nat):Int).toNat]'hj0).vni)++[J3 n (C3 n ((n.floods[((m:Nat):Int).toNat]'hm0).addrs[((k:Nat):Int).toNat]'hk0)) (n.domains[((j:Nat):Int).toNat]'hj0).vni]:=by
     rw[List.take_succ_eq_append_getElem hlt2,List.map_append];rfl
    have hrl:(((n.floods[((m:Nat):Int).toNat]'hm0).addrs.take k).map (fun a=>J3 n (C3 n a) (n.domains[((j:Nat):Int).toNat]'hj0).vni)).length≤16:=by rw[List.length_map,List.length_take];omega
    refine T ?_
    refine C qo F64 ?_
    refine C qf F63 ?_
    refine Xd (Ai Γ.toTy 75 E E E E E (.row E) (.lit (e:=Aa) (l:=[J3 n (C3 n ((n.floods[((m:Nat):Int).toNat]'hm0).addrs[((k:Nat):Int).toNat]'hk0)) (n.domains[((j:Nat):Int).toNat]'hj0).vni]) E E) j_ (by simp only[List.length_singleton];omega) (by simp only[List.length_singleton];omega)) ?_
    refine T ?_
    exact A8 (k+1) [(1200,75)] hlt2 q_ ⟨⟨E,E,E,E,E,E,E,E,E,E,E,E,E,E,E,E,E,E,E,E,E,E,Y⟩,⟨.inl E,E,.inl E,E,.inl E,E,.inl E,E,.inl E,E,.inl E,E,.inl E,E,.inl E,E,.inl E,E,.inl (congrArg (Ob.row 1 Aa) hsn),E,Y⟩,E,E⟩
   ·have hke:k=(n.floods[((m:Nat):Int).toNat]'hm0).addrs.length:=qB h
    clear h
    rw[hke,List.take_length,← hpt]
    refine Ah 1200 E ?_
    refine T ?_
    refine⟨hne,?_⟩
    refine T ?_
    refine⟨(⟨(n.domains[((j:Nat):Int).toNat]'hj0).dev,(n.domains[((j:Nat):Int).toNat]'hj0).vlan,(n.domains[((j:Nat):Int).toNat]'hj0).vni,(n.domains[((j:Nat):Int).toNat]'hj0).irb,(n.domains[((j:Nat):Int).toNat]'hj0).row,ps⟩:Domain),by rw[m1];rfl,by rw[m1];rfl,?_⟩
    refine T ?_
    exact A8 (j+1) [] hlt q_ ⟨⟨E,E,E,E,E,E,E,E,E,E,Y⟩,⟨.inl E,E,.inl E,E,.inl E,E,.inl E,E,.inl (congrArg (Ob.row 6 Af) m2.symm),E,.inl E,E,.inl E,E,.inl E,E,.inl E,E,Y⟩,E,E⟩
  ·have hje:j=n.domains.length:=qB h
   clear h
   subst hje
   rw[Agq]
   have qm:=Aw (Dw n) (Uo hn hr)
   refine T ?_
   refine Ah 901 E ?_
   refine Ah 902 E ?_
   refine Ah 903 E ?_
   refine Ah 1004 E ?_
   refine Ah 905 E ?_
   refine Ah 906 E ?_
   refine Ah 907 E ?_
   refine Ah 908 E ?_
   cases hb:Ac (Dw n) with
   | false =>
    rw[hb]at qm
    rw[hb,if_pos rfl]at hres
    subst hres
    refine C qm F25 ?_
    refine Am 1001 (B1 emptyN) E (.cons .nil (.cons .nil (.cons .nil (.cons .nil (.cons .nil (.cons .nil (.cons .nil (.cons .nil .nil)))))))) ?_
    refine T ?_
    exact D
   | true =>
    rw[hb]at qm
    rw[hb,if_neg y_]at hres
    subst hres
    refine C qm F25 ?_
    exact D
end Go.Sy.YtjenpnjajjplkaaGreatDoor
namespace Go.Sy.YtjenpnjajjplkaaGreatDoor
open Go.Proofs
set_option maxHeartbeats 4000000
structure PutP (x:Net × Int):Prop where
 fin:x.1.Fin
 addrs:Bp x.1
 none:x.2≠0→x.1=emptyN
theorem Hy:emptyN.Fin:=by
 constructor<;>first | (show (0:Nat)<2147483648;decide) | (intro p hp;cases hp)
theorem A0 (e:Int):PutP (emptyN,e):=⟨Hy,(fun x hx=>by cases hx),fun _=>rfl⟩
theorem Hn {n:Net} (h:n.Fin) (a:Bp n):PutP (n,0):=⟨h,a,fun h=>absurd rfl h⟩
theorem K2 {n:Net} {l:LineM} {k:Int} (h:¬ fitsB n l k=false):n.devices.length≤8∧n.ports.length≤40∧n.links.length≤20∧n.domains.length≤48∧n.statics.length≤64∧n.floods.length≤48∧n.vrfs.length≤16∧n.irbs.length≤48:=by
 have h:fitsB n l k=true:=by simpa using h
 rw[fitsB,Bool.and_eq_true,Bool.and_eq_true]at h
 have h3:=h.2.2
 simp only[Ac,Bool.and_eq_true]at h3
 have h4:=h3.1.1.1.1.1.1.1.1
 simpa [Ae8,and_assoc] using h4
theorem Qg {n:Net} {l:LineM} {k:Int} (h:¬ (begT n l k).2≠0):n.devices.length≤8∧n.ports.length≤40∧n.links.length≤20∧n.domains.length≤48∧n.statics.length≤64∧n.floods.length≤48∧n.vrfs.length≤16∧n.irbs.length≤48:=by
 apply K2 (l:=l) (k:=k)
 intro h2
 rw[begT,if_pos h2]at h
 exact h j_
theorem Bz {α:Type} {l:List α} (h:l.length≤100000):Ag l:=by show l.length<2147483648;omega
theorem Tf (dev:Int):∀ (l:List Int) (ds:List Domain) (d:Domain),d∈A3 dev ds l→d∈ds∨d.peers=[]
 | [],_,_,h=>.inl h
 | v::l,ds,d,h=>by
  rcases Tf dev l (Ck dev ds v) d h with h | h
  ·unfold Ck at h
   split at h
   ·rcases List.mem_append.1 h with h | h
    ·exact .inl h
    ·rw[List.mem_singleton.1 h];exact .inr rfl
   ·exact .inl h
  ·exact .inr h
theorem Ade {α:Type} {l:List α} {i:Nat} {x y:α} (h:y∈l.set i x):y∈l∨y=x:=by
 rcases List.mem_or_eq_of_mem_set h with h | h
 ·exact .inl h
 ·exact .inr h
theorem Aby {α:Type} [Inhabited α] {l:List α} {i:Int} (h:i.toNat<l.length):nth l i∈l:=by rw[Ad h];exact List.getElem_mem h
theorem Vp {n:Net} {l:LineM} (hn:n.Fin) (ha:Bp n):PutP (putDevice n l):=by
 unfold putDevice
 split
 ·exact A0 _
 rename_i h
 have:=K2 h
 split
 ·exact A0 _
 split
 ·exact A0 _
 exact Hn { hn with devices:=Bz (by rw[List.length_append,List.length_singleton];omega) } ha
theorem Zc {n:Net} {l:LineM} (hn:n.Fin) (ha:Bp n) (hl:LineW l):PutP (putPort n l):=by
 unfold putPort
 split
 ·exact A0 _
 rename_i h
 have:=K2 h
 split
 ·exact A0 _
 split
 ·exact A0 _
 split
 ·exact A0 _
 split
 ·exact A0 _
 refine Hn { hn with ports:=Bz (by rw[List.length_append,List.length_singleton];omega),domains:=Bz (by dsimp only;omega),tagged:=fun p hp=>?_,peers:=fun d hd=>?_ } ha
 ·rcases List.mem_append.1 hp with hp | hp
  ·exact hn.tagged p hp
  ·rw[List.mem_singleton.1 hp];exact Bz hl.fin.t
 ·rcases Tf _ _ _ _ hd with h | h
  ·exact hn.peers d h
  ·exact Bz (by rw[h];exact Nat.zero_le _)
theorem Ac4 {l:List Port} {i k:Int} {p:Port} (h:p∈Hj l i k) (hT:∀ p∈l,Ag p.tagged):Ag p.tagged:=by
 by_cases hi:i.toNat<l.length
 ·rcases Ade h with h | h
  ·exact hT p h
  ·rw[h];exact show Ag (nth l i).tagged from hT _ (Aby hi)
 ·rw[Hj,List.set_eq_of_length_le q_]at h
  exact hT p h
theorem Zd {n:Net} {l:LineM} (hn:n.Fin) (ha:Bp n):PutP (putLink n l):=by
 unfold putLink
 split
 ·exact A0 _
 rename_i h
 have:=K2 h
 dsimp only
 split
 ·exact A0 _
 split
 ·exact A0 _
 split
 ·exact A0 _
 refine Hn { hn with ports:=Bz (by simp only[Hj,List.length_set];omega),links:=Bz (by rw[List.length_append,List.length_singleton];omega),tagged:=fun p hp=>Ac4 hp fun q hq=>Ac4 hq hn.tagged } ha
theorem Vo {n:Net} {l:LineM} (hn:n.Fin) (ha:Bp n):PutP (putStatic n l):=by
 unfold putStatic
 split
 ·exact A0 _
 rename_i h
 have:=K2 h
 dsimp only
 split
 ·exact A0 _
 split
 ·exact A0 _
 split
 ·exact A0 _
 split
 ·exact A0 _
 exact Hn { hn with statics:=Bz (by rw[List.length_append,List.length_singleton];omega) } ha
theorem Zb {n:Net} {l:LineM} (hn:n.Fin) (ha:Bp n):PutP (putVtep n l):=by
 unfold putVtep
 split
 ·exact A0 _
 rename_i h
 have:=Qg h
 dsimp only
 split
 ·exact A0 _
 exact Hn { hn with devices:=Bz (by simp only[Ip,List.length_set];omega) } ha
theorem Adr {l:List Domain} {i:Nat} {e d:Domain} (h:d∈l.set i e) (he:i<l.length→Ag e.peers) (hT:∀ p∈l,Ag p.peers):Ag d.peers:=by
 by_cases hi:i<l.length
 ·rcases Ade h with h | h
  ·exact hT d h
  ·rw[h];exact he hi
 ·rw[List.set_eq_of_length_le q_]at h
  exact hT d h
theorem Abs {n:Net} {l:LineM} (hn:n.Fin) (ha:Bp n):PutP (putVni n l):=by
 unfold putVni
 split
 ·exact A0 _
 rename_i h
 have:=Qg h
 dsimp only
 split
 ·exact A0 _
 split
 ·exact A0 _
 split
 ·exact A0 _
 exact Hn { hn with domains:=Bz (by simp only[List.length_set];omega),peers:=fun d hd=>Adr hd (fun hi=>show Ag (nth n.domains _).peers from hn.peers _ (Aby hi)) hn.peers } ha
theorem Xj {n:Net} {l:LineM} (hn:n.Fin) (ha:Bp n) (hl:LineW l):PutP (putFlood n l):=by
 unfold putFlood
 split
 ·exact A0 _
 rename_i h
 have:=Qg h
 dsimp only
 split
 ·exact A0 _
 split
 ·exact A0 _
 split
 ·exact A0 _
 split
 ·exact A0 _
 refine Hn { hn with floods:=Bz (by rw[List.length_append,List.length_singleton];omega),addrs:=fun p hp=>?_ } ha
 rcases List.mem_append.1 hp with hp | hp
 ·exact hn.addrs p hp
 ·rw[List.mem_singleton.1 hp];exact Bz hl.fin.a
theorem Abr {n:Net} {l:LineM} (hn:n.Fin) (ha:Bp n) (hl:LineW l):PutP (putVrf n l):=by
 unfold putVrf
 split
 ·exact A0 _
 rename_i h
 have:=Qg h
 dsimp only
 split
 ·exact A0 _
 split
 ·exact A0 _
 refine Hn { hn with vrfs:=Bz (by rw[List.length_append,List.length_singleton];omega),imports:=fun p hp=>?_,exports:=fun p hp=>?_ } ha
 ·rcases List.mem_append.1 hp with hp | hp
  ·exact hn.imports p hp
  ·rw[List.mem_singleton.1 hp];exact Bz hl.fin.i
 ·rcases List.mem_append.1 hp with hp | hp
  ·exact hn.exports p hp
  ·rw[List.mem_singleton.1 hp];exact Bz hl.fin.e
theorem Abt {n:Net} {l:LineM} (hn:n.Fin) (ha:Bp n) (hl:LineW l):PutP (putIrb n l):=by
 unfold putIrb
 split
 ·exact A0 _
 rename_i h
 have:=Qg h
 dsimp only
 split
 ·exact A0 _
 split
 ·exact A0 _
 split
 ·exact A0 _
 refine Hn { hn with domains:=Bz (by simp only[List.length_set];omega),peers:=fun d hd=>Adr hd (fun hi=>show Ag (nth n.domains _).peers from hn.peers _ (Aby hi)) hn.peers,irbs:=Bz (by rw[List.length_append,List.length_singleton];omega) } fun x hx=>?_
 rcases List.mem_append.1 hx with hx | hx
 ·exact ha x hx
 ·rw[List.mem_singleton.1 hx];exact hl.ok.addr
theorem Ac7 {n:Net} {l:LineM} (hn:n.Fin) (ha:Bp n) (hl:LineW l):PutP (putT n l):=by
 unfold putT
 split
 ·exact Vp hn ha
 split
 ·exact Zc hn ha hl
 split
 ·exact Zd hn ha
 split
 ·exact Vo hn ha
 split
 ·exact Zb hn ha
 split
 ·exact Abs hn ha
 split
 ·exact Xj hn ha hl
 split
 ·exact Abr hn ha hl
 split
 ·exact Abt hn ha hl
 exact A0 _
theorem Wo {n:Net} (hn:n.Fin):(meshNT n).1.Fin:=by
 unfold meshNT
 split
 ·exact Hy
 rename_i h
 have h:Ac n=true:=by simpa using h
 split
 ·exact Hy
 split
 ·exact Hy
 exact Uo hn h
end Go.Sy.YtjenpnjajjplkaaGreatDoor
namespace Go.Sy.YtjenpnjajjplkaaGreatDoor
open Go.Proofs
structure NameK (n:Net):Prop where
 dev:∀ i:Nat,i<n.devices.length→Be (nth n.devices (i:Int)).name=true∧Cb n (nth n.devices (i:Int)).name=i
 prt:∀ i:Nat,i<n.ports.length→Be (nth n.ports (i:Int)).name=true∧Qu n (nth n.ports (i:Int)).dev (nth n.ports (i:Int)).name=i
theorem Aaf:NameK emptyN:=⟨fun i hi=>(by cases hi),fun i hi=>(by cases hi)⟩
theorem NameK.same {n m:Net} (h:NameK n) (hd:m.devices=n.devices) (hp:m.ports=n.ports):NameK m:=by
 refine⟨fun i hi=>?_,fun i hi=>?_⟩
 ·rw[hd]at hi ⊢
  have:=h.dev i hi
  unfold Cb at this ⊢
  rw[hd];exact this
 ·rw[hp]at hi ⊢
  have:=h.prt i hi
  unfold Qu at this ⊢
  rw[hp];exact this
theorem Mm {α β:Type} [Inhabited α] (l:List α) (x:α) (j:Nat) (i:Int) (f:α→β) (hf:f x=f (nth l (j:Int))) (hj:j<l.length):f (nth (l.set j x) i)=f (nth l i):=by
 by_cases h:i.toNat=j
 ·rw[Ok (l.set j x) h,Agk l x hj,hf,Ok l h]
 ·rw[Agj l x h]
theorem Acb {n:Net} {l:LineM} {k:Int} (h:¬ fitsB n l k=false):Be l.dev=true:=by
 have h:fitsB n l k=true:=by simpa using h
 simp only[fitsB,B0,Bool.and_eq_true]at h
 exact h.2.1.2.1
theorem Aek {n:Net} {l:LineM} (hn:NameK n) (h:(putT n l).2=0):NameK (putT n l).1:=by
 rw[putT]at h ⊢
 by_cases k1:l.kind=1
 ·rw[if_pos k1]at h ⊢
  rw[putDevice]at h ⊢
  repeat' split at h
  all_goals (try (simp at h;done))
  rename_i h1 h2 h3
  rw[if_neg h1,if_neg h2,if_neg h3]
  have hname:=Acb h1
  have hno:n.devices.any (fun d=>d.name == l.dev)=false:=by
   cases hh:n.devices.any (fun d=>d.name == l.dev)
   ·rfl
   ·refine absurd ?_ h2
    obtain ⟨d,hd,he⟩:=List.any_eq_true.1 hh
    exact List.any_eq_true.2 ⟨d,hd,by simp only[he,Bool.true_or]⟩
  refine⟨fun i hi=>?_,fun i hi=>hn.prt i hi⟩
  have hi:i<(n.devices++[(⟨l.row,l.num,l.dev,l.mac,0⟩:Device)]).length:=hi
  rw[List.length_append,List.length_singleton]at hi
  by_cases he:i=n.devices.length
  ·subst he
   have e:nth (n.devices++[(⟨l.row,l.num,l.dev,l.mac,0⟩:Device)]) (n.devices.length:Int)=⟨l.row,l.num,l.dev,l.mac,0⟩:=Wm _ _
   show Be (nth (n.devices++[(⟨l.row,l.num,l.dev,l.mac,0⟩:Device)]) (n.devices.length:Int)).name=true∧Bd (fun d:Device=>d.name == (nth (n.devices++[(⟨l.row,l.num,l.dev,l.mac,0⟩:Device)]) (n.devices.length:Int)).name) (n.devices++[_])=n.devices.length
   rw[e]
   exact⟨hname,Wt _ _ _ hno y_⟩
  ·have hl:i<n.devices.length:=by omega
   have e:nth (n.devices++[(⟨l.row,l.num,l.dev,l.mac,0⟩:Device)]) (i:Int)=nth n.devices (i:Int):=Adb _ _ (by simpa using hl)
   obtain ⟨d1,d2⟩:=hn.dev i hl
   show Be (nth (n.devices++[(⟨l.row,l.num,l.dev,l.mac,0⟩:Device)]) (i:Int)).name=true∧Bd (fun d:Device=>d.name == (nth (n.devices++[(⟨l.row,l.num,l.dev,l.mac,0⟩:Device)]) (i:Int)).name) (n.devices++[_])=i
   rw[e]
   unfold Cb at d2
   exact⟨d1,by rw[Z1 _ _ _ (by rw[d2];omega)];exact d2⟩
 rw[if_neg k1]at h ⊢
 by_cases k2:l.kind=2
 ·rw[if_pos k2]at h ⊢
  rw[putPort]at h ⊢
  repeat' split at h
  all_goals (try (simp at h;done))
  rename_i h1 h2 h3 h4 h5
  rw[if_neg h1,if_neg h2,if_neg h3,if_neg h4,if_neg h5]
  obtain ⟨_,hu,_⟩:=Aaa h1
  simp only[A9,if_neg k1,if_pos k2,Bool.and_eq_true]at hu
  have hname:=hu.1
  have hno:n.ports.any (fun p=>p.dev == Cb n l.dev && p.name == l.port)=false:=by
   cases hh:n.ports.any (fun p=>p.dev == Cb n l.dev && p.name == l.port)
   ·rfl
   ·exact absurd (idxI_nonneg.2 hh) h3
  refine⟨fun i hi=>hn.dev i hi,fun i hi=>?_⟩
  generalize hx:(⟨l.row,Cb n l.dev,l.vlan,l.cost,-1,l.port,l.tagged⟩:Port)=x at *
  have hxd:x.dev=Cb n l.dev∧x.name=l.port:=by subst hx;exact⟨rfl,rfl⟩
  have hi:i<(n.ports++[x]).length:=hi
  rw[List.length_append,List.length_singleton]at hi
  by_cases he:i=n.ports.length
  ·subst he
   have e:nth (n.ports++[x]) (n.ports.length:Int)=x:=Wm _ _
   show Be (nth (n.ports++[x]) (n.ports.length:Int)).name=true∧Bd (fun p:Port=>p.dev == (nth (n.ports++[x]) (n.ports.length:Int)).dev && p.name == (nth (n.ports++[x]) (n.ports.length:Int)).name) (n.ports++[x])=n.ports.length
   rw[e,hxd.1,hxd.2]
   exact⟨hname,Wt _ _ _ hno (by rw[hxd.1,hxd.2];simp)⟩
  ·have hl:i<n.ports.length:=by omega
   have e:nth (n.ports++[x]) (i:Int)=nth n.ports (i:Int):=Adb _ _ (by simpa using hl)
   obtain ⟨d1,d2⟩:=hn.prt i hl
   show Be (nth (n.ports++[x]) (i:Int)).name=true∧Bd (fun p:Port=>p.dev == (nth (n.ports++[x]) (i:Int)).dev && p.name == (nth (n.ports++[x]) (i:Int)).name) (n.ports++[x])=i
   rw[e]
   unfold Qu at d2
   exact⟨d1,by rw[Z1 _ _ _ (by rw[d2];omega)];exact d2⟩
 rw[if_neg k2]at h ⊢
 by_cases k3:l.kind=3
 ·rw[if_pos k3]at h ⊢
  rw[putLink]at h ⊢
  dsimp only at h ⊢
  repeat' split at h
  all_goals (try (simp at h;done))
  rename_i h1 h2 h3 h4
  rw[if_neg h1,if_neg h2,if_neg h3,if_neg h4]
  have tie:∀ (ps:List Port) (a k:Int),(∀ i:Nat,i<ps.length→Be (nth ps (i:Int)).name=true∧Bd (fun p:Port=>p.dev == (nth ps (i:Int)).dev && p.name == (nth ps (i:Int)).name) ps=i) →
    (∀ i:Nat,i<(Hj ps a k).length→Be (nth (Hj ps a k) (i:Int)).name=true∧Bd (fun p:Port=>p.dev == (nth (Hj ps a k) (i:Int)).dev && p.name == (nth (Hj ps a k) (i:Int)).name) (Hj ps a k)=i):=by
   intro ps a k hps i hi
   by_cases ha:a.toNat<ps.length
   ·have hi':i<ps.length:=by simpa [Hj] using hi
    have e0:nth ps a=nth ps ((a.toNat:Nat):Int):=Ok _ y_
    have e1:(nth (Hj ps a k) (i:Int)).name=(nth ps (i:Int)).name:=Mm ps _ a.toNat (i:Int) (fun p=>p.name) (by show (nth ps a).name=_;rw[e0]) ha
    have e2:(nth (Hj ps a k) (i:Int)).dev=(nth ps (i:Int)).dev:=Mm ps _ a.toNat (i:Int) (fun p=>p.dev) (by show (nth ps a).dev=_;rw[e0]) ha
    rw[e1,e2]
    obtain ⟨g1,g2⟩:=hps i hi'
    refine⟨g1,?_⟩
    rw[Hj,Z0]
    ·exact g2
    ·intro y hy
     have:y=nth ps a:=by
      rw[Ad ha]
      rw[List.getElem?_eq_getElem ha]at hy
      exact(Option.some.inj hy).symm
     rw[this]
   ·have:Hj ps a k=ps:=by rw[Hj,List.set_eq_of_length_le q_]
    rw[this]at hi ⊢
    exact hps i hi
  exact⟨fun i hi=>hn.dev i hi,fun i hi=>tie _ _ _ (tie _ _ _ hn.prt) i hi⟩
 rw[if_neg k3]at h ⊢
 by_cases k4:l.kind=4
 ·rw[if_pos k4]at h ⊢
  rw[putStatic]at h ⊢
  dsimp only at h ⊢
  repeat' split at h
  all_goals (try (simp at h;done))
  rename_i h1 h2 h3 h4 h5
  rw[if_neg h1,if_neg h2,if_neg h3,if_neg h4,if_neg h5]
  exact hn.same E E
 rw[if_neg k4]at h ⊢
 by_cases k5:l.kind=5
 ·rw[if_pos k5]at h ⊢
  rw[putVtep]at h ⊢
  dsimp only at h ⊢
  split at h
  ·rename_i h1;exact absurd h h1
  rename_i h1
  rw[if_neg h1]
  split at h
  ·simp at h
  rename_i h2
  rw[if_neg h2]
  obtain ⟨_,_,_,d0,d1,d2⟩:=Afg h1
  refine⟨fun i hi=>?_,fun i hi=>hn.prt i hi⟩
  rw[d2]at hi ⊢
  have hi':i<n.devices.length:=by simpa [Ip] using hi
  have e0:nth n.devices (Cb n l.dev)=nth n.devices (((Cb n l.dev).toNat:Nat):Int):=Ok _ y_
  have e1:(nth (Ip n.devices (Cb n l.dev) l.addr) (i:Int)).name=(nth n.devices (i:Int)).name:=Mm n.devices _ _ (i:Int) (fun d=>d.name) (by show (nth n.devices (Cb n l.dev)).name=_;rw[e0]) d1
  obtain ⟨g1,g2⟩:=hn.dev i hi'
  show Be (nth (Ip n.devices (Cb n l.dev) l.addr) (i:Int)).name=true∧Bd (fun d:Device=>d.name == (nth (Ip n.devices (Cb n l.dev) l.addr) (i:Int)).name) (Ip n.devices (Cb n l.dev) l.addr)=i
  rw[e1]
  refine⟨g1,?_⟩
  rw[Ip,Z0]
  ·exact g2
  ·intro y hy
   have:y=nth n.devices (Cb n l.dev):=by
    rw[Ad d1]
    rw[List.getElem?_eq_getElem d1]at hy
    exact(Option.some.inj hy).symm
   rw[this]
 rw[if_neg k5]at h ⊢
 by_cases k6:l.kind=6
 ·rw[if_pos k6]at h ⊢
  rw[putVni]at h ⊢
  dsimp only at h ⊢
  split at h
  ·rename_i h1;exact absurd h h1
  rename_i h1
  rw[if_neg h1]
  repeat' split at h
  all_goals (try (simp at h;done))
  rename_i h2 h3 h4
  rw[if_neg h2,if_neg h3,if_neg h4]
  exact hn.same E E
 rw[if_neg k6]at h ⊢
 by_cases k7:l.kind=7
 ·rw[if_pos k7]at h ⊢
  rw[putFlood]at h ⊢
  dsimp only at h ⊢
  split at h
  ·rename_i h1;exact absurd h h1
  rename_i h1
  rw[if_neg h1]
  repeat' split at h
  all_goals (try (simp at h;done))
  rename_i h2 h3 h4 h5
  rw[if_neg h2,if_neg h3,if_neg h4,if_neg h5]
  exact hn.same E E
 rw[if_neg k7]at h ⊢
 by_cases k8:l.kind=8
 ·rw[if_pos k8]at h ⊢
  rw[putVrf]at h ⊢
  dsimp only at h ⊢
  split at h
  ·rename_i h1;exact absurd h h1
  rename_i h1
  rw[if_neg h1]
  repeat' split at h
  all_goals (try (simp at h;done))
  rename_i h2 h3
  rw[if_neg h2,if_neg h3]
  exact hn.same E E
 rw[if_neg k8]at h ⊢
 by_cases k9:l.kind=9
 ·rw[if_pos k9]at h ⊢
  rw[putIrb]at h ⊢
  dsimp only at h ⊢
  split at h
  ·rename_i h1;exact absurd h h1
  rename_i h1
  rw[if_neg h1]
  repeat' split at h
  all_goals (try (simp at h;done))
  rename_i h2 h3 h4
  rw[if_neg h2,if_neg h3,if_neg h4]
  exact hn.same E E
 ·rw[if_neg k9]at h;simp at h
theorem Ta:∀ (l:List LineM) (n:Net),NameK n→(Cu n l).2.2=0→NameK (Cu n l).1
 | [],n,hn,h=>by
  rw[Cu,finishT]at h ⊢
  split at h
  ·rename_i h1;exact absurd h h1
  rename_i h1
  rw[if_neg h1]
  split at h
  ·simp at h
  rename_i h2
  rw[if_neg h2]
  obtain ⟨e1,_⟩:=Add (n:=n) q_
  dsimp only
  rw[e1]
  exact hn.same E E
 | x::l,n,hn,h=>by
  rw[Cu]at h ⊢
  split at h
  ·rename_i h1;exact absurd h h1
  rename_i h1
  rw[if_neg h1]
  exact Ta l _ (Aek hn q_) h
theorem Vc:∀ (l:List LineM) (n:Net),n.Fin→Bp n→(∀ x∈l,LineW x)→(Cu n l).2.2=0→(Cu n l).1.Fin∧Bp (Cu n l).1
 | [],n,hn,ha,_,h=>by
  rw[Cu,finishT]at h ⊢
  split at h
  ·rename_i h1;exact absurd h h1
  rename_i h1
  rw[if_neg h1]
  split at h
  ·simp at h
  rename_i h2
  rw[if_neg h2]
  obtain ⟨e1,_⟩:=Add (n:=n) q_
  refine⟨Wo hn,?_⟩
  dsimp only
  rw[e1]
  exact ha
 | x::l,n,hn,ha,hl,h=>by
  rw[Cu]at h ⊢
  split at h
  ·rename_i h1;exact absurd h h1
  rename_i h1
  rw[if_neg h1]
  have:=Ac7 hn ha (hl x y_)
  exact Vc l _ this.fin this.addrs (fun y hy=>hl y (by simp[hy])) h
theorem Jf {s:ByteArray} (h:Be s=true) {c:UInt8} (hc:Aey c=false) (hd:Hu c=false):c∉s.data.toList:=by
 simp only[Be,Bool.and_eq_true]at h
 intro hm
 have h1:=h.1
 generalize s.data.toList=l at *
 cases l with
 | nil=>cases hm
 | cons x l =>
  simp only[Agn,Bool.and_eq_true,List.all_eq_true,Bool.or_eq_true]at h1
  rcases List.mem_cons.1 hm with rfl | hm
  ·rw[hc]at h1;cases h1.1
  ·rcases h1.2 c hm with h | h
   ·rw[hc]at h;cases h
   ·rw[hd]at h;cases h
theorem Xm {c:UInt8}:∀ {a a' b b':List UInt8},c∉a→c∉a'→a++c::b=a'++c::b'→a=a'∧b=b'
 | [],[],_,_,_,_,h=>⟨rfl,(List.cons.inj h).2⟩
 | [],x::a',_,_,_,h2,h=>absurd (List.cons.inj h).1 (fun e=>h2 (by simp[e]))
 | x::a,[],_,_,h1,_,h=>absurd (List.cons.inj h).1 (fun e=>h1 (by simp[e]))
 | x::a,y::a',b,b',h1,h2,h=>by
  obtain ⟨e1,e2⟩:=List.cons.inj h
  obtain ⟨e3,e4⟩:=Xm (a:=a) (a':=a') (fun h=>h1 (by simp[h])) (fun h=>h2 (by simp[h])) e2
  exact⟨by rw[e1,e3],e4⟩
theorem Yf {a b:ByteArray} (h:a.data.toList=b.data.toList):a=b:=by
 rw[← H6 a,← H6 b,h]
theorem Ez (l:List ByteArray) (hne:l≠[]) (h:∀ x∈l,(32:UInt8)∉x.data.toList):An 32 (Ct l ⟨#[32]⟩)=l:=by
 cases l with
 | nil=>exact absurd rfl hne
 | cons x l =>
  have e:(Ct (x::l) ⟨#[32]⟩).data.toList=Lib.join (x.data.toList::l.map (fun y=>y.data.toList)) [32]:=by
   simp only[Ct,List.map_cons]
  rw[Wf,e,T5 32 _ _ (h x y_) (fun y hy=>by
   obtain ⟨z,hz,rfl⟩:=List.mem_map.1 hy
   exact h z (by simp[hz]))]
  have hm:l.map (mkT ∘ fun y:ByteArray=>y.data.toList)=l:=by
   exact(List.map_congr_left (f:=mkT ∘ fun y:ByteArray=>y.data.toList) (g:=id) (fun a _=>H6 a)).trans (List.map_id l)
  simp[H6,hm]
theorem Xk {n:Net} (hr:Ac n=true) {i:Nat} (hi:i<n.ports.length):0≤(nth n.ports (i:Int)).dev∧(nth n.ports (i:Int)).dev.toNat<n.devices.length:=by
 have e:nth n.ports (i:Int)=n.ports[i]:=Ad (l:=n.ports) (i:=((i:Nat):Int)) hi
 rw[e]
 exact Js hr hi
theorem Iq (n:Net) (i:Int):(D5 n i).data.toList=(nth n.devices (nth n.ports i).dev).name.data.toList++46::(nth n.ports i).name.data.toList:=by
 simp[D5,ByteArray.data_append]
theorem Hz {n:Net} (hk:NameK n) {d:Int} (hd:0≤d∧d.toNat<n.devices.length):Be (nth n.devices d).name=true∧Cb n (nth n.devices d).name=d:=by
 have:=hk.dev d.toNat hd.2
 rw[Int.toNat_of_nonneg hd.1]at this
 exact this
theorem En {n:Net} (hk:NameK n) (hr:Ac n=true) {i:Int} (hi:0≤i∧i.toNat<n.ports.length):Bo n (Bj n i)=i:=by
 have hit:((i.toNat:Nat):Int)=i:=Int.toNat_of_nonneg hi.1
 rw[Bj,if_pos ⟨⟨hi.1,by omega⟩,hr⟩]
 have e:Bo n (D5 n i)=((i.toNat:Nat):Int):=by
  refine B8 hi.2 (fun k hkl hki=>?_) ?_
  ·cases hc:Q2 n (D5 n i) n.ports[k] with
   | false=>rfl
   | true =>
    have e1:nth n.ports (k:Int)=n.ports[k]:=Ad (l:=n.ports) (i:=((k:Nat):Int)) hkl
    rw[← e1]at hc
    have h1:D5 n (k:Int)=D5 n i:=(K7 _ _).1 hc
    have h2:=congrArg (fun s:ByteArray=>s.data.toList) h1
    rw[Iq,Iq]at h2
    have dk:=Xk hr hkl
    have di:=Xk hr hi.2
    rw[hit]at di
    have nk:=Hz hk dk
    have ni:=Hz hk di
    obtain ⟨g1,g2⟩:=Xm (Jf nk.1 j_ j_) (Jf ni.1 j_ j_) h2
    have g3:(nth n.ports (k:Int)).dev=(nth n.ports i).dev:=by rw[← nk.2,← ni.2,Yf g1]
    have p1:=(hk.prt k hkl).2
    have p2:=(hk.prt i.toNat hi.2).2
    rw[hit]at p2
    rw[g3,Yf g2,p2]at p1
    omega
  ·have e1:nth n.ports i=n.ports[i.toNat]:=Ad hi.2
   rw[← e1]
   exact(K7 _ _).2 E
 rw[e,hit]
theorem To {n:Net} (hk:NameK n) (hr:Ac n=true) {i:Int} (hi:0≤i∧i.toNat<n.ports.length):(32:UInt8)∉(Bj n i).data.toList:=by
 have hit:((i.toNat:Nat):Int)=i:=Int.toNat_of_nonneg hi.1
 rw[Bj,if_pos ⟨⟨hi.1,by omega⟩,hr⟩,Iq]
 have di:=Xk hr hi.2
 rw[hit]at di
 have h1:=Jf (Hz hk di).1 (c:=32) j_ j_
 have h2:=(hk.prt i.toNat hi.2).1
 rw[hit]at h2
 have h3:=Jf h2 (c:=32) j_ j_
 simp[h1,h3]
theorem Jt (n:Net) (i:Int):(O7 n i).data.toList=(nth n.devices (nth n.domains i).dev).name.data.toList++47::(Dx (nth n.domains i).vlan).data.toList:=by
 simp[O7,Ct,Lib.join_cons,Lib.joinTail]
theorem Aiu {v w:Int} (hv:Bb v 1 4094=true) (hw:Bb w 1 4094=true) (h:Dx v=Dx w):v=w:=by
 have h1:=V9 hv
 have h2:=V9 hw
 rw[h,h2]at h1
 exact(Prod.mk.inj h1).1.symm
theorem Q8 {n:Net} (hr:Ac n=true) {i:Int} (hi:0≤i∧i.toNat<n.domains.length):(0≤(nth n.domains i).dev∧(nth n.domains i).dev.toNat<n.devices.length)∧Bb (nth n.domains i).vlan 1 4094=true:=by
 have:=Ce hr hi.2
 rw[← Ad hi.2]at this
 exact⟨this.1,by simp[Bb];exact this.2.1⟩
theorem Lg {n:Net} (hk:NameK n) (hr:Ac n=true) {i:Int} (hi:0≤i∧i.toNat<n.domains.length):Al n (Cj n i)=i:=by
 have hit:((i.toNat:Nat):Int)=i:=Int.toNat_of_nonneg hi.1
 have hl:(List.range n.domains.length).length=n.domains.length:=List.length_range
 have hf:=Mq (p:=H8 n (Cj n i)) (l:=List.range n.domains.length) (j:=i.toNat) (by rw[hl];exact hi.2) (fun k hkl hki=>?_) ?_
 ·rw[List.getElem_range]at hf
  rw[Al,hf]
  exact hit
 ·rw[List.getElem_range]
  cases hc:H8 n (Cj n i) k with
  | false=>rfl
  | true =>
   have hkd:0≤(k:Int)∧((k:Nat):Int).toNat<n.domains.length:=⟨by omega,by rw[hl]at hkl;simpa using hkl⟩
   have h1:Cj n (k:Int)=Cj n i:=(K7 _ _).1 hc
   rw[Cj,if_pos ⟨⟨hkd.1,by have:=hkd.2;omega⟩,hr⟩,Cj,if_pos ⟨⟨hi.1,by omega⟩,hr⟩]at h1
   have h2:=congrArg (fun s:ByteArray=>s.data.toList) h1
   rw[Jt,Jt]at h2
   obtain ⟨dk,vk⟩:=Q8 hr hkd
   obtain ⟨di,vi⟩:=Q8 hr hi
   have nk:=Hz hk dk
   have ni:=Hz hk di
   obtain ⟨g1,g2⟩:=Xm (Jf nk.1 j_ j_) (Jf ni.1 j_ j_) h2
   have g3:(nth n.domains (k:Int)).dev=(nth n.domains i).dev:=by rw[← nk.2,← ni.2,Yf g1]
   have g4:=Aiu vk vi (Yf g2)
   have o1:=X4 hr hkd
   have o2:=X4 hr hi
   rw[g3,g4,o2]at o1
   omega
 ·rw[List.getElem_range]
  show (Cj n ((i.toNat:Nat):Int) == Cj n i)=true
  rw[hit]
  exact(K7 _ _).2 E
theorem Aci {n:Net} (hk:NameK n) (hr:Ac n=true) {i:Int} (hi:0≤i∧i.toNat<n.domains.length):(32:UInt8)∉(Cj n i).data.toList:=by
 rw[Cj,if_pos ⟨⟨hi.1,by omega⟩,hr⟩,Jt]
 obtain ⟨di,vi⟩:=Q8 hr hi
 have h1:=Jf (Hz hk di).1 (c:=32) j_ j_
 have h2:=Agh (nth n.domains i).vlan (by have:=(within_iff.1 vi).1;omega) 32 (.inl j_)
 simp[h1,h2]
theorem Acy {n:Net} (hu:Bp n) (hb:Ac n=true) {irb j:Int} (h:(addrT n irb j).2=true):Hg n irb j (addrT n irb j).1=true:=by
 rw[addrT]at h ⊢
 split at h
 ·rename_i hc
  rw[if_pos hc]
  have hti:InIrbs n j:=⟨hc.2.1.1,by have:=hc.2.1;omega⟩
  rcases Te hu hb (irb:=irb) hti _ (show B2 (nth n.irbs j).addr (nth n.irbs j).bits∈Qd n j by rw[Qd,Adu];simp) (Int.le_refl _) (fun a h1 h2=>by omega) with ⟨_,_,h3,_⟩ | ⟨h3,_⟩
  ·exact h3
  ·rw[h3]at h;cases h
 ·cases h
theorem Y2 {n:Net} (hk:NameK n) (hu:Bp n) (hr:Ac n=true) {x:Int × Int} (hx:0≤x.1∧x.1.toNat<n.domains.length) (hx2:x.2=0∨x.2=1) :
  (∀ h∈Cv n x.1,stepR n x.1 (decide (x.2=1)) Bv (An 32 (rowT n h))=(true,h.domain,decide (x.2=1))) ∧
  (x.2=0→∀ q∈routesT n x.1,stepR n x.1 (decide (x.2=1)) Bv (An 32 (rowT n ⟨3,0,q.domain,q.addr⟩))=(true,q.domain,true)):=by
 constructor
 ·intro h hh
  have hin:=E5 hh
  have hdn:=Aci hk hr hin
  have hdf:=Lg hk hr hin
  rw[Cv]at hh
  split at hh
  ·rcases List.mem_append.1 hh with hh | hh
   ·obtain ⟨p,hp,hl⟩:=List.mem_filterMap.1 hh
    rw[linkHop]at hl
    split at hl
    ·rename_i hok
     have hpr:=((Kn hr hx).1 hp).1
     have hot:0≤Bu n p∧(Bu n p).toNat<n.ports.length:=by
      rw[linkDomT]at hok
      split at hok
      ·rename_i hc
       rw[crossT]at hc
       split at hc
       ·rename_i hcc
        exact⟨hcc.1,(Hp hcc.1).2.2⟩
       ·cases hc
      ·cases hok
     cases hl
     dsimp only at hdn hdf hin ⊢
     rw[rowT,if_pos rfl,Ez _ y_ (by
      intro w hw
      simp only[List.mem_cons,List.not_mem_nil,or_false]at hw
      rcases hw with rfl | rfl | rfl | rfl
      ·decide
      ·exact To hk hr hpr
      ·exact To hk hr hot
      ·exact hdn)]
     dsimp only
     generalize hT:[Kc,Bj n p,Bj n (Bu n p),Cj n (linkDomT n p (nth n.domains x.1).vlan).1]=w
     have w0:nth w 0=Kc:=by subst hT;rfl
     have w1:nth w 1=Bj n p:=by subst hT;rfl
     have w2:nth w 2=Bj n (Bu n p):=by subst hT;rfl
     have w3:nth w 3=Cj n (linkDomT n p (nth n.domains x.1).vlan).1:=by subst hT;rfl
     have wl:w.length=4:=by subst hT;rfl
     rw[stepR,w0,if_pos ((K7 _ _).2 rfl),linkR,if_neg (by rw[wl];simp),w1,w2,w3,En hk hr hpr,En hk hr hot,hdf,if_neg]
     ·dsimp only
      rw[hok]
      simp
     ·rintro (h | h | h | h | h)
      ·omega
      ·omega
      ·omega
      ·have:inB (Ao n x.1) p=true:=by simpa [inB] using hp
       rw[this]at h;cases h
      ·exact h E
    ·cases hl
   ·obtain ⟨k,hk2,rfl⟩:=List.mem_map.1 hh
    dsimp only[Hq]at hdn hdf hin ⊢
    have hv0:0≤(nth n.domains k).vni:=by
     have:=(Ce hr hin.2).2.2.1.1
     rw[← Ad hin.2]at this
     exact this
    rw[rowT,if_neg y_,if_pos rfl,Ez _ y_ (by
     intro w hw
     simp only[List.mem_cons,List.not_mem_nil,or_false]at hw
     rcases hw with rfl | rfl | rfl
     ·decide
     ·exact Agh _ hv0 32 (.inl j_)
     ·exact hdn)]
    dsimp only
    generalize hT:[tMesh,Dx (nth n.domains k).vni,Cj n k]=w
    have w0:nth w 0=tMesh:=by subst hT;rfl
    have w1:nth w 1=Dx (nth n.domains k).vni:=by subst hT;rfl
    have w2:nth w 2=Cj n k:=by subst hT;rfl
    have wl:w.length=3:=by subst hT;rfl
    rw[stepR,w0,if_neg j_,if_pos ((K7 _ _).2 rfl),meshR,if_neg (by rw[wl];simp),w1,w2,hdf,if_neg]
    rintro (h | h | h)
    ·omega
    ·have:inB (nth n.domains x.1).peers k=true:=by simpa [inB] using hk2
     rw[this]at h;cases h
    ·rw[(K7 _ _).2 rfl]at h;cases h
  ·cases hh
 ·intro h0 q hq
  have hin:=El hq
  have hdn:=Aci hk hr hin
  have hdf:=Lg hk hr hin
  have had:=Oa hu hq
  rw[routesT]at hq
  split at hq
  ·rename_i hc
   obtain ⟨j,hj,hl⟩:=List.mem_filterMap.1 hq
   have hj:j<n.irbs.length:=by simpa using hj
   rw[leadF]at hl
   split at hl
   ·rename_i hok
    have hld:=leadsB_iff.1 (Acy hu hr hok)
    cases hl
    dsimp only at hdn hdf had hin ⊢
    generalize hA:(addrT n (nth n.domains x.1).irb (j:Int)).1=A at *
    obtain ⟨a,rfl⟩:=Int.eq_ofNat_of_zero_le had.1
    have hrd:=Aej a (by have:=had.2;omega)
    rw[rowT,if_neg y_,if_neg y_,Ez _ y_ (by
     intro w hw
     simp only[List.mem_cons,List.not_mem_nil,or_false]at hw
     rcases hw with rfl | rfl | rfl
     ·decide
     ·exact Ajl a 32 j_ (.inl j_)
     ·exact hdn)]
    dsimp only
    generalize hT:[tRoute,D0 (a:Int),Cj n (nth n.irbs (j:Int)).domain]=w
    have w0:nth w 0=tRoute:=by subst hT;rfl
    have w1:nth w 1=D0 (a:Int):=by subst hT;rfl
    have w2:nth w 2=Cj n (nth n.irbs (j:Int)).domain:=by subst hT;rfl
    have wl:w.length=3:=by subst hT;rfl
    rw[stepR,w0,if_neg j_,if_neg j_,if_pos ((K7 _ _).2 rfl),routeR,if_neg,w1,w2,hrd,hdf,if_neg]
    ·rintro (h | h | h | h | h)
     ·cases h
     ·omega
     ·rw[hld.1]at h;cases h
     ·have:De n (a:Int)=true:=decide_eq_true h
      rw[hld.2.2]at this;cases this
     ·exact h (by rw[hld.2.1])
    ·rintro (h | h | h)
     ·exact h wl
     ·rw[h0]at h;cases h
     ·have:=hc.2.1;omega
   ·cases hl
  ·cases hq
theorem Aim {n:Net} (hk:NameK n) (hu:Bp n) (hr:Ac n=true) {p:Int} (hp:0≤p∧p.toNat<n.ports.length) {l:List Hop} {x:Int × Int} (h:HWay n p l x) :
  ∃ d rest,l=⟨0,0,d,0⟩::rest∧Aa0 n p (d,0)∧goR n Bv (rest.map (rowT n)) (true,d,false)=(true,x.1,decide (x.2=1))∧(0≤x.1∧x.1.toNat<n.domains.length)∧(x.2=0∨x.2=1):=by
 induction h with
 | start hs=>exact⟨_,[],rfl,hs,rfl,((Ml hr hp).1 hs).1,.inl rfl⟩
 | hop _ hh ih =>
  obtain ⟨d,rest,rfl,hs,hg,hx,hx2⟩:=ih
  refine⟨d,rest++[_],E,hs,?_,E5 hh,hx2⟩
  rw[List.map_append,List.map_cons,List.map_nil,O2 n Bv _ _ _ (by rw[hg]),hg]
  exact(Y2 hk hu hr hx hx2).1 _ hh
 | lead _ h0 hq ih =>
  obtain ⟨d,rest,rfl,hs,hg,hx,hx2⟩:=ih
  refine⟨d,rest++[_],E,hs,?_,El hq,.inr E⟩
  rw[List.map_append,List.map_cons,List.map_nil,O2 n Bv _ _ _ (by rw[hg]),hg]
  exact(Y2 hk hu hr hx hx2).2 h0 _ hq
theorem Yi {n:Net} (hk:NameK n) (hu:Bp n) {p q:Int} (h:(explainT n p q).2=0):checkR n Bv (explainT n p q).1=(p,q,true):=by
 rw[explainT]at h ⊢
 split at h
 ·cases h
 rename_i hr
 have hr:Ac n=true:=by simpa using hr
 split at h
 ·cases h
 rename_i h2
 rw[if_neg (by rw[hr];decide),if_neg h2]
 obtain ⟨_,h3,h4,h5,m,x,_,g1,_,g3,_⟩:=(Qn (n:=n) (p:=p) (to:=q)).1 (by simpa using h2)
 have hp:=I6 h3
 have hq:=I6 h4
 obtain ⟨d,rest,hl,hs,hg,hx,_⟩:=Aim hk hu hr hp g3
 obtain ⟨hd,hdm⟩:=(Ml hr hp).1 hs
 rw[hl]
 have e0:(nth ((⟨0,0,d,0⟩:Hop)::rest) 0).domain=d:=rfl
 dsimp only
 rw[e0,List.drop_one,List.tail_cons]
 generalize hR:Z8 n p d::(rest.map (rowT n)++[toT n q])=rows
 have r0:nth rows 0=Z8 n p d:=by subst hR;rfl
 have rl:rows.length=rest.length+2:=by subst hR;simp
 have rlast:nth rows ((rows.length-1:Nat):Int)=toT n q:=by
  rw[rl,show rest.length+2-1=rest.length+1 from by omega]
  subst hR
  rw[Ad y_]
  simp
 have rmid:(rows.take (rows.length-1)).drop 1=rest.map (rowT n):=by
  rw[rl,show rest.length+2-1=rest.length+1 from by omega]
  subst hR
  rw[List.take_succ_cons,List.drop_succ_cons,List.drop_zero,List.take_left' y_]
 have f1:An 32 (Z8 n p d)=[tFrom,Bj n p,Cj n d]:=Ez _ y_ (by
  intro w hw
  simp only[List.mem_cons,List.not_mem_nil,or_false]at hw
  rcases hw with rfl | rfl | rfl
  ·decide
  ·exact To hk hr hp
  ·exact Aci hk hr hd)
 have f2:An 32 (toT n q)=[tTo,Bj n q]:=Ez _ y_ (by
  intro w hw
  simp only[List.mem_cons,List.not_mem_nil,or_false]at hw
  rcases hw with rfl | rfl
  ·decide
  ·exact To hk hr hq)
 have n1:nth [tFrom,Bj n p,Cj n d] 1=Bj n p:=rfl
 have n2:nth [tFrom,Bj n p,Cj n d] 2=Cj n d:=rfl
 have n3:nth [tTo,Bj n q] 1=Bj n q:=rfl
 have host:∀ {i:Int},Ei n i=true→I7 n i=true:=fun {i} hi=>by
  simp only[Ei,Bool.and_eq_true,decide_eq_true_eq]at hi
  simp only[I7,Bool.and_eq_true,decide_eq_true_eq]
  exact⟨hi.1.1,hi.2⟩
 have hb:Ie n [tFrom,Bj n p,Cj n d] [tTo,Bj n q]=true:=by
  rw[Ie,n1,n2,n3,En hk hr hp,En hk hr hq,Lg hk hr hd,host h3,host h4,hdm,decide_eq_true hd.1]
  have:(p == q)=false:=by rw[beq_eq_false_iff_ne];exact h5
  rw[this]
  rfl
 rw[checkR,r0,rlast,rmid,f1,f2,n1,n2,n3,En hk hr hp,En hk hr hq,Lg hk hr hd,hg,if_pos ⟨by omega,hr,hb,rfl,g1⟩]
end Go.Sy.YtjenpnjajjplkaaGreatDoor
namespace Go.Sy.YtjenpnjajjplkaaGreatDoor
open Go.Proofs
attribute [local irreducible] Go.Sy.G Go.Sy.DR
set_option maxRecDepth 20000
set_option maxHeartbeats 4000000
theorem great1 {n:Net} (h:n.ports.any (fun p=>decide (100<p.tagged.length))=true):Dy n=true:=by simp only[Dy,h,Bool.or_true,Bool.true_or]
theorem great2 {n:Net} (h:n.domains.any (fun p=>decide (100<p.peers.length))=true):Dy n=true:=by simp only[Dy,h,Bool.or_true,Bool.true_or]
theorem great3 {n:Net} (h:n.floods.any (fun p=>decide (100<p.addrs.length))=true):Dy n=true:=by simp only[Dy,h,Bool.or_true,Bool.true_or]
theorem great4 {n:Net} (h:n.vrfs.any (fun v=>decide (100<v.imports.length) || decide (100<v.exports.length))=true):Dy n=true:=by simp only[Dy,h,Bool.or_true]
theorem greatS (n:Net):Sy.Spec Tryz.prog 87 [Ae n] [] (Ab (Dy n)) []:=cT F87 Tryz.ntmps87 fun F hF=>by
 conv=>whnf
 (repeat' (first | (refine⟨fun h=>?_,fun h=>?_⟩<;>(repeat (first | simp only[decide_eq_true_eq]at h | simp only[decide_eq_false_iff_not]at h))<;>((refine oO ?_);repeat((refine aT ?_);(refine oO ?_)))) | (refine At rfl (.cons .tmp .nil) ?_ rfl)))
 all_goals first
  | (refine congrArg Ab ?_;clear hF;grind [Dy])
  | skip
 have l1:n.ports.length≤200:=by omega
 have l2:n.domains.length≤200:=by omega
 have l3:n.floods.length≤200:=by omega
 have l4:n.vrfs.length≤200:=by omega
 refine A1 1 8 (Ae n) E E E ?_
 refine Az n.ports.length (fun j=>Dp (fun _ p=>!(decide (100<p.tagged.length))) n.ports j) (fun j=>[(1,.ref 8 (Ae n) 0),(3,Aa j)]) (fun _=>[]) [] (A7 _ _) ⟨⟨E,E,E,E,Y⟩,Y,E,E⟩ ?_
 intro j hj hI
 refine oO ?_
 refine⟨fun h=>?_,fun h=>?_⟩
 ·have hjl:j<n.ports.length:=by simpa using h
  refine oO ?_
  (repeat' (first | (refine⟨fun h=>?_,fun h=>?_⟩<;>(repeat (first | simp only[decide_eq_true_eq]at h | simp only[decide_eq_false_iff_not]at h))<;>((refine oO ?_))) | (refine At rfl (.cons .tmp .nil) ?_ rfl) | (refine⟨z_,?_⟩;((conv=>whnf))) | (refine⟨by (omega),by (omega),?_⟩;((conv=>whnf))) | (refine⟨by (unfold I64;omega),?_⟩;((conv=>whnf))) | refine Ay [] hI hjl ?_ ⟨⟨rfl,rfl,rfl,rfl,trivial⟩,trivial,rfl,rfl⟩))
  all_goals (simp only[Int.toNat_natCast]at *)
  ·refine congrArg Ab ?_
   exact great1 (Qh hjl (by simp;omega))
  ·exact A6 hI hjl (by simp;omega)
 have a1:n.ports.any (fun p=>decide (100<p.tagged.length))=false:=Li hI (by simpa using h)
 clear hI hj h
 refine oO ?_
 refine Az n.domains.length (fun j=>Dp (fun _ p=>!(decide (100<p.peers.length))) n.domains j) (fun j=>[(1,.ref 8 (Ae n) 0),(4,Aa j)]) (fun _=>[]) [] (A7 _ _) ⟨⟨E,E,E,E,Y⟩,Y,E,E⟩ ?_
 intro j hj hI
 refine oO ?_
 refine⟨fun h=>?_,fun h=>?_⟩
 ·have hjl:j<n.domains.length:=by simpa using h
  refine oO ?_
  (repeat' (first | (refine⟨fun h=>?_,fun h=>?_⟩<;>(repeat (first | simp only[decide_eq_true_eq]at h | simp only[decide_eq_false_iff_not]at h))<;>((refine oO ?_))) | (refine At rfl (.cons .tmp .nil) ?_ rfl) | (refine⟨z_,?_⟩;((conv=>whnf))) | (refine⟨by (omega),by (omega),?_⟩;((conv=>whnf))) | (refine⟨by (unfold I64;omega),?_⟩;((conv=>whnf))) | refine Ay [] hI hjl ?_ ⟨⟨rfl,rfl,rfl,rfl,trivial⟩,trivial,rfl,rfl⟩))
  all_goals (simp only[Int.toNat_natCast]at *)
  ·refine congrArg Ab ?_
   exact great2 (Qh hjl (by simp;omega))
  ·exact A6 hI hjl (by simp;omega)
 have a2:n.domains.any (fun p=>decide (100<p.peers.length))=false:=Li hI (by simpa using h)
 clear hI hj h
 refine oO ?_
 refine Az n.floods.length (fun j=>Dp (fun _ p=>!(decide (100<p.addrs.length))) n.floods j) (fun j=>[(1,.ref 8 (Ae n) 0),(5,Aa j)]) (fun _=>[]) [] (A7 _ _) ⟨⟨E,E,E,E,Y⟩,Y,E,E⟩ ?_
 intro j hj hI
 refine oO ?_
 refine⟨fun h=>?_,fun h=>?_⟩
 ·have hjl:j<n.floods.length:=by simpa using h
  refine oO ?_
  (repeat' (first | (refine⟨fun h=>?_,fun h=>?_⟩<;>(repeat (first | simp only[decide_eq_true_eq]at h | simp only[decide_eq_false_iff_not]at h))<;>((refine oO ?_))) | (refine At rfl (.cons .tmp .nil) ?_ rfl) | (refine⟨z_,?_⟩;((conv=>whnf))) | (refine⟨by (omega),by (omega),?_⟩;((conv=>whnf))) | (refine⟨by (unfold I64;omega),?_⟩;((conv=>whnf))) | refine Ay [] hI hjl ?_ ⟨⟨rfl,rfl,rfl,rfl,trivial⟩,trivial,rfl,rfl⟩))
  all_goals (simp only[Int.toNat_natCast]at *)
  ·refine congrArg Ab ?_
   exact great3 (Qh hjl (by simp;omega))
  ·exact A6 hI hjl (by simp;omega)
 have a3:n.floods.any (fun p=>decide (100<p.addrs.length))=false:=Li hI (by simpa using h)
 clear hI hj h
 refine oO ?_
 refine Az n.vrfs.length (fun j=>Dp (fun _ v=>!(decide (100<v.imports.length) || decide (100<v.exports.length))) n.vrfs j) (fun j=>[(1,.ref 8 (Ae n) 0),(6,Aa j)]) (fun _=>[]) [] (A7 _ _) ⟨⟨E,E,E,E,Y⟩,Y,E,E⟩ ?_
 intro j hj hI
 refine oO ?_
 refine⟨fun h=>?_,fun h=>?_⟩
 ·have hjl:j<n.vrfs.length:=by simpa using h
  refine oO ?_
  (repeat' (first | (refine⟨fun h=>?_,fun h=>?_⟩<;>(repeat (first | simp only[decide_eq_true_eq]at h | simp only[decide_eq_false_iff_not]at h))<;>((refine oO ?_);repeat((refine aT ?_);(refine oO ?_)))) | (refine At rfl (.cons .tmp .nil) ?_ rfl) | (refine⟨z_,?_⟩;((conv=>whnf))) | (refine⟨by (omega),by (omega),?_⟩;((conv=>whnf))) | (refine⟨by (unfold I64;omega),?_⟩;((conv=>whnf))) | refine Ay [] hI hjl ?_ ⟨⟨rfl,rfl,rfl,rfl,trivial⟩,trivial,rfl,rfl⟩))
  all_goals (simp only[Int.toNat_natCast]at *)
  all_goals first
   | exact A6 hI hjl (by simp;omega)
   | (refine congrArg Ab ?_;exact great4 (Qh hjl (by simp;omega)))
 have a4:n.vrfs.any (fun v=>decide (100<v.imports.length) || decide (100<v.exports.length))=false:=Li hI (by simpa using h)
 clear hI hj h
 refine oO ?_
 refine At E (.cons .tmp .nil) (congrArg Ab ?_) E
 rw[Dy,a1,a2,a3,a4]
 simp
 omega
end Go.Sy.YtjenpnjajjplkaaGreatDoor
namespace Go.Sy.YtjenpnjajjplkaaGreatDoor
open Go.Proofs
attribute [local irreducible] Go.Sy.G Go.Sy.DR
set_option maxRecDepth 20000
set_option maxHeartbeats 8000000
def Oo (d:Device):Bool:=decide (300<d.name.size)
def Kr (p:Port):Bool:=decide (300<p.name.size)
def On (x:ByteArray):Bool:=decide (1500<x.size)
def great44B (n:Net) (rows:List ByteArray):Bool :=
 Dy n || decide (100<rows.length) || n.devices.any Oo || n.ports.any Kr || rows.any On
theorem Ve {α:Type} {p:α→Bool} {l:List α} {j:Nat} (hI:Dp (fun _ x=>!(p x)) l j) (hj:l.length≤j):l.any p=false:=by
 rw[List.any_eq_false]
 intro x hx
 obtain ⟨i,hi,rfl⟩:=List.mem_iff_getElem.1 hx
 have:=hI i hi q_
 simpa using this
theorem Acr {α:Type} {p:α→Bool} {l:List α} {j:Nat} (hj:j<l.length) (h:p l[j]=true):l.any p=true:=List.any_eq_true.2 ⟨_,List.getElem_mem hj,h⟩
theorem Ahe (n:Net) (rows:List ByteArray):Sy.Spec Tryz.prog 27 [Ae n,.sl 1 Ak rows] [] (Ab (great44B n rows)) []:=cT F27 Tryz.ntmps27 fun F hF=>by
 have hg:=greatS n
 have hlk:=great44B.eq_1 n rows
 generalize great44B n rows=res at *
 ((conv=>whnf);repeat((first|refine aF ?_|refine aT ?_);(first|refine rG Γ hm ?_|refine rD Γ hm z_ ?_);conv=>whnf))
 refine A1 2 8 (Ae n) E E E ?_
 ((first|refine rG Γ hm ?_|refine rD Γ hm z_ ?_);(conv=>whnf);repeat((first|refine aF ?_|refine aT ?_);(first|refine rG Γ hm ?_|refine rD Γ hm z_ ?_);conv=>whnf))
 refine c0 hg F87 ?_
 cases hgb:Dy n
 rotate_left
 ·rw[hgb,Bool.true_or,Bool.true_or,Bool.true_or,Bool.true_or]at hlk
  subst hlk
  ((first|refine rG Γ hm ?_|refine rD Γ hm z_ ?_);(conv=>whnf);repeat((first|refine aF ?_|refine aT ?_);(first|refine rG Γ hm ?_|refine rD Γ hm z_ ?_);conv=>whnf))
  exact dN
 have hfin:=O3 hgb
 rw[hgb,Bool.false_or]at hlk
 ((first|refine rG Γ hm ?_|refine rD Γ hm z_ ?_);(conv=>whnf);repeat((first|refine aF ?_|refine aT ?_);(first|refine rG Γ hm ?_|refine rD Γ hm z_ ?_);conv=>whnf))
 refine⟨fun h=>?_,fun h=>?_⟩
 ·rw[decide_eq_true (show 100<rows.length by have:=of_decide_eq_true h;omega),Bool.true_or,Bool.true_or,Bool.true_or]at hlk
  subst hlk
  ((first|refine rG Γ hm ?_|refine rD Γ hm z_ ?_);(conv=>whnf);repeat((first|refine aF ?_|refine aT ?_);(first|refine rG Γ hm ?_|refine rD Γ hm z_ ?_);conv=>whnf))
  exact dN
 have hrl:rows.length≤100:=qB h
 rw[decide_eq_false (show ¬ 100<rows.length by omega),Bool.false_or]at hlk
 have h1:=hfin.devices
 have h2:=hfin.ports
 unfold Ag at h1 h2
 ((first|refine rG Γ hm ?_|refine rD Γ hm z_ ?_);(conv=>whnf);repeat((first|refine aF ?_|refine aT ?_);(first|refine rG Γ hm ?_|refine rD Γ hm z_ ?_);conv=>whnf))
 refine Az n.devices.length (fun j=>Dp (fun _ d=>!(Oo d)) n.devices j) (fun j=>[(1,.sl 1 Ak rows),(2,.ref 8 (Ae n) 0),(5,Aa j)]) (fun _=>[]) [] (A7 _ _) ⟨⟨E,E,E,E,E,E,Y⟩,Y,E,E⟩ ?_
 intro j hj hI
 ((first|refine rG Γ hm ?_|refine rD Γ hm z_ ?_);(conv=>whnf);repeat((first|refine aF ?_|refine aT ?_);(first|refine rG Γ hm ?_|refine rD Γ hm z_ ?_);conv=>whnf))
 refine⟨fun h=>?_,fun h=>?_⟩
 ·have hlt:j<n.devices.length:=by simpa using h
  have hj0:((j:Nat):Int).toNat<n.devices.length:=by simpa using hlt
  have hld:Oo n.devices[j]=decide (300<(n.devices[((j:Nat):Int).toNat]'hj0).name.size):=rfl
  ((first|refine rG Γ hm ?_|refine rD Γ hm z_ ?_);(conv=>whnf);repeat((first|refine aF ?_|refine aT ?_);(first|refine rG Γ hm ?_|refine rD Γ hm z_ ?_);conv=>whnf))
  refine⟨E,by omega,hj0,?_⟩
  ((conv=>whnf);repeat((first|refine aF ?_|refine aT ?_);(first|refine rG Γ hm ?_|refine rD Γ hm z_ ?_);conv=>whnf))
  refine⟨fun h=>?_,fun h=>?_⟩
  ·rw[Acr hlt (hld.trans (decide_eq_true (qA h))),Bool.true_or,Bool.true_or]at hlk
   subst hlk
   ((first|refine rG Γ hm ?_|refine rD Γ hm z_ ?_);(conv=>whnf);repeat((first|refine aF ?_|refine aT ?_);(first|refine rG Γ hm ?_|refine rD Γ hm z_ ?_);conv=>whnf))
   exact dN
  ·have hno:(!(Oo n.devices[j]))=true:=by rw[hld,decide_eq_false (qB h)];rfl
   ((first|refine rG Γ hm ?_|refine rD Γ hm z_ ?_);(conv=>whnf);repeat((first|refine aF ?_|refine aT ?_);(first|refine rG Γ hm ?_|refine rD Γ hm z_ ?_);conv=>whnf))
   refine iL ?_
   ((conv=>whnf);repeat((first|refine aF ?_|refine aT ?_);(first|refine rG Γ hm ?_|refine rD Γ hm z_ ?_);conv=>whnf))
   exact Ay [] hI hlt (A6 hI hlt hno) ⟨⟨E,E,E,E,E,E,Y⟩,Y,E,E⟩
 have:j=n.devices.length:=qB h
 subst this
 rw[Ve hI (Nat.le_refl _),Bool.false_or]at hlk
 clear hI
 ((first|refine rG Γ hm ?_|refine rD Γ hm z_ ?_);(conv=>whnf);repeat((first|refine aF ?_|refine aT ?_);(first|refine rG Γ hm ?_|refine rD Γ hm z_ ?_);conv=>whnf))
 refine Az n.ports.length (fun j=>Dp (fun _ d=>!(Kr d)) n.ports j) (fun j=>[(1,.sl 1 Ak rows),(2,.ref 8 (Ae n) 0),(6,Aa j)]) (fun _=>[]) [] (A7 _ _) ⟨⟨E,E,E,E,E,E,Y⟩,Y,E,E⟩ ?_
 intro j hj hI
 ((first|refine rG Γ hm ?_|refine rD Γ hm z_ ?_);(conv=>whnf);repeat((first|refine aF ?_|refine aT ?_);(first|refine rG Γ hm ?_|refine rD Γ hm z_ ?_);conv=>whnf))
 refine⟨fun h=>?_,fun h=>?_⟩
 ·have hlt:j<n.ports.length:=by simpa using h
  have hj0:((j:Nat):Int).toNat<n.ports.length:=by simpa using hlt
  have hld:Kr n.ports[j]=decide (300<(n.ports[((j:Nat):Int).toNat]'hj0).name.size):=rfl
  ((first|refine rG Γ hm ?_|refine rD Γ hm z_ ?_);(conv=>whnf);repeat((first|refine aF ?_|refine aT ?_);(first|refine rG Γ hm ?_|refine rD Γ hm z_ ?_);conv=>whnf))
  refine⟨E,by omega,hj0,?_⟩
  ((conv=>whnf);repeat((first|refine aF ?_|refine aT ?_);(first|refine rG Γ hm ?_|refine rD Γ hm z_ ?_);conv=>whnf))
  refine⟨fun h=>?_,fun h=>?_⟩
  ·rw[Acr hlt (hld.trans (decide_eq_true (qA h))),Bool.true_or]at hlk
   subst hlk
   ((first|refine rG Γ hm ?_|refine rD Γ hm z_ ?_);(conv=>whnf);repeat((first|refine aF ?_|refine aT ?_);(first|refine rG Γ hm ?_|refine rD Γ hm z_ ?_);conv=>whnf))
   exact dN
  ·have hno:(!(Kr n.ports[j]))=true:=by rw[hld,decide_eq_false (qB h)];rfl
   ((first|refine rG Γ hm ?_|refine rD Γ hm z_ ?_);(conv=>whnf);repeat((first|refine aF ?_|refine aT ?_);(first|refine rG Γ hm ?_|refine rD Γ hm z_ ?_);conv=>whnf))
   refine iL ?_
   ((conv=>whnf);repeat((first|refine aF ?_|refine aT ?_);(first|refine rG Γ hm ?_|refine rD Γ hm z_ ?_);conv=>whnf))
   exact Ay [] hI hlt (A6 hI hlt hno) ⟨⟨E,E,E,E,E,E,Y⟩,Y,E,E⟩
 have:j=n.ports.length:=qB h
 subst this
 rw[Ve hI (Nat.le_refl _),Bool.false_or]at hlk
 clear hI
 ((first|refine rG Γ hm ?_|refine rD Γ hm z_ ?_);(conv=>whnf);repeat((first|refine aF ?_|refine aT ?_);(first|refine rG Γ hm ?_|refine rD Γ hm z_ ?_);conv=>whnf))
 refine Az rows.length (fun j=>Dp (fun _ d=>!(On d)) rows j) (fun j=>[(1,.sl 1 Ak rows),(7,Aa j)]) (fun _=>[]) [] (A7 _ _) ⟨⟨E,E,E,E,Y⟩,Y,E,E⟩ ?_
 intro j hj hI
 ((first|refine rG Γ hm ?_|refine rD Γ hm z_ ?_);(conv=>whnf);repeat((first|refine aF ?_|refine aT ?_);(first|refine rG Γ hm ?_|refine rD Γ hm z_ ?_);conv=>whnf))
 refine⟨fun h=>?_,fun h=>?_⟩
 ·have hlt:j<rows.length:=by simpa using h
  have hj0:((j:Nat):Int).toNat<rows.length:=by simpa using hlt
  have hld:On rows[j]=decide (1500<(rows[((j:Nat):Int).toNat]'hj0).size):=rfl
  ((first|refine rG Γ hm ?_|refine rD Γ hm z_ ?_);(conv=>whnf);repeat((first|refine aF ?_|refine aT ?_);(first|refine rG Γ hm ?_|refine rD Γ hm z_ ?_);conv=>whnf))
  refine⟨E,by omega,hj0,?_⟩
  ((conv=>whnf);repeat((first|refine aF ?_|refine aT ?_);(first|refine rG Γ hm ?_|refine rD Γ hm z_ ?_);conv=>whnf))
  refine⟨fun h=>?_,fun h=>?_⟩
  ·rw[Acr hlt (hld.trans (decide_eq_true (qA h)))]at hlk
   subst hlk
   ((first|refine rG Γ hm ?_|refine rD Γ hm z_ ?_);(conv=>whnf);repeat((first|refine aF ?_|refine aT ?_);(first|refine rG Γ hm ?_|refine rD Γ hm z_ ?_);conv=>whnf))
   exact dN
  ·have hno:(!(On rows[j]))=true:=by rw[hld,decide_eq_false (qB h)];rfl
   ((first|refine rG Γ hm ?_|refine rD Γ hm z_ ?_);(conv=>whnf);repeat((first|refine aF ?_|refine aT ?_);(first|refine rG Γ hm ?_|refine rD Γ hm z_ ?_);conv=>whnf))
   refine iL ?_
   ((conv=>whnf);repeat((first|refine aF ?_|refine aT ?_);(first|refine rG Γ hm ?_|refine rD Γ hm z_ ?_);conv=>whnf))
   exact Ay [] hI hlt (A6 hI hlt hno) ⟨⟨E,E,E,E,Y⟩,Y,E,E⟩
 have:j=rows.length:=qB h
 subst this
 rw[Ve hI (Nat.le_refl _)]at hlk
 subst hlk
 ((first|refine rG Γ hm ?_|refine rD Γ hm z_ ?_);(conv=>whnf);repeat((first|refine aF ?_|refine aT ?_);(first|refine rG Γ hm ?_|refine rD Γ hm z_ ?_);conv=>whnf))
 exact dN
theorem finW:netW.Fin:=by
 constructor<;>first | (unfold Ag;decide) | (intro x hx;unfold Ag;simp only[netW,List.mem_cons,List.not_mem_nil,or_false]at hx;first | (rcases hx with rfl | rfl<;>decide) | (subst hx;decide) | exact hx.elim)
theorem addrsW:Bp netW:=fun x hx=>by simp[netW]at hx
theorem Ab0:Hc netW:=by
 refine⟨fun d hd=>?_,fun p hp=>?_⟩
 ·simp only[netW,List.mem_cons,List.not_mem_nil,or_false]at hd
  subst hd
  decide
 ·simp only[netW,List.mem_cons,List.not_mem_nil,or_false]at hp
  rcases hp with rfl | rfl<;>decide
theorem Afr:Sy.Spec Tryz.prog 26 [] [] (Ab true) []:=cT F26 Tryz.ntmps26 fun F hF=>by
 have q1:=S2 netW finW addrsW Ab0 0 1
 have q2:=Ye netW finW Ab0 [Af5,Af4] (by unfold Ag;decide) (by intro x hx;simp only[List.mem_cons,List.not_mem_nil,or_false]at hx;rcases hx with rfl | rfl<;>decide) Bv (fun s hs=>Lk s hs)
 have q3:=Ye netW finW Ab0 [] (by unfold Ag;decide) (fun x hx=>by cases hx) Bv (fun s hs=>Lk s hs)
 rw[Afb]at q1
 rw[Ajf]at q2
 rw[Ahu]at q3
 ((conv=>whnf);repeat((first|refine aF ?_|refine aT ?_);(first|refine rG Γ hm ?_|refine rD Γ hm z_ ?_);conv=>whnf))
 refine Vj 11 (e:=Ap) (l:=netW.devices) E E ?_
 refine Ah 11 E ?_
 refine Vj 14 (e:=Tp) (l:=netW.ports) E E ?_
 refine Aa2 14 (e':=As) (l':=netW.ports) E E (fun M w i h1 h2 v hv=>?_) ?_
 ·show RdD M w (As netW.ports[i]) v
  have hv:RdD M w (Tp netW.ports[i]) v:=hv
  refine Abu (netW.ports[i]) ?_ hv
  exact(by decide:∀ p∈netW.ports,p.tagged=[]) _ (List.getElem_mem _)
 refine Ah 14 E ?_
 refine Vj 16 (e:=X5) (l:=netW.domains) E E ?_
 refine Aa2 16 (e':=Af) (l':=netW.domains) E E (fun M w i h1 h2 v hv=>?_) ?_
 ·show RdD M w (Af netW.domains[i]) v
  have hv:RdD M w (X5 netW.domains[i]) v:=hv
  refine W4 (netW.domains[i]) ?_ hv
  exact(by decide:∀ p∈netW.domains,p.peers=[]) _ (List.getElem_mem _)
 refine Ah 16 E ?_
 refine Aib 19 (Ae netW) (.agg (.cons (.refl _) (.cons (.refl _) (.cons .nil (.cons (.refl _) (.cons .nil (.cons .nil (.cons .nil (.cons .nil .nil))))))))) ?_
 refine c0 q1 F28 ?_
 ((first|refine rG Γ hm ?_|refine rD Γ hm z_ ?_);(conv=>whnf);repeat((first|refine aF ?_|refine aT ?_);(first|refine rG Γ hm ?_|refine rD Γ hm z_ ?_);conv=>whnf))
 refine Aib 24 (Ae netW) (.agg (.cons (.refl _) (.cons (.refl _) (.cons .nil (.cons (.refl _) (.cons .nil (.cons .nil (.cons .nil (.cons .nil .nil))))))))) ?_
 refine c0 q2 F29 ?_
 ((first|refine rG Γ hm ?_|refine rD Γ hm z_ ?_);(conv=>whnf);repeat((first|refine aF ?_|refine aT ?_);(first|refine rG Γ hm ?_|refine rD Γ hm z_ ?_);conv=>whnf))
 refine Aib 31 (Ae netW) (.agg (.cons (.refl _) (.cons (.refl _) (.cons .nil (.cons (.refl _) (.cons .nil (.cons .nil (.cons .nil (.cons .nil .nil))))))))) ?_
 refine A2 (Dg [] E F29 q3 (.cons (.refl _) (.cons .nil .nil)) E E) E E ?_
 ((first|refine rG Γ hm ?_|refine rD Γ hm z_ ?_);(conv=>whnf);repeat((first|refine aF ?_|refine aT ?_);(first|refine rG Γ hm ?_|refine rD Γ hm z_ ?_);conv=>whnf))
 repeat (first | (refine⟨rfl,by decide,by decide,?_⟩;((conv=>whnf);repeat((first|refine aF ?_|refine aT ?_);(first|refine rG Γ hm ?_|refine rD Γ hm z_ ?_);conv=>whnf))) | (refine⟨fun _=>?_,fun h=>absurd h j_⟩;((first|refine rG Γ hm ?_|refine rD Γ hm z_ ?_);(conv=>whnf);repeat((first|refine aF ?_|refine aT ?_);(first|refine rG Γ hm ?_|refine rD Γ hm z_ ?_);conv=>whnf))) | (refine⟨fun h=>absurd h j_,fun _=>?_⟩;((first|refine rG Γ hm ?_|refine rD Γ hm z_ ?_);(conv=>whnf);repeat((first|refine aF ?_|refine aT ?_);(first|refine rG Γ hm ?_|refine rD Γ hm z_ ?_);conv=>whnf))))
 exact dN
theorem Vv {n:Net} {rows:List ByteArray} (h:great44B n rows=false):n.Fin∧Hc n∧rows.length≤100∧∀ x∈rows,x.size<100000:=by
 simp only[great44B,Bool.or_eq_false_iff,decide_eq_false_iff_not]at h
 obtain ⟨⟨⟨⟨h1,h2⟩,h3⟩,h4⟩,h5⟩:=h
 refine⟨O3 h1,⟨fun d hd=>?_,fun p hp=>?_⟩,by omega,fun x hx=>?_⟩
 ·have:=List.any_eq_false.1 h3 d hd
  simp[Oo]at this
  omega
 ·have:=List.any_eq_false.1 h4 p hp
  simp[Kr]at this
  omega
 ·have:=List.any_eq_false.1 h5 x hx
  simp[On]at this
  omega
end Go.Sy.YtjenpnjajjplkaaGreatDoor
namespace Go.Sy
theorem Ahh {P:Program} {o:Oper} {s:SS} {x y:Operand} {at_:Array TypeId} {k k':IntKind} {m n:Int} (h:o.op=.call ⟨.builtin .max,#[x,y],at_⟩)
  (hx:ev s x=.val (.int k m)) (hy:ev s y=.val (.int k' n)):Good P o s ⟨.val (.int k (if n>m then n else m)),[],[]⟩ :=
 Good.pure fun κ a w _ hr ho=>by
  have h1:=hr x (by simp[h,Op.operands,Call.operands])
  have h2:=hr y (by simp[h,Op.operands,Call.operands])
  rw[hx]at h1
  rw[hy]at h2
  refine⟨.int k (if n>m then n else m),?_,by simp[Rd]⟩
  simp[execOp,h,resolve,invoke,builtin,Builtin.max_,Builtin.max2,h1.val,h2.val]
end Go.Sy
namespace Go.Sy.YtjenpnjajjplkaaGreatDoor
open Go.Proofs
attribute [local irreducible] Go.Sy.G Go.Sy.DR
set_option maxRecDepth 100000
set_option maxHeartbeats 4000000
theorem Dh {f:List Int} (hf:Bw f) {i:Int} (h0:0≤i) (hi:i.toNat<f.length):0≤nth f i∧nth f i≤i:=by
 rw[Ad hi]
 have:=hf i.toNat hi
 omega
theorem Ib {f:List Int} (hf:Bw f) {i:Nat} (_hi:i<f.length) {x:Int} (h0:0≤x) (hx:x≤i):Bw (f.set i x):=by
 intro k hk
 rw[List.length_set]at hk
 rw[List.getElem_set]
 split
 ·rename_i e;subst e;exact⟨h0,hx⟩
 ·exact hf k hk
theorem Wc:∀ (m k k':Nat) (f:List Int) (i:Int),Bw f→0≤i→i.toNat<f.length→i.toNat≤m→i.toNat+1≤k→i.toNat+1≤k'→Yo k f i=Yo k' f i
 | m,0,_,_,_,_,_,_,_,h,_=>by omega
 | m,_+1,0,_,_,_,_,_,_,_,h=>by omega
 | m,k+1,k'+1,f,i,hf,h0,hi,hm,h1,h2=>by
  rw[Yo,Yo]
  by_cases e:nth f i=i
  ·rw[if_pos e,if_pos e]
  ·rw[if_neg e,if_neg e]
   obtain ⟨a1,a2⟩:=Dh hf h0 hi
   obtain ⟨b1,b2⟩:=Dh hf a1 (by omega:(nth f i).toNat<f.length)
   match m with
   | 0=>omega
   | m+1 =>
    exact Wc m k k' _ _ (Ib hf hi b1 q_) b1 (by rw[List.length_set];omega) q_ q_ q_
theorem Ac3 {f:List Int} {i:Int} (h:nth f i=i):Hd f i=(f,i):=by rw[Hd,Yo,if_pos h]
theorem Yn {f:List Int} {i:Int} (hf:Bw f) (h0:0≤i) (hi:i.toNat<f.length) (h:nth f i≠i):Hd f i=Hd (f.set i.toNat (nth f (nth f i))) (nth f (nth f i)):=by
 obtain ⟨a1,a2⟩:=Dh hf h0 hi
 obtain ⟨b1,b2⟩:=Dh hf a1 (by omega:(nth f i).toNat<f.length)
 rw[Hd,Yo,if_neg h,Hd]
 exact Wc i.toNat _ _ _ _ (Ib hf hi b1 q_) b1 (by rw[List.length_set];omega) q_ q_ q_
theorem I1:∀ (m:Nat) (f:List Int) (i:Int),Bw f→0≤i→i.toNat<f.length→i.toNat≤m→Bw (Hd f i).1∧(Hd f i).1.length=f.length∧0≤(Hd f i).2∧(Hd f i).2≤i
 | m,f,i,hf,h0,hi,hm=>by
  by_cases e:nth f i=i
  ·rw[Ac3 e];exact⟨hf,rfl,h0,Int.le_refl _⟩
  ·obtain ⟨a1,a2⟩:=Dh hf h0 hi
   obtain ⟨b1,b2⟩:=Dh hf a1 (by omega:(nth f i).toNat<f.length)
   rw[Yn hf h0 hi e]
   match m with
   | 0=>omega
   | m+1 =>
    obtain ⟨c1,c2,c3,c4⟩:=I1 m _ _ (Ib hf hi b1 q_) b1 (by rw[List.length_set];omega:(nth f (nth f i)).toNat<(f.set i.toNat (nth f (nth f i))).length) q_
    exact⟨c1,by rw[c2,List.length_set],c3,by omega⟩
theorem Uu {f:List Int} {a b:Int} (hf:Bw f) (ha:0≤a∧a.toNat<f.length) (hb:0≤b∧b.toNat<f.length):Bw (Ma f a b).1∧(Ma f a b).1.length=f.length:=by
 obtain ⟨a1,a2,a3,a4⟩:=I1 a.toNat f a hf ha.1 ha.2 (Nat.le_refl _)
 obtain ⟨b1,b2,b3,b4⟩:=I1 b.toNat (Hd f a).1 b a1 hb.1 q_ (Nat.le_refl _)
 unfold Ma
 dsimp only
 generalize Hd (Hd f a).1 b=y at *
 generalize Hd f a=x at *
 refine⟨Ib b1 q_ q_ q_,by rw[List.length_set];omega⟩
theorem Yg (k:Nat):Bw (If k)∧(If k).length=k:=by
 refine⟨fun i hi=>?_,by simp[If]⟩
 simp[If]
def alJ (k j:Nat):List Int:=(List.range j).map (fun i:Nat=>(i:Int))++List.replicate (k-j) 0
theorem Ah6 (k:Nat):alJ k 0=List.replicate k 0:=by simp[alJ]
theorem Aji (k j:Nat) (h:j≤k):(alJ k j).length=k:=by simp[alJ];omega
theorem Ah7 (k j:Nat) (h:j<k):(alJ k j).set ((j:Nat):Int).toNat (j:Int)=alJ k (j+1):=by
 have hl:((List.range j).map (fun i:Nat=>(i:Int))).length=j:=by simp
 rw[Int.toNat_natCast,alJ,alJ,List.set_append_right _ _ q_,hl,Nat.sub_self,show k-j=(k-(j+1))+1 by omega,List.replicate_succ,List.set_cons_zero,List.range_succ,List.map_append,List.append_assoc]
 rfl
theorem aloneS (k:Nat) (hk:k≤100000):Sy.Spec Tryz.prog 65 [Aa k] [] (.osl 900) [(900,.row 1 Aa (If k))]:=cT F65 Tryz.ntmps65 fun F hF=>by
 have hfull:alJ k k=If k:=by simp[alJ,If]
 refine T ?_
 refine X (Eb Γ.toTy (d:=6) (n:=k) Aa 0 E E E E E E E E q_ q_ E E E) ?_
 refine T ?_
 refine Cc (fun j:Nat=>j≤k) (fun j=>[(3,.osl 1000),(8,Aa k),(9,Aa j)]) (fun j=>[(1000,.row 1 Aa (alJ k j))]) (fun j=>k-j) 0 [(1000,6)] q_ ⟨⟨E,E,congrArg Aa (by rw[List.length_replicate]),E,E,E,Y⟩,⟨.inl (congrArg (Ob.row 1 Aa) (Ah6 k)),E,Y⟩,E,E⟩ ?_
 intro j hj
 have hl:=Aji k j hj
 refine T ?_
 refine⟨fun h=>?_,fun h=>?_⟩
 ·have hlt:j<k:=qA h
  clear h
  have hne:alJ k j≠[]:=fun e=>by rw[e]at hl;simp at hl;omega
  have hnx:=Ah7 k j hlt
  refine T ?_
  refine⟨(j:Int),E,E,?_⟩
  refine T ?_
  exact A8 (j+1) [] hlt q_ ⟨⟨E,E,E,E,E,E,Y⟩,⟨.inl (congrArg (Ob.row 1 Aa) hnx.symm),E,Y⟩,E,E⟩
 ·have hje:j=k:=qB h
  clear h
  subst hje
  rw[hfull]
  refine T ?_
  exact done E (.cons .tmp .nil) [(900,1000)] [(900,.row 1 Aa (If j))] (fun _ h=>h) E E U
theorem Ad9 (l:List Int) (h0:0<l.length) (hl:l.length<2147483648):Sy.Spec Tryz.prog 67 [.sl 1 Aa l] [] (Aa (Zl l)) []:=cT F67 Tryz.ntmps67 fun F hF=>by
 have f0:decide ((l.length:Int)<1)=false:=decide_eq_false q_
 have hz:(0:Int).toNat<l.length:=h0
 have hst:Zl l=Vr (l[(0:Int).toNat]'hz) (l.drop 1):=by rw[Zl,Ad hz]
 refine T ?_
 refine Cc (fun x:Nat × Int=>1≤x.1∧x.1≤l.length∧Zl l=Vr x.2 (l.drop x.1)) (fun x=>[(0,.sl 1 Aa l),(3,Aa x.2),(4,Aa x.1)]) (fun _=>[]) (fun x=>l.length-x.1) (1,l[(0:Int).toNat]'hz) [] ⟨by omega,by omega,hst⟩ U ?_
 rintro ⟨i,m⟩ ⟨h1,h2,hI⟩
 dsimp only at h1 h2 hI ⊢
 refine T ?_
 refine⟨fun h=>?_,fun h=>?_⟩
 ·have hlt:i<l.length:=qA h
  have hlt0:((i:Nat):Int).toNat<l.length:=hlt
  clear h
  rw[List.drop_eq_getElem_cons hlt,Vr]at hI
  refine T ?_
  refine X (Ox E E E) ?_
  exact A8 (i+1,min m l[i]) [] ⟨by dsimp only;omega,hlt,hI⟩ (by dsimp only;omega) ⟨⟨E,E,congrArg Aa (by dsimp only;show min m l[i]=if l[i]<m then l[i] else m;omega),E,E,E,Y⟩,Y,E,E⟩
 ·have hie:i=l.length:=qB h
  clear h
  rw[hie,List.drop_length,Vr]at hI
  rw[hI]
  refine T ?_
  exact D
theorem topS (f:List Int) (i:Int) (hf:Bw f) (h0:0≤i) (hi:i.toNat<f.length) (hl:f.length≤100000):Sy.Spec Tryz.prog 169 [.osl 900,Aa i] [(900,.row 1 Aa f)] (Aa (Hd f i).2) [(900,.row 1 Aa (Hd f i).1)]:=cT F169 Tryz.ntmps169 fun F hF=>by
 refine T ?_
 refine Cc (fun x:List Int × Int=>Bw x.1∧x.1.length=f.length∧0≤x.2∧x.2.toNat<f.length∧Hd f i=Hd x.1 x.2) (fun x=>[(0,.osl 900),(1,Aa x.2)]) (fun x=>[(900,.row 1 Aa x.1)]) (fun x=>x.2.toNat) (f,i) [] ⟨hf,E,h0,hi,E⟩ U ?_
 rintro ⟨g,k⟩ ⟨h1,h2,h3,h4,hI⟩
 dsimp only at h1 h2 h3 h4 hI ⊢
 have hk0:k.toNat<g.length:=by omega
 have hn:=Ad hk0
 by_cases e:nth g k=k
 ·have hb:(g[k.toNat] == k)=true:=by rw[← hn];exact beq_iff_eq.mpr e
  have hb':(!(g[k.toNat] == k))=false:=by rw[hb];rfl
  rw[hI,Ac3 e]
  refine T ?_
  exact done E (.cons .tmp .nil) [(900,900)] [(900,.row 1 Aa g)] (fun _ h=>h) E E U
 ·obtain ⟨a1,a2⟩:=Dh h1 h3 hk0
  obtain ⟨b1,b2⟩:=Dh h1 a1 (by omega:(nth g k).toNat<g.length)
  have hk1:(g[k.toNat]'hk0).toNat<g.length:=by omega
  have hn1:nth g (nth g k)=g[(g[k.toNat]'hk0).toNat]'hk1:=by rw[hn];exact Ad hk1
  have hs:=Yn h1 h3 hk0 e
  have hb:(g[k.toNat] == k)=false:=by rw[← hn];exact beq_eq_false_iff_ne.mpr e
  have hb':(!(g[k.toNat] == k))=true:=by rw[hb];rfl
  refine T ?_
  refine⟨nth g (nth g k),congrArg (fun x=>cellsOf (Aa x)) hn1,E,?_⟩
  have hk2:k.toNat<(g.set k.toNat (nth g (nth g k))).length:=by rw[List.length_set];exact hk0
  have hn2:(g.set k.toNat (nth g (nth g k)))[k.toNat]'hk2=nth g (nth g k):=List.getElem_set_self _
  refine T ?_
  refine A8 (g.set k.toNat (nth g (nth g k)),nth g (nth g k)) [] ⟨Ib h1 hk0 b1 q_,by dsimp only;rw[List.length_set];exact h2,b1,by dsimp only;omega,by dsimp only;rw[hI,hs]⟩ (by dsimp only;omega) ⟨⟨E,E,congrArg Aa hn2.symm,E,Y⟩,⟨.inl E,E,Y⟩,E,E⟩
theorem Ajt (f:List Int) (a b:Int) (hf:Bw f) (ha:0≤a∧a.toNat<f.length) (hb:0≤b∧b.toNat<f.length) (hl:f.length≤100000):Sy.Spec Tryz.prog 68 [.osl 900,Aa a,Aa b] [(900,.row 1 Aa f)] (Ab (Ma f a b).2) [(900,.row 1 Aa (Ma f a b).1)]:=cT F68 Tryz.ntmps68 fun F hF=>by
 obtain ⟨a1,a2,a3,a4⟩:=I1 a.toNat f a hf ha.1 ha.2 (Nat.le_refl _)
 obtain ⟨b1,b2,b3,b4⟩:=I1 b.toNat (Hd f a).1 b a1 hb.1 q_ (Nat.le_refl _)
 have F1:=topS f a hf ha.1 ha.2 hl
 have F2:=topS (Hd f a).1 b a1 hb.1 q_ q_
 rw[Ma]
 dsimp only
 generalize hy:Hd (Hd f a).1 b=y at *
 generalize hx:Hd f a=x at *
 have hm:(if y.2>x.2 then y.2 else x.2).toNat<y.1.length:=by split<;>omega
 have hm0:0≤(if y.2>x.2 then y.2 else x.2):=by split<;>omega
 have e1:(max x.2 y.2).toNat=(if y.2>x.2 then y.2 else x.2).toNat:=by rw[Int.max_def];split<;>split<;>omega
 have e2:(min x.2 y.2)=(if y.2<x.2 then y.2 else x.2):=by rw[Int.min_def];split<;>split<;>omega
 rw[e1,e2]
 refine T ?_
 refine X (Aj [(900,900)] E F169 F1 E W E V) ?_
 refine T ?_
 refine X (Aj [(900,900)] E F169 F2 E W E V) ?_
 refine T ?_
 refine X (Ahh E E E) ?_
 refine T ?_
 refine X (Ox E E E) ?_
 refine T ?_
 refine⟨_,E,E,?_⟩
 refine T ?_
 exact done E (.cons .tmp .nil) [(900,900)] [(900,.row 1 Aa (y.1.set (if y.2>x.2 then y.2 else x.2).toNat (if y.2<x.2 then y.2 else x.2)))] (fun _ h=>h) E E U
theorem Oq {n:Net} {i:Nat} {v:Int} (h:(linkDomT n i v).2=true) (hi:i<n.ports.length):B5 n.ports[i] v=true:=by
 have e:nth n.ports ((i:Nat):Int)=n.ports[i]:=Ad (l:=n.ports) (i:=((i:Nat):Int)) hi
 unfold linkDomT at h
 split at h
 ·rename_i h3
  unfold crossT at h3
  split at h3
  ·rename_i h4
   rw[e]at h4
   exact h4.2.1
  ·cases h3
 ·cases h
theorem L6 {n:Net} (hr:Ac n=true) {f:List Int} {i:Nat} (hi:i<n.ports.length) {v:Int} (hf:Bw f) (hl:n.domains.length≤f.length):Bw (B6 n f i v)∧(B6 n f i v).length=f.length:=by
 unfold B6
 split
 ·rename_i h
  have h2:=Kt h
  have hm:B5 n.ports[i] v=true:=Oq h hi
  have h3:=K3 hr hi hm
  have e:nth n.ports ((i:Nat):Int)=n.ports[i]:=Ad (l:=n.ports) (i:=((i:Nat):Int)) hi
  rw[e]
  exact Uu hf ⟨h3.1,by omega⟩ ⟨h2.1,by omega⟩
 ·exact⟨hf,E⟩
theorem E7 {α:Type} {g:List Int→α→List Int} {k:Nat}:∀ {l:List α} {f:List Int},(∀ a∈l,∀ f,Bw f→k≤f.length→Bw (g f a)∧(g f a).length=f.length)→Bw f→k≤f.length→Bw (l.foldl g f)∧(l.foldl g f).length=f.length
 | [],_,_,h,_=>⟨h,rfl⟩
 | a::l,f,hg,h,hk=>by
  obtain ⟨h1,h2⟩:=hg a y_ f h hk
  obtain ⟨h3,h4⟩:=E7 (l:=l) (fun b hb=>hg b (by simp[hb])) h1 (by omega:k≤(g f a).length)
  exact⟨h3,by rw[List.foldl_cons,h4,h2]⟩
theorem Ks {n:Net} (hr:Ac n=true) {f:List Int} {i:Nat} (hi:i<n.ports.length) (hf:Bw f) (hl:n.domains.length≤f.length):Bw (Dv n f i)∧(Dv n f i).length=f.length :=
 E7 (fun _ _ _ h1 h2=>L6 hr hi h1 h2) hf hl
theorem Xr {n:Net} (hr:Ac n=true) {f:List Int} (hf:Bw f) (hl:n.domains.length≤f.length):Bw (Ld n f)∧(Ld n f).length=f.length :=
 E7 (fun i hi _ h1 h2=>Ks hr (by simpa using hi) h1 h2) hf hl
theorem X9 (l:List Int) (hl:l.length<2147483648):Sy.Spec Tryz.prog 159 [.sl 1 Aa l] [] (.osl 0) [(0,.row 1 Aa l)]:=cT F159 Tryz.ntmps159 fun F hF=>by
 ((conv=>whnf);repeat((first|refine aF ?_|refine aT ?_);(first|refine rG Γ hm ?_|refine rD Γ hm z_ ?_);conv=>whnf))
 refine D2 E (.inl E) E E E .sl E E ?_
 intro b hb
 cases b
 ·((first|refine rG Γ hm ?_|refine rD Γ hm z_ ?_);(conv=>whnf);repeat((first|refine aF ?_|refine aT ?_);(first|refine rG Γ hm ?_|refine rD Γ hm z_ ?_);conv=>whnf))
  refine A2 (Ai Γ.toTy 7 E E E E E (.lit (e:=Aa) (l:=[]) E E) .sl y_ (by simp;omega) (by simp;omega)) E E ?_
  ((first|refine rG Γ hm ?_|refine rD Γ hm z_ ?_);(conv=>whnf);repeat((first|refine aF ?_|refine aT ?_);(first|refine rG Γ hm ?_|refine rD Γ hm z_ ?_);conv=>whnf))
  exact done E (.cons .tmp .nil) [(0,7)] [(0,.row 1 Aa l)] (fun _ h=>h) E E ⟨Y,⟨.inl E,E,Y⟩,E,E⟩
 ·have h0:l=[]:=List.eq_nil_of_length_eq_zero (hb rfl)
  subst h0
  ((first|refine rG Γ hm ?_|refine rD Γ hm z_ ?_);(conv=>whnf);repeat((first|refine aF ?_|refine aT ?_);(first|refine rG Γ hm ?_|refine rD Γ hm z_ ?_);conv=>whnf))
  refine Cq 2 1000 1 Aa E E ?_
  exact done E (.cons .tmp .nil) [(0,1000)] [(0,.row 1 Aa [])] (fun _ h=>h) E E ⟨Y,⟨.inl E,E,Y⟩,E,E⟩
theorem Aiz (n:Net) (f:List Int) (hn:n.Fin) (hr:Ac n=true) (hf:Bw f) (hl:n.domains.length≤f.length) (hl2:f.length≤100000):Sy.Spec Tryz.prog 66 [Ae n,.osl 900] [(900,.row 1 Aa f)] (.tup []) [(900,.row 1 Aa (Ld n f))]:=cT F66 Tryz.ntmps66 fun F hF=>by
 have hp:n.ports.length<2147483648:=hn.ports
 refine T ?_
 refine A1 2 8 (Ae n) E E E ?_
 refine T ?_
 refine By n.ports.length (fun j=>[(1,.osl 900),(2,.ref 8 (Ae n) 0),(11,.sl 7 As n.ports),(12,Aa n.ports.length),(13,Aa j)]) (fun j=>[(900,.row 1 Aa ((List.range j).foldl (Dv n) f))]) [] U ?_
 intro j hj
 refine T ?_
 refine⟨fun h=>?_,fun h=>?_⟩
 ·have hlt:j<n.ports.length:=qA h
  have hj0:((j:Nat):Int).toNat<n.ports.length:=hlt
  clear h
  have htag:n.ports[((j:Nat):Int).toNat].tagged.length<2147483648:=hn.tagged _ (List.getElem_mem hj0)
  have htag2:n.ports[j].tagged.length<2147483648:=htag
  have hnp:nth n.ports ((j:Nat):Int)=n.ports[((j:Nat):Int).toNat]:=Ad hj0
  obtain ⟨g1,g2⟩:Bw ((List.range j).foldl (Dv n) f)∧((List.range j).foldl (Dv n) f).length=f.length:=E7 (fun i hi _ h1 h2=>Ks hr (by have:=List.mem_range.1 hi;omega) h1 h2) hf hl
  refine T ?_
  refine Xd (Aj [(0,60)] E F159 (X9 n.ports[((j:Nat):Int).toNat].tagged htag) E Y E ⟨.inr E,Y⟩) ?_
  refine T ?_
  refine Xd (Ai Γ.toTy 61 rfl rfl rfl rfl rfl (.row rfl) (.lit (e:=Aa) (l:=[n.ports[((j:Nat):Int).toNat].native]) rfl rfl) (by intro k hk;cases hk;decide) (by simp;omega) (by simp;omega)) ?_
  refine T ?_
  refine A1 5 7 (As n.ports[((j:Nat):Int).toNat]) E E E ?_
  have hlen:(n.ports[((j:Nat):Int).toNat].tagged++[n.ports[((j:Nat):Int).toNat].native]).length=n.ports[((j:Nat):Int).toNat].tagged.length+1:=by simp
  refine T ?_
  obtain ⟨vl,hvl⟩:∃ vl,n.ports[((j:Nat):Int).toNat].tagged++[n.ports[((j:Nat):Int).toNat].native]=vl:=⟨_,rfl⟩
  have hvlen:vl.length<2147483649:=by rw[← hvl,hlen];omega
  obtain ⟨fj,hfj⟩:∃ fj,(List.range j).foldl (Dv n) f=fj:=⟨_,rfl⟩
  rw[hfj]at g1 g2
  refine By vl.length (fun i=>[(1,.osl 900),(2,.ref 8 (Ae n) 0),(4,Aa j),(5,.ref 7 (As n.ports[((j:Nat):Int).toNat]) 0),(11,.sl 7 As n.ports),(12,Aa n.ports.length),(13,Aa j),(24,.osl 1000),(25,Aa vl.length),(26,Aa i)])
   (fun i=>[(900,.row 1 Aa ((vl.take i).foldl (fun f v=>B6 n f j v) fj)),(1000,.row 1 Aa vl)]) [(1000,61)] ⟨⟨rfl,rfl,rfl,rfl,rfl,rfl,rfl,rfl,rfl,rfl,rfl,rfl,rfl,rfl,rfl,rfl,congrArg (fun l:List Int=>Aa l.length) hvl.symm,rfl,rfl,rfl,trivial⟩,⟨.inl (congrArg (Ob.row 1 Aa) hfj.symm),rfl,.inl (congrArg (Ob.row 1 Aa) hvl.symm),rfl,trivial⟩,rfl,rfl⟩ ?_
  intro i hi
  refine T ?_
  refine⟨fun h=>?_,fun h=>?_⟩
  ·have hit:i<vl.length:=qA h
   have hi0:((i:Nat):Int).toNat<vl.length:=hit
   clear h
   obtain ⟨e1,e2⟩:Bw ((vl.take i).foldl (fun f v=>B6 n f j v) fj)∧((vl.take i).foldl (fun f v=>B6 n f j v) fj).length=fj.length:=E7 (fun _ _ _ h1 h2=>L6 hr hlt h1 h2) g1 q_
   have hnx:(vl.take (i+1)).foldl (fun f v=>B6 n f j v) fj=B6 n ((vl.take i).foldl (fun f v=>B6 n f j v) fj) j (vl[((i:Nat):Int).toNat]'hi0):=by
    rw[List.take_succ_eq_append_getElem hit,List.foldl_append];rfl
   have q:=Jj n hn j (vl[((i:Nat):Int).toNat]'hi0)
   refine T ?_
   refine C q F167 ?_
   cases hb:(linkDomT n j (vl[((i:Nat):Int).toNat]'hi0)).2
   ·have hz:B6 n ((vl.take i).foldl (fun f v=>B6 n f j v) fj) j (vl[((i:Nat):Int).toNat]'hi0)=(vl.take i).foldl (fun f v=>B6 n f j v) fj:=by rw[B6,if_neg (by rw[hb];decide)]
    rw[hz]at hnx
    refine T ?_
    exact Bs [] q_ ⟨⟨E,E,E,E,E,E,E,E,E,E,E,E,E,E,E,E,E,E,E,E,Y⟩,⟨.inl (congrArg (Ob.row 1 Aa) hnx),E,.inl E,E,Y⟩,E,E⟩
   ·have hin:=Kt hb
    have hm:B5 (n.ports[((j:Nat):Int).toNat]'hj0) (vl[((i:Nat):Int).toNat]'hi0)=true:=Oq hb hlt
    have hdm:=K3 hr hlt hm
    have q2:=Ex n hn hr (n.ports[((j:Nat):Int).toNat]'hj0).dev (vl[((i:Nat):Int).toNat]'hi0)
    have hz:B6 n ((vl.take i).foldl (fun f v=>B6 n f j v) fj) j (vl[((i:Nat):Int).toNat]'hi0)=(Ma ((vl.take i).foldl (fun f v=>B6 n f j v) fj) (Dn n (n.ports[((j:Nat):Int).toNat]'hj0).dev (vl[((i:Nat):Int).toNat]'hi0)) (linkDomT n j (vl[((i:Nat):Int).toNat]'hi0)).1).1:=by rw[B6,if_pos hb,hnp]
    rw[hz]at hnx
    have q3:=Ajt ((vl.take i).foldl (fun f v=>B6 n f j v) fj) (Dn n (n.ports[((j:Nat):Int).toNat]'hj0).dev (vl[((i:Nat):Int).toNat]'hi0)) (linkDomT n j (vl[((i:Nat):Int).toNat]'hi0)).1 e1 ⟨hdm.1,Nat.lt_of_lt_of_le hdm.2 q_⟩ ⟨hin.1,by omega⟩ q_
    refine T ?_
    refine C q2 F168 ?_
    refine T ?_
    refine X (Aj [(900,900)] E F68 q3 E W E V) ?_
    refine T ?_
    exact Bs [] q_ ⟨⟨E,E,E,E,E,E,E,E,E,E,E,E,E,E,E,E,E,E,E,E,Y⟩,⟨.inl (congrArg (Ob.row 1 Aa) hnx),E,.inl E,E,Y⟩,E,E⟩
  ·have hie:i=vl.length:=qB h
   clear h
   subst hie
   have hnx:(List.range (j+1)).foldl (Dv n) f=(vl.take vl.length).foldl (fun f v=>B6 n f j v) fj:=by
    rw[List.range_succ,List.foldl_append,hfj,List.take_length,← hvl]
    show Dv n fj j=_
    rw[Dv,hnp]
   refine T ?_
   exact Bs [] q_ ⟨⟨E,E,E,E,E,E,E,E,E,E,Y⟩,⟨.inl (congrArg (Ob.row 1 Aa) hnx),E,Y⟩,E,E⟩
 ·have hje:j=n.ports.length:=qB h
  clear h
  subst hje
  refine T ?_
  exact Ch E .nil [(900,900)] [(900,.row 1 Aa (Ld n f))] (fun _ h=>h) E E U
end Go.Sy.YtjenpnjajjplkaaGreatDoor
namespace Go.Sy.YtjenpnjajjplkaaGreatDoor
open Go.Proofs
attribute [local irreducible] Go.Sy.G Go.Sy.DR
set_option maxRecDepth 100000
set_option maxHeartbeats 4000000
theorem Adc:∀ (l:List Int) (m:Int),Vr m l=m∨Vr m l∈l
 | [],_=>.inl rfl
 | x::l,m=>by
  rw[Vr]
  rcases Adc l (min m x) with h | h
  ·rw[h,Int.min_def]
   split
   ·exact .inl E
   ·exact .inr y_
  ·exact .inr (by simp[h])
theorem Aix {l:List Int} (h:l≠[]):Zl l∈l:=by
 match l,h with
 | x::l,_ =>
  show Vr (nth (x::l) 0) l∈x::l
  rw[show nth (x::l) 0=x from rfl]
  rcases Adc l x with h | h
  ·rw[h];simp
  ·simp[h]
theorem loopS (n:Net) (hn:n.Fin):Sy.Spec Tryz.prog 24 [Ae n] [] (.tup [Aa (loopT n).1,Ab (loopT n).2]) []:=cT F24 Tryz.ntmps24 fun F hF=>by
 have qn:=Aw n hn
 have hT:=loopT.eq_1 n
 generalize loopT n=res at *
 cases hr:Ac n with
 | false =>
  rw[hr]at qn
  rw[hr,if_pos rfl]at hT
  subst hT
  refine T ?_
  refine C qn F25 ?_
  refine T ?_
  exact D
 | true =>
 rw[hr]at qn
 rw[hr,if_neg y_]at hT
 obtain ⟨_,_,_,hmany,_⟩:=Wz hr
 obtain ⟨fa1,fa2⟩:=Yg (2 * n.domains.length)
 have fl:=Xr hr fa1 q_
 have q1:=aloneS (2 * n.domains.length) q_
 rw[show ((2 * n.domains.length:Nat):Int)=2 * (n.domains.length:Int) from by omega]at q1
 have q2:=Aiz n (If (2 * n.domains.length)) hn hr fa1 q_ q_
 refine T ?_
 refine C qn F25 ?_
 refine A1 1 8 (Ae n) E E E ?_
 refine T ?_
 refine X (Aj [(900,700)] E F65 q1 E W E V) ?_
 refine T ?_
 refine X (Aj [(900,700)] E F66 q2 E W E V) ?_
 refine T ?_
 refine Cc (fun x:Nat × List Int=>x.1≤n.domains.length∧Bw x.2∧x.2.length=2 * n.domains.length∧res=Qz n x.2 x.1 (n.domains.drop x.1)) (fun x=>[(1,.ref 8 (Ae n) 0),(4,Aa n.domains.length),(5,.osl 1000),(22,.sl 6 Af n.domains),(23,Aa n.domains.length),(24,Aa x.1)])
  (fun x=>[(1000,.row 1 Aa x.2)]) (fun x=>n.domains.length-x.1) (0,Ld n (If (2 * n.domains.length))) [(1000,700)] ⟨by omega,fl.1,by dsimp only;rw[fl.2,fa2],hT⟩ U ?_
 rintro ⟨i,f⟩ ⟨h1,h2,h3,hI⟩
 dsimp only at h1 h2 h3 hI ⊢
 refine T ?_
 refine⟨fun h=>?_,fun h=>?_⟩
 ·have hlt:i<n.domains.length:=qA h
  have hi0:((i:Nat):Int).toNat<n.domains.length:=hlt
  clear h
  rw[List.drop_eq_getElem_cons hlt,Qz]at hI
  have hpl:n.domains[((i:Nat):Int).toNat].peers.length<2147483648:=hn.peers _ (List.getElem_mem hi0)
  refine T ?_
  refine⟨fun h=>?_,fun h=>?_⟩
  ·have hpe:n.domains[i].peers=[]:=List.eq_nil_of_length_eq_zero (by have:=eq_of_beq h;have e:(n.domains[((i:Nat):Int).toNat]'hi0).peers.length=n.domains[i].peers.length:=rfl;omega)
   clear h
   rw[if_pos hpe]at hI
   refine T ?_
   exact A8 (i+1,f) [] ⟨hlt,h2,h3,hI⟩ (by dsimp only;omega) ⟨⟨E,E,E,E,E,E,E,E,E,E,E,E,Y⟩,⟨.inl E,E,Y⟩,E,E⟩
  have hpe:n.domains[i].peers≠[]:=fun e=>by
   have e2:(n.domains[((i:Nat):Int).toNat]'hi0).peers=[]:=e
   rw[e2]at h
   cases h
  clear h
  rw[if_neg hpe]at hI
  dsimp only at hI
  have hpm:=Ahp hr hlt (Aix hpe)
  have qm:=Ad9 (n.domains[((i:Nat):Int).toNat]'hi0).peers (by have:=List.length_pos_iff.2 hpe;exact this) hpl
  obtain ⟨m,hm⟩:∃ m,Zl (n.domains[((i:Nat):Int).toNat]'hi0).peers=m:=⟨_,rfl⟩
  have hm':Zl n.domains[i].peers=m:=hm
  have emin:min (i:Int) m=if m<(i:Int) then m else (i:Int):=by rw[Int.min_def];split<;>split<;>omega
  rw[hm]at qm
  rw[hm']at hI hpm
  rw[emin]at hI
  have hmb:0≤(if m<(i:Int) then m else (i:Int))∧(if m<(i:Int) then m else (i:Int))<n.domains.length:=by split<;>omega
  have q3:=Ajt f i ((n.domains.length:Int)+(if m<(i:Int) then m else (i:Int))) h2 ⟨by omega,by omega⟩ ⟨by omega,by omega⟩ q_
  have q3f:=Uu h2 (⟨by omega,by omega⟩:0≤(i:Int)∧(i:Int).toNat<f.length) (⟨by omega,by omega⟩:0≤(n.domains.length:Int)+(if m<(i:Int) then m else (i:Int))∧((n.domains.length:Int)+(if m<(i:Int) then m else (i:Int))).toNat<f.length)
  have hb48:(n.domains.length:Int)+(if m<(i:Int) then m else (i:Int))<100:=by omega
  generalize (Ma f i ((n.domains.length:Int)+(if m<(i:Int) then m else (i:Int))))=r at *
  obtain ⟨g,ok⟩:=r
  dsimp only at hI q3f
  refine T ?_
  refine C qm F67 ?_
  refine T ?_
  refine X (Ox E E E) ?_
  refine T ?_
  refine X (Aj [(900,1000)] E F68 q3 E W E V) ?_
  cases ok with
  | false =>
   rw[if_pos rfl]at hI
   rw[hI]
   refine T ?_
   exact D
  | true =>
   rw[if_neg j_]at hI
   refine T ?_
   exact A8 (i+1,g) [] ⟨hlt,q3f.1,by dsimp only;omega,hI⟩ (by dsimp only;omega) ⟨⟨E,E,E,E,E,E,E,E,E,E,E,E,Y⟩,⟨.inl E,E,Y⟩,E,E⟩
 ·have hie:i=n.domains.length:=qB h
  clear h
  rw[hie,List.drop_length,Qz]at hI
  rw[hI]
  refine T ?_
  exact D
def M6 (dn lk:Int) (M:List LineM) (n:Net) (row e:Int):List SV:=[.val (.int .u32 dn),.val (.int .i32 lk),.val (.int .u32 0),.sl 17 Au M]++B1 n++[Aa row,Aa e]
def C9 (dn lk:Int) (M:List LineM) (x:Net × Int × Int):Obs:=[(0,.box (M6 dn lk M x.1 x.2.1 x.2.2))]
theorem Ags {n:Net} (h:(meshNT n).2.2=0):(meshNT n).2.1=0:=by
 unfold meshNT at h ⊢
 split
 ·rfl
 rename_i h1
 rw[if_neg h1]at h
 split at h
 ·cases h
 ·rename_i h2
  split at h
  ·cases h
  ·rename_i h3
   rw[if_neg h3]
theorem Abl (M:List LineM) (hM:∀ l∈M,LineW l) (hl:M.length<2147483648) (dn lk:Int):Sy.Spec Tryz.prog 112 [.ptr 0 0] (C9 dn lk M (emptyN,0,0)) (.tup []) (C9 dn lk M (B4 M)):=cT F112 Tryz.ntmps112 fun F hF=>by
 refine T ?_
 refine Cc (fun x:Nat × Net=>x.1≤M.length∧x.2.Fin∧Bp x.2∧B4 M=Cu x.2 (M.drop x.1)) (fun x=>[(0,.ptr 0 0),(9,.sl 17 Au M),(10,Aa M.length),(11,Aa x.1)]) (fun x=>C9 dn lk M (x.2,0,0)) (fun x=>M.length-x.1) (0,emptyN) [] ⟨by omega,Hy,(fun x hx=>by cases hx),rfl⟩ U ?_
 rintro ⟨j,n⟩ ⟨hj,hn,ha,hI⟩
 dsimp only at hj hn ha hI ⊢
 refine T ?_
 refine⟨fun h=>?_,fun h=>?_⟩
 ·have hlt:j<M.length:=qA h
  have hj0:((j:Nat):Int).toNat<M.length:=hlt
  clear h
  have hw:=hM _ (List.getElem_mem hj0)
  have q:=Aiv n hn ha _ hw
  have hp:=Ac7 hn ha hw
  rw[List.drop_eq_getElem_cons hlt,Cu]at hI
  refine T ?_
  refine cD q F206 ?_
  refine T ?_
  refine⟨fun h=>?_,fun h=>?_⟩
  ·have hne:(putT n (M[((j:Nat):Int).toNat]'hj0)).2≠0:=by intro e;rw[e]at h;cases h
   have he:=hp.none hne
   have hI2:B4 M=(emptyN,(M[((j:Nat):Int).toNat]'hj0).row,(putT n (M[((j:Nat):Int).toNat]'hj0)).2):=hI.trans (if_pos hne)
   rw[hI2,← he]
   clear h
   refine T ?_
   exact done E .nil [] (C9 dn lk M ((putT n (M[((j:Nat):Int).toNat]'hj0)).1,(M[((j:Nat):Int).toNat]'hj0).row,(putT n (M[((j:Nat):Int).toNat]'hj0)).2)) (fun _ h=>h) E E U
  ·have he:(putT n (M[((j:Nat):Int).toNat]'hj0)).2=0:=by simpa using h
   have hI2:B4 M=Cu (putT n (M[((j:Nat):Int).toNat]'hj0)).1 (M.drop (j+1)):=hI.trans (if_neg (fun hh=>hh he))
   clear h
   refine T ?_
   exact A8 (j+1,(putT n (M[((j:Nat):Int).toNat]'hj0)).1) [] ⟨hlt,hp.fin,hp.addrs,hI2⟩ (by dsimp only;omega) ⟨⟨E,E,E,E,E,E,E,E,Y⟩,⟨.inl (congrArg (fun e:Int=>Ob.box (M6 dn lk M (putT n (M[((j:Nat):Int).toNat]'hj0)).1 0 e)) he.symm),E,Y⟩,E,E⟩
 ·have hje:j=M.length:=qB h
  clear h
  rw[hje,List.drop_length,Cu]at hI
  rw[hI]
  have qm:=meshS n hn
  have hf:=finishT.eq_1 n
  refine T ?_
  refine C qm F23 ?_
  refine T ?_
  refine⟨fun h=>?_,fun h=>?_⟩
  ·have hne:(meshNT n).2.2≠0:=by intro e;rw[e]at h;cases h
   rw[if_pos hne]at hf
   rw[hf]
   clear h
   refine T ?_
   exact done E .nil [] (C9 dn lk M (meshNT n)) (fun _ h=>h) E E U
  have he:(meshNT n).2.2=0:=by simpa using h
  clear h
  have hrow:(meshNT n).2.1=0:=Ags he
  rw[if_neg (by rw[he];decide)]at hf
  have ql:=loopS (meshNT n).1 (Wo hn)
  refine T ?_
  refine C ql F24 ?_
  refine T ?_
  refine⟨fun h=>?_,fun h=>?_⟩
  ·rw[if_pos h]at hf
   rw[hf]
   clear h
   refine T ?_
   refine Am 0 (M6 dn lk M emptyN (loopT (meshNT n).1).1 38) E (.cons (.refl _) (.cons (.refl _) (.cons (.refl _) (.cons (.refl _) (.cons .nil (.cons .nil (.cons .nil (.cons .nil (.cons .nil (.cons .nil (.cons .nil (.cons .nil (.cons (.refl _) (.cons (.refl _) .nil)))))))))))))) ?_
   exact Ch E .nil [] (C9 dn lk M (emptyN,(loopT (meshNT n).1).1,38)) (fun _ h=>h) E E U
  ·rw[if_neg (by rw[h];decide)]at hf
   rw[hf]
   clear h
   refine T ?_
   exact Ch E .nil [] (C9 dn lk M ((meshNT n).1,0,0)) (fun _ h=>h) E E ⟨Y,⟨.inl (congrArg (fun a:Int × Int=>Ob.box (M6 dn lk M (meshNT n).1 a.1 a.2)) (Prod.ext hrow.symm he.symm:((0:Int),(0:Int))=(meshNT n).2)),E,Y⟩,E,E⟩
theorem Adf (a:Addr) (x:Int) (w:World) (hc:w.cell? a=some (.int .u32 x)):(callFunc 276 #[.pointer (some a)]).run Tryz.prog w=.ok (.value (.int .u32 x)) w :=
 run_call_load Tryz.func276 z_ z_ z_ .u32 z_ hc
theorem L2 (w:World):(callFunc 396 #[]).run Tryz.prog w=.ok (.value (.tuple #[])) w:=run_call_mark0 Tryz.func396 z_ z_ z_ .disable z_ w
theorem Og (w:World):(callFunc 398 #[]).run Tryz.prog w=.ok (.value (.tuple #[])) w:=run_call_mark0 Tryz.func398 z_ z_ z_ .enable z_ w
theorem Vn (a:Addr) (w:World):(callFunc 399 #[.pointer (some a)]).run Tryz.prog w=.ok (.value (.tuple #[])) w:=run_call_marked Tryz.func399 z_ z_ z_ .acquire z_ a w
theorem Vm (a:Addr) (w:World):(callFunc 401 #[.pointer (some a)]).run Tryz.prog w=.ok (.value (.tuple #[])) w:=run_call_marked Tryz.func401 z_ z_ z_ .releaseMerge z_ a w
theorem Tg (a:Addr) (x:Value) (u:FrameMode) (w:World) (hc:w.cell? a=some x) (hz:w.frozen? a=false) :
  CallsD Tryz.prog 279 #[.pointer (some a),.bool true] u w fun e u' w'=>u'=u∧(e=.returned (.tuple #[])∧w'=w.drew.setCell a (.int .u32 1)):=by
 have hc':w.drew.cell? a=some x:=by go_simp
 have hz':w.drew.frozen? a=false:=by go_simp
 have hst:=run_call_store (P:=Tryz.prog) Tryz.func335 z_ z_ z_ z_ (k:=.u32) (y:=1) hc' hz'
 go_enter_d Tryz.func279,Tryz.ntmps279
 go_wp2
 go_region_calls
 all_goals (go_end0;exact⟨rfl,rfl⟩)
theorem Qo (a:Addr) (u:FrameMode) (w:World) (hc:w.cell? a=some (.int .i32 1)) (hz:w.frozen? a=false) :
  CallsD Tryz.prog 278 #[.pointer (some a)] u w fun e u' w'=>u'=u∧(e=.returned (.tuple #[])∧w'=w.setCell a (.int .i32 0)):=by
 have hd:=L2
 have he:=Og
 have hr:=Vm
 have hadd:=run_call_add (P:=Tryz.prog) Tryz.func402 z_ z_ z_ .i32 z_ (y:=-1) (s:=0) hc hz (by simp[go_sem];rfl)
 have hcv:=run_convert_to_unsafe (P:=Tryz.prog) (src:=388) (dst:=380) Tryz.underlying388 Tryz.underlying380 z_ hc
 go_enter_d Tryz.func278,Tryz.ntmps278
 go_wp2
 go_end0
 go_wp2
 go_end0
 exact⟨E,E⟩
theorem Ab2 (a:Addr) (w:World) (hc:w.cell? a=some (.int .i32 0)) (hz:w.frozen? a=false) :
  Calls Tryz.prog 277 #[.pointer (some a)] w fun e w'=>e=.returned (.tuple #[])∧w'=w.setCell a (.int .i32 1):=by
 have hd:=L2
 have he:=Og
 have ha:=Vn
 have hcas:=run_call_cas_hit (P:=Tryz.prog) Tryz.func397 z_ z_ z_ .i32 z_ (y:=1) hc hz
 have hc':(w.setCell a (.int .i32 1)).cell? a=some (.int .i32 1):=World.cell?_setCell_same w a _ hc
 have hcv:=run_convert_to_unsafe (P:=Tryz.prog) (src:=388) (dst:=380) Tryz.underlying388 Tryz.underlying380 z_ hc'
 go_enter Tryz.func277,Tryz.ntmps277
 go_wp2
 first | go_end0 | (simp only[Exit.inBlock,Exit.then];refine bodyPost_ret (results_none rfl _ _ _) rfl ?_) | refine bodyPost_ret (results_none rfl _ _ _) rfl ?_
 go_wp2
 go_end0
 exact⟨E,E⟩
theorem Ctx.behindN {K:Nat→Prop} {κ κ2:Ka} {w w1 w2:World} (s:Step K κ w κ w1) (c:Ctx ⟨w1,κ,[]⟩ κ2 w2):Ctx ⟨w,κ,[]⟩ κ2 w2 where
 size:=Nat.le_trans s.size c.size
 os:=c.os.trans s.os
 tape:=c.tape.trans s.tape
 output:=c.output.trans s.output
 M:=c.M
 old:=fun b hb h=>by
  refine(c.old b (Nat.lt_of_lt_of_le hb s.size) h).trans ?_
  by_cases hm:κ.M b
  ·exact s.mkeep b hm
  ·exact s.blk b hb (fun ho=>by
    rcases ho with ⟨k,hk⟩ | ho
    ·exact h k hk
    ·exact hm ho)
 own:=fun k b hk=>by
  rcases c.own k b hk with h | h
  ·exact .inl (Nat.le_trans s.size h)
  ·exact .inr h
 nam:=c.nam
theorem Ach {κ:Ka} {w:World} (hi:Inv κ w):Step (fun _=>False) κ w κ w.drew∧Inv κ w.drew:=by
 have g:=Grew.drew w
 exact⟨⟨g.size,g.os,g.tape,g.output,E,fun b _=>rfl,fun b _ _=>rfl,fun _ _ _ _=>rfl,fun _ _=>rfl,fun _ h=>h.elim,fun _ h=>.inl h⟩,⟨hi.inj,hi.bnd,hi.apart,hi.mbnd⟩⟩
theorem Aea (M:List LineM) (hM:∀ l∈M,LineW l) (hl:M.length<2147483648) :
  Sy.Spec Tryz.prog 205 [.ptr 0 0,.clo (.func 112) [.ptr 0 0] []] (C9 0 0 M (emptyN,0,0)) (.tup []) (C9 1 0 M (B4 M)):=by
 intro κ w vs hi hnew hvs hok
 have o1:=hok (0,.box (M6 0 0 M emptyN 0 0)) (by simp[C9])
 obtain ⟨b,e1,c1,c2,st1,inv1,ob1⟩:=Im (off:=1) (x:=.val (.int .i32 1)) (v:=.int .i32 1) hi o1 rfl (fun _ _=>by simp only[Rd]) rfl
 simp only[RdL,Rd,e1]at hvs
 obtain ⟨v0,r0,rfl,rfl,v1,r1,rfl,⟨fs,cs,rfl,hfs,hcs⟩,rfl⟩:=hvs
 obtain ⟨p3,q3,rfl,rfl,rfl⟩:=hfs
 subst hcs
 have hcl:=Abl M hM hl 0 1 κ (w.setCell ⟨b,1,none⟩ (.int .i32 1)) [.pointer (some ⟨b,0,none⟩)] inv1 hnew (by simp only[RdL,Rd,e1];exact⟨_,_,rfl,rfl,rfl⟩) (fun p hp=>by
  simp only[C9,List.mem_cons,List.not_mem_nil,or_false]at hp
  rw[hp]
  exact ob1)
 obtain ⟨u1,hu1,hr1⟩:=c1 0 (.val (.int .u32 0)) rfl
 obtain ⟨u2,hu2,hr2⟩:=c1 1 (.val (.int .i32 0)) rfl
 rw[hr1.val]at hu1
 rw[hr2.val]at hu2
 have f1:=c2 0 (show 0<14 by decide)
 have f2:=c2 1 (show 1<14 by decide)
 have hl:=Adf ⟨b,0,none⟩ 0 (w.setCell ⟨b,1,none⟩ (.int .i32 1)) ((World.cell?_setCell_other _ ⟨b,1,none⟩ ⟨b,0,none⟩ _ y_).trans hu1)
 have hnot:∀ (x:Bool) (w:World),(Op.unary .not (.bool x)).run Tryz.prog w=.ok (.bool (!x)) w:=fun _ _=>rfl
 go_enter_defers Tryz.func205,Tryz.ntmps205
 go_wp2_with (first | (go_at_call 277;refine(Ab2 ⟨b,1,none⟩ _ (by assumption) (by assumption)).mono ?_;rintro e w' ⟨rfl,rfl⟩) | (go_at_call 112;refine hcl.mono ?_;rintro e w' ⟨v,κ2,rfl,hc2,hi2,hv2,ok2⟩) | (go_at_call 204;go_in))
 have p1:=ok2 (0,.box (M6 0 1 M (B4 M).1 (B4 M).2.1 (B4 M).2.2)) (by simp[C9])
 have k1:κ2 0=.blk b:=by
  obtain ⟨bb,_,_,_,q1,_⟩:=id p1
  rcases hc2.nam 0 (by rw[e1];intro h;cases h) with h | h
  ·rw[h];exact e1
  ·rw[h]at q1;cases q1
 obtain ⟨ba,a1,a2,a3,_,_,_⟩:=Im (off:=0) (x:=.val (.int .u32 1)) (v:=.int .u32 1) hi2 p1 rfl (fun _ _=>by simp only[Rd]) rfl
 rw[k1]at a1
 cases a1
 obtain ⟨std,invd⟩:=Ach hi2
 have p2:=ObOK.step std (k:=0) (fun h=>h) _ p1
 obtain ⟨ba,a1,_,_,st3,inv3,ob3⟩:=Im (off:=0) (x:=.val (.int .u32 1)) (v:=.int .u32 1) invd p2 rfl (fun _ _=>by simp only[Rd]) rfl
 rw[k1]at a1
 cases a1
 have ob3:ObOK κ2 (w'.drew.setCell ⟨b,0,none⟩ (.int .u32 1)) 0 (.box (M6 1 1 M (B4 M).1 (B4 M).2.1 (B4 M).2.2)):=ob3
 obtain ⟨ba,a1,a4,a5,st4,inv4,ob4⟩:=Im (off:=1) (x:=.val (.int .i32 0)) (v:=.int .i32 0) inv3 ob3 rfl (fun _ _=>by simp only[Rd]) rfl
 rw[k1]at a1
 cases a1
 have ob4:ObOK κ2 ((w'.drew.setCell ⟨b,0,none⟩ (.int .u32 1)).setCell ⟨b,1,none⟩ (.int .i32 0)) 0 (.box (M6 1 0 M (B4 M).1 (B4 M).2.1 (B4 M).2.2)):=ob4
 obtain ⟨v1,hv1,hr1⟩:=a2 0 (.val (.int .u32 0)) rfl
 rw[hr1.val]at hv1
 obtain ⟨v2,hv2,hr2⟩:=a4 1 (.val (.int .i32 1)) rfl
 rw[hr2.val]at hv2
 refine leaves_cons (f:=279) (args:=#[.pointer (some ⟨b,0,none⟩),.bool true]) y_ (by simp[go_sem]) ?_
 refine(Tg ⟨b,0,none⟩ (.int .u32 0) .returning _ hv1 (a3 0 (show 0<14 by decide))).mono ?_
 rintro e u' w'' ⟨rfl,rfl,rfl⟩
 refine leaves_cons (f:=278) (args:=#[.pointer (some ⟨b,1,none⟩)]) (by simp[settle]) (by simp[go_sem]) ?_
 refine(Qo ⟨b,1,none⟩ _ _ hv2 (a5 1 (show 1<14 by decide))).mono ?_
 rintro e u' w'' ⟨rfl,rfl,rfl⟩
 have hst:Step (·=0) κ2 w' κ2 ((w'.drew.setCell ⟨b,0,none⟩ (.int .u32 1)).setCell ⟨b,1,none⟩ (.int .i32 0)):=(std.weaken (fun _ h=>h.elim)).trans (st3.trans st4)
 refine⟨.tuple #[],by simp[results,Tryz.results205],.tuple #[],κ2,E,Ctx.behindN st1 (hc2.step inv4 hst),inv4,⟨[],E,E⟩,fun p hp=>?_⟩
 simp only[C9,List.mem_cons,List.not_mem_nil,or_false]at hp
 rw[hp]
 exact ob4
theorem Aeb (M:List LineM) (dn lk:Int) (x:Net × Int × Int):Sy.Spec Tryz.prog 204 [.ptr 0 0] (C9 dn lk M x) (Ab (dn != 0)) (C9 dn lk M x):=cT F204 Tryz.ntmps204 fun F hF=>by
 ((conv=>whnf);repeat((first|refine aF ?_|refine aT ?_);(first|refine rG Γ hm ?_|refine rD Γ hm z_ ?_);conv=>whnf))
 refine A2 (V0 Adf E E E E) E E ?_
 ((first|refine rG Γ hm ?_|refine rD Γ hm z_ ?_);(conv=>whnf);repeat((first|refine aF ?_|refine aT ?_);(first|refine rG Γ hm ?_|refine rD Γ hm z_ ?_);conv=>whnf))
 exact done E (.cons .tmp .nil) [] (C9 dn lk M x) (fun _ h=>h) E E U
theorem Ail (M:List LineM) (hM:∀ l∈M,LineW l) (hl:M.length<2147483648) :
  Sy.Spec Tryz.prog 111 [.ptr 0 0,.clo (.func 112) [.ptr 0 0] []] (C9 0 0 M (emptyN,0,0)) (.tup []) (C9 1 0 M (B4 M)):=cT F111 Tryz.ntmps111 fun F hF=>by
 have q1:Sy.Spec Tryz.prog 204 [.ptr 0 0] (C9 0 0 M (emptyN,0,0)) (Ab false) (C9 0 0 M (emptyN,0,0)):=Aeb M 0 0 (emptyN,0,0)
 have q2:=Aea M hM hl
 ((conv=>whnf);repeat((first|refine aF ?_|refine aT ?_);(first|refine rG Γ hm ?_|refine rD Γ hm z_ ?_);conv=>whnf))
 refine X (Aj [] E F204 q1 E W E V) ?_
 ((first|refine rG Γ hm ?_|refine rD Γ hm z_ ?_);(conv=>whnf);repeat((first|refine aF ?_|refine aT ?_);(first|refine rG Γ hm ?_|refine rD Γ hm z_ ?_);conv=>whnf))
 refine X (Aj [] E F205 q2 E W E V) ?_
 ((first|refine rG Γ hm ?_|refine rD Γ hm z_ ?_);(conv=>whnf);repeat((first|refine aF ?_|refine aT ?_);(first|refine rG Γ hm ?_|refine rD Γ hm z_ ?_);conv=>whnf))
 exact Ch E .nil [] (C9 1 0 M (B4 M)) (fun _ h=>h) E E U
theorem Af3 (M:List LineM) (hM:∀ l∈M,LineW l) (hl:M.length<2147483648):Sy.Spec Tryz.prog 33 [.ptr 0 0] (C9 0 0 M (emptyN,0,0)) (.tup [Ae (B4 M).1,Aa (B4 M).2.1,Aa (B4 M).2.2]) (C9 1 0 M (B4 M)):=cT F33 Tryz.ntmps33 fun F hF=>by
 have q:=Ail M hM hl
 refine T ?_
 refine X (Aj [] E F111 q E W E V) ?_
 refine T ?_
 exact done E (.cons (.cell E E E E) (.cons .tmp (.cons .tmp .nil))) [] (C9 1 0 M (B4 M)) (fun _ h=>h) E E U
theorem Aes (M:List LineM) (hM:∀ l∈M,LineW l) (hl:M.length<2147483648):Sy.Spec Tryz.prog 13 [.sl 17 Au M] [] (.tup [Ae (B4 M).1,Aa (B4 M).2.1,Aa (B4 M).2.2]) []:=cT F13 Tryz.ntmps13 fun F hF=>by
 have q:=Af3 M hM hl
 refine T ?_
 refine Am 8 (M6 0 0 M emptyN 0 0) E (.cons (.refl _) (.cons (.refl _) (.cons (.refl _) (.cons (.refl _) (.cons .nil (.cons .nil (.cons .nil (.cons .nil (.cons .nil (.cons .nil (.cons .nil (.cons .nil (.cons (.refl _) (.cons (.refl _) .nil)))))))))))))) ?_
 refine X (Aj [(0,8)] E F33 q E W E V) ?_
 refine T ?_
 exact D
end Go.Sy.YtjenpnjajjplkaaGreatDoor
namespace Go.Sy.YtjenpnjajjplkaaGreatDoor
open Go.Proofs
set_option maxHeartbeats 4000000
structure LineR (l:LineM):Prop where
 right:B0 l=true
 ok:LineOK l
 vlan:0≤l.vlan∧l.vlan≤4094
 num:0≤l.num∧l.num≤16777215
 cost:0≤l.cost∧l.cost≤65535
 bits:0≤l.bits∧l.bits≤32
 tagged:D9 l.tagged 4094=true
 imports:D9 l.imports 65535=true
 exports:D9 l.exports 65535=true
 addrs:l.addrs.length≤16
 dev:l.dev.size≤12
 port:l.port.size≤12
 peer:l.peer.size≤12
 far:l.far.size≤12
 name:l.name.size≤12
theorem Abp (l:LineM) (r:Int):B0 { l with row:=r }=B0 l:=by
 by_cases h1:l.kind=1
 ·simp[B0,A9,I2,h1]
 by_cases h2:l.kind=2
 ·simp[B0,A9,I2,h1,h2]
 by_cases h3:l.kind=3
 ·simp[B0,A9,I2,h1,h2,h3]
 by_cases h4:l.kind=4
 ·simp[B0,A9,I2,h1,h2,h3,h4]
 by_cases h5:l.kind=5
 ·simp[B0,A9,I2,h1,h2,h3,h4,h5]
 by_cases h6:l.kind=6
 ·simp[B0,A9,I2,h1,h2,h3,h4,h5,h6]
 by_cases h7:l.kind=7
 ·simp[B0,A9,I2,h1,h2,h3,h4,h5,h6,h7]
 by_cases h8:l.kind=8
 ·simp[B0,A9,I2,h1,h2,h3,h4,h5,h6,h7,h8]
 by_cases h9:l.kind=9
 ·simp[B0,A9,I2,h1,h2,h3,h4,h5,h6,h7,h8,h9]
 simp[B0,A9,I2,h1,h2,h3,h4,h5,h6,h7,h8,h9]
theorem LineR.row {l:LineM} (h:LineR l) (r:Int):LineR { l with row:=r } :=
 ⟨by rw[Abp];exact h.right,⟨h.ok.mac,h.ok.addr,h.ok.addrs⟩,h.vlan,h.num,h.cost,h.bits,h.tagged,h.imports,h.exports,h.addrs,h.dev,h.port,h.peer,h.far,h.name⟩
end Go.Sy.YtjenpnjajjplkaaGreatDoor
namespace Go.Sy.YtjenpnjajjplkaaGreatDoor
open Go.Proofs
attribute [local irreducible] Go.Sy.G Go.Sy.DR
set_option maxRecDepth 100000
set_option maxHeartbeats 4000000
theorem Ai8 {l:List LineM} (h:linesGreat l=false):∀ x∈l,LineOK x→LineW x:=by
 intro x hx ho
 refine⟨Ae4 h x hx,ho,?_,?_,?_,?_,?_⟩
 all_goals
  rw[linesGreat]at h
  split at h
  ·cases h
  ·have:=Ku l 0 h x hx
   simp only[L7,List.forall_mem_cons]at this
   omega
theorem Ag6 (a b:ByteArray):(Ct [a,b] ⟨#[32]⟩).size≤a.size+b.size+2:=by
 have:=Jo [a,b] ⟨#[32]⟩
 have e1:Lz [a,b]=a.size+(b.size+0):=rfl
 have e:(⟨#[32]⟩:ByteArray).size * [a,b].length=2:=rfl
 omega
theorem Uv (a b c:ByteArray):(Ct [a,b,c] ⟨#[32]⟩).size≤a.size+b.size+c.size+3:=by
 have:=Jo [a,b,c] ⟨#[32]⟩
 have e1:Lz [a,b,c]=a.size+(b.size+(c.size+0)):=rfl
 have e:(⟨#[32]⟩:ByteArray).size * [a,b,c].length=3:=rfl
 omega
theorem Su {s:ByteArray} (h:Be s=true):s.size≤12:=by
 simp only[Be,Bool.and_eq_true,decide_eq_true_eq]at h
 exact h.2
theorem Ss {n:Net} (h:NameK n):Hc n:=by
 refine⟨fun d hd=>?_,fun p hp=>?_⟩
 ·obtain ⟨i,hi,rfl⟩:=List.getElem_of_mem hd
  have:=(h.dev i hi).1
  rw[Ad (l:=n.devices) (i:=((i:Nat):Int)) hi]at this
  have h2:=Su this
  show n.devices[i].name.size≤300
  have e:(n.devices[((i:Nat):Int).toNat]'hi).name.size=n.devices[i].name.size:=rfl
  omega
 ·obtain ⟨i,hi,rfl⟩:=List.getElem_of_mem hp
  have:=(h.prt i hi).1
  rw[Ad (l:=n.ports) (i:=((i:Nat):Int)) hi]at this
  have h2:=Su this
  have e:(n.ports[((i:Nat):Int).toNat]'hi).name.size=n.ports[i].name.size:=rfl
  omega
theorem V3 {n:Net} (hu:Bp n) (hk:NameK n) (f t:Int) (hc:(explainT n f t).2=0):(explainT n f t).1.length≤1000∧∀ x∈(explainT n f t).1,x.size<100000:=by
 have hnm:=Ss hk
 rw[explainT]at hc ⊢
 split at hc
 ·cases hc
 rename_i hr
 rw[if_neg hr]
 split at hc
 ·cases hc
 rename_i h2
 rw[if_neg h2]
 obtain ⟨w1,w2,_,hr⟩:=T0 (n:=n) hu (from_:=f) (to:=t) (by simpa using h2)
 have hfew:=(Wz hr).2.2.2.1
 dsimp only
 refine⟨by simp only[List.length_cons,List.length_append,List.length_map,List.length_drop,List.length_nil];omega,fun x hx=>?_⟩
 have hd:=fun i=>Q9 hnm i
 have hp:=fun i=>H5 hnm i
 rcases List.mem_cons.1 hx with rfl | hx
 ·have h1:=Uv tFrom (Bj n f) (Cj n (nth (wayT n f t).1 0).domain)
  have h2:=hp f
  have h3:=hd (nth (wayT n f t).1 0).domain
  have h4:tFrom.size=4:=rfl
  show (Ct [tFrom,Bj n f,Cj n (nth (wayT n f t).1 0).domain] ⟨#[32]⟩).size<100000
  omega
 rcases List.mem_append.1 hx with hx | hx
 ·obtain ⟨h,hh,rfl⟩:=List.mem_map.1 hx
  have hok:=w1 h (List.mem_of_mem_drop hh)
  have h3:=hd h.domain
  rw[rowT]
  split
  ·have h1:=Jo [Kc,Bj n h.port,Bj n (Bu n h.port),Cj n h.domain] ⟨#[32]⟩
   have h2:=hp h.port
   have h4:=hp (Bu n h.port)
   have e:Lz [Kc,Bj n h.port,Bj n (Bu n h.port),Cj n h.domain]=4+((Bj n h.port).size+((Bj n (Bu n h.port)).size+((Cj n h.domain).size+0))):=rfl
   have e2:(⟨#[32]⟩:ByteArray).size * [Kc,Bj n h.port,Bj n (Bu n h.port),Cj n h.domain].length=4:=rfl
   omega
  split
  ·have h1:=Uv tMesh (Dx (nth n.domains h.domain).vni) (Cj n h.domain)
   have h2:(Dx (nth n.domains h.domain).vni).size≤19:=Qx (by
    have:=(Ce hr hok.1.2).2.2.1
    rw[← Ad hok.1.2]at this
    omega)
   have h4:tMesh.size=4:=rfl
   omega
  ·have h1:=Uv tRoute (D0 h.addr) (Cj n h.domain)
   have h2:=Aax h.addr
   have h4:tRoute.size=5:=rfl
   omega
 ·rw[List.mem_singleton.1 hx]
  have h1:=Ag6 tTo (Bj n t)
  have h2:=hp t
  have h4:tTo.size=2:=rfl
  show (Ct [tTo,Bj n t] ⟨#[32]⟩).size<100000
  omega
theorem U5 (M:List LineM) (hM:∀ z∈M,LineOK z) (f t:Int) (rows:List ByteArray):Sy.Spec Tryz.prog 8 [.sl 17 Au M,Aa f,Aa t,.sl 1 Ak rows] [] (Ab true) []:=cT F8 Tryz.ntmps8 fun F hF=>by
 have qw:=Afr
 by_cases c0:100<M.length
 ·have f0:decide ((M.length:Int)>100)=true:=decide_eq_true q_
  refine T ?_
  refine C qw F26 ?_
  refine T ?_
  exact D
 have f0:decide ((M.length:Int)>100)=false:=decide_eq_false q_
 have qg:=Zs M q_
 cases hg:linesGreat M with
 | true =>
  rw[hg]at qg
  refine T ?_
  refine C qw F26 ?_
  refine T ?_
  refine C qg F11 ?_
  refine T ?_
  exact D
 | false =>
 rw[hg]at qg
 have qg2:=Ahe emptyN rows
 cases hg2:great44B emptyN rows with
 | true =>
  rw[hg2]at qg2
  refine T ?_
  refine C qw F26 ?_
  refine T ?_
  refine C qg F11 ?_
  refine T ?_
  refine Aib 32 (Ae emptyN) (.agg (.cons .nil (.cons .nil (.cons .nil (.cons .nil (.cons .nil (.cons .nil (.cons .nil (.cons .nil .nil))))))))) ?_
  refine C qg2 F27 ?_
  refine T ?_
  exact D
 | false =>
 rw[hg2]at qg2
 obtain ⟨_,_,hrl,hsz⟩:=Vv hg2
 have wM:∀ z∈M,LineW z:=fun z hz=>Ai8 hg z hz (hM z hz)
 have q1:=Aes M wM q_
 have hbb:=Vc M emptyN Hy (fun x hx=>(by cases hx)) wM
 have hbn:=Ta M emptyN Aaf
 clear hg hg2 hM
 have hb1:B4 M=Cu emptyN M:=rfl
 rw[← hb1]at hbb hbn
 generalize B4 M=r at *
 obtain ⟨n,row,e⟩:=r
 dsimp only at hbb hbn q1
 refine T ?_
 refine C qw F26 ?_
 refine T ?_
 refine C qg F11 ?_
 refine T ?_
 refine Aib 32 (Ae emptyN) (.agg (.cons .nil (.cons .nil (.cons .nil (.cons .nil (.cons .nil (.cons .nil (.cons .nil (.cons .nil .nil))))))))) ?_
 refine C qg2 F27 ?_
 refine T ?_
 refine C q1 F13 ?_
 by_cases e0:e=0
 ·have g0:(e != 0)=false:=by rw[e0];rfl
  obtain ⟨hn,hu⟩:=hbb e0
  have hk:=hbn e0
  have hnm:=Ss hk
  have q2:=S2 n hn hu hnm f t
  have hA:=Yi (n:=n) hk hu (p:=f) (q:=t)
  have hS:=V3 hu hk f t
  have q4:=Ye n hn hnm rows (by show rows.length<_;omega) hsz Bv (fun s hs=>Lk s hs)
  obtain ⟨hB1,hB2⟩:=Afe hu (n:=n) (rd:=Bv) (rows:=rows) (fun s=>⟨Aaw s,Acw s⟩)
  have hB3:=Aao (n:=n) (rd:=Bv) (rows:=rows)
  have q3:=fun hl hs=>Ye n hn hnm (explainT n f t).1 hl hs Bv (fun s hs=>Lk s hs)
  generalize hC:checkR n Bv rows=c at *
  obtain ⟨a,b,ok⟩:=c
  dsimp only at hB1 hB2 hB3 q4
  have q5:=wayS n hn hu a b
  generalize hW:wayT n a b=w at *
  obtain ⟨hops,is⟩:=w
  dsimp only at hB1 q5
  clear hbb hbn wM
  generalize hX:explainT n f t=x at *
  obtain ⟨ex,ec⟩:=x
  dsimp only at hA hS q2 q3
  have fB:ok=false→(a == 0)=true∧(b == 0)=true:=fun h=>by
   obtain ⟨h1,h2⟩:=hB2 h
   rw[h1,h2];exact⟨rfl,rfl⟩
  by_cases k1:ec=0
  ·have g1:(ec == 0)=true:=by rw[beq_iff_eq];exact k1
   have q3:=q3 (by show ex.length<2147483648;have:=(hS k1).1;omega) (hS k1).2
   rw[hA k1]at q3
   dsimp only at q3
   have f1:(f != f)=false:=by simp
   have f2:(t != t)=false:=by simp
   refine T ?_
   refine C q2 F28 ?_
   refine T ?_
   refine C q3 F29 ?_
   refine T ?_
   refine C q4 F29 ?_
   cases ok with
   | false =>
    obtain ⟨g2,g3⟩:=fB rfl
    refine T ?_
    exact At E (.cons .tmp .nil) (congrArg Ab g3.symm) E
   | true =>
    obtain ⟨h1,h2⟩:=hB1 rfl
    have h3:=(hB3 rfl).1
    subst h1
    have g4:decide ((hops.length:Int)≤(rows.length:Int)-1)=true:=decide_eq_true q_
    refine T ?_
    refine C q5 F30 ?_
    refine T ?_
    exact At E (.cons .tmp .nil) (congrArg Ab g4.symm) E
  ·have g1:(ec == 0)=false:=by rw[beq_eq_false_iff_ne];exact k1
   refine T ?_
   refine C q2 F28 ?_
   refine T ?_
   refine C q4 F29 ?_
   cases ok with
   | false =>
    obtain ⟨g2,g3⟩:=fB rfl
    refine T ?_
    exact At E (.cons .tmp .nil) (congrArg Ab g3.symm) E
   | true =>
    obtain ⟨h1,h2⟩:=hB1 rfl
    have h3:=(hB3 rfl).1
    subst h1
    have g4:decide ((hops.length:Int)≤(rows.length:Int)-1)=true:=decide_eq_true q_
    refine T ?_
    refine C q5 F30 ?_
    refine T ?_
    exact At E (.cons .tmp .nil) (congrArg Ab g4.symm) E
 ·have g0:(e != 0)=true:=by rw[bne_iff_ne];exact e0
  refine T ?_
  exact D
end Go.Sy.YtjenpnjajjplkaaGreatDoor
