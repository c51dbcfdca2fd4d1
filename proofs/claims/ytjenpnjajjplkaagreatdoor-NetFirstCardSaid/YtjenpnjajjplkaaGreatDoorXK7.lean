/-
  NB7 NB8 NB9 NB10 NB11 NB12 NB13 NB16 NB17 NB18 NB19 I50 NB20 I22 I23 I24 I62 I25 NB21: parts of a proof, joined by program.
-/
import Derived.Test.YtjenpnjajjplkaaGreatDoorXK6
import Derived.Test.YtjenpnjajjplkaaGreatDoorXK5
import Derived.Test.YtjenpnjajjplkaaGreatDoorXK2
import Derived.Tactics
import Derived.Tactics2
import Derived.Defers
import Derived.Laws.Pointers
import Derived.Laws.LoneSync
import Derived.RegionTactic
import Derived.RegionCalls
import Derived.ChangeAlike
import Derived.Laws.NewBlocks
set_option linter.all false
set_option linter.unusedVariables false
set_option linter.unusedSimpArgs false
set_option linter.deprecated false
namespace Go.Sy.YtjenpnjajjplkaaGreatDoor
open Go.Proofs
attribute [local irreducible] Go.Sy.G Go.Sy.DR
set_option maxRecDepth 100000
set_option maxHeartbeats 4000000
theorem Wj (n:Net) (hn:n.Fin) (hr:Af n=true) (dev port:ByteArray):Sy.Spec Tryz.prog 344 [Ao n,Ah dev,Ah port] [] (Aa (endI n dev port)) []:=cT F344 Tryz.ntmps344 fun F hF=>by
 have q1:=Eb n hn hr dev
 have q2:=Lb n hn hr (Bi n dev) port
 have hres:=endI.eq_1 n dev port
 generalize endI n dev port=res at *
 generalize La n (Bi n dev) port=pt at *
 generalize Bi n dev=d at *
 by_cases h:d<0
 ·have g:decide (d<0)=true:=decide_eq_true h
  rw[if_pos h]at hres
  subst hres
  refine T ?_
  refine C q1 F340 ?_
  exact D
 ·have g:decide (d<0)=false:=decide_eq_false h
  rw[if_neg h]at hres
  subst hres
  refine T ?_
  refine C q1 F340 ?_
  refine C q2 F341 ?_
  exact D
theorem end_range {n:Net} {dev port:ByteArray} (h:¬ endI n dev port<0):∃ k:Nat,endI n dev port=k∧k<n.ports.length:=by
 unfold endI at h ⊢
 split
 ·rename_i h1;rw[if_pos h1]at h;omega
 ·rename_i h1;rw[if_neg h1]at h;exact Ep h
theorem Acw (n:Net) (hn:n.Fin) (l:LineM) (hl:LineW l):Sy.Spec Tryz.prog 282 [Ao n,Aj l] [] (.tup [Ao (putLink n l).1,Aa (putLink n l).2]) []:=cT F282 Tryz.ntmps282 fun F hF=>by
 have qr:=En l hl
 have qn:=Bn n hn
 have qcopy:=Jc n hn
 have hres:=putLink.eq_1 n l
 dsimp only at hres
 have hf:=fitsB.eq_1 n l 3
 generalize putLink n l=res at *
 generalize fitsB n l 3=f at *
 cases h1:(l.kind == 3) with
 | false =>
  have g1:(l.kind != 3)=true:=by rw[bne,h1];rfl
  rw[h1,Bool.false_and]at hf
  rw[hf,if_pos rfl]at hres
  subst hres
  refine T ?_
  refine Ae 4 (B1 emptyN) E (.cons .nil (.cons .nil (.cons .nil (.cons .nil (.cons .nil (.cons .nil (.cons .nil (.cons .nil .nil)))))))) ?_
  refine T ?_
  exact D
 | true =>
 have g1:(l.kind != 3)=false:=by rw[bne,h1];rfl
 rw[h1,Bool.true_and]at hf
 cases h2:Bk l with
 | false =>
  rw[h2]at qr hf
  rw[hf,Bool.false_and,if_pos rfl]at hres
  subst hres
  refine T ?_
  refine C qr F343 ?_
  refine Ae 4 (B1 emptyN) E (.cons .nil (.cons .nil (.cons .nil (.cons .nil (.cons .nil (.cons .nil (.cons .nil (.cons .nil .nil)))))))) ?_
  refine T ?_
  exact D
 | true =>
 rw[h2]at qr hf
 cases hr:Af n with
 | false =>
  rw[hr]at qn hf
  rw[hf,Bool.and_false,if_pos rfl]at hres
  subst hres
  refine T ?_
  refine C qr F343 ?_
  refine C qn F25 ?_
  refine Ae 4 (B1 emptyN) E (.cons .nil (.cons .nil (.cons .nil (.cons .nil (.cons .nil (.cons .nil (.cons .nil (.cons .nil .nil)))))))) ?_
  refine T ?_
  exact D
 | true =>
 rw[hr]at qn hf
 rw[hf,if_neg y_]at hres
 have q1:=Wj n hn hr l.dev l.port
 have q2:=Wj n hn hr l.peer l.far
 have ra:=@end_range n l.dev l.port
 have rb:=@end_range n l.peer l.far
 have hfl:n.links.length<2147483648:=hn.links
 generalize endI n l.dev l.port=a at *
 generalize endI n l.peer l.far=b at *
 refine T ?_
 refine C qr F343 ?_
 refine C qn F25 ?_
 refine C q1 F344 ?_
 refine C q2 F344 ?_
 refine Xd (Wr Γ.toTy E E E E E E) ?_
 refine T ?_
 refine Bg 2 8 (Ao n) E E E ?_
 refine Bg 3 17 (Aj l) E E E ?_
 refine Bg 6 2 (.agg [Aa a,Aa b]) E E E ?_
 refine B3 (fun j:Nat=>j≤2∧(1≤j→¬ a<0)∧(2≤j→¬ b<0)) (fun j=>[(2,.ref 8 (Ao n) 0),(3,.ref 17 (Aj l) 0),(4,.ptr 1001 0),(6,.ref 2 (.agg [Aa a,Aa b]) 0),(41,.agg [Aa a,Aa b]),(42,Aa j)]) (fun _=>[(1001,.box [.val (.slice none 0 0),.val (.slice none 0 0),.val (.slice none 0 0),.val (.slice none 0 0),.val (.slice none 0 0),.val (.slice none 0 0),.val (.slice none 0 0),.val (.slice none 0 0)])]) (fun j=>2-j) 0 [(1001,4)] ⟨by omega,by omega,by omega⟩ U ?_
 rintro j ⟨hj,ja,jb⟩
 have hc:j=0∨j=1∨j=2:=by omega
 rcases hc with rfl | rfl | rfl
 ·by_cases ka:a<0
  ·have g1:decide (a<0)=true:=decide_eq_true ka
   rw[if_pos (.inl ka)]at hres
   subst hres
   refine T ?_
   refine X (Ci (k:=.int .i64) Γ.toTy E E E Tryz.underlying3 E E j_ j_ E) ?_
   refine Ae 1001 (B1 emptyN) E (.cons .nil (.cons .nil (.cons .nil (.cons .nil (.cons .nil (.cons .nil (.cons .nil (.cons .nil .nil)))))))) ?_
   refine T ?_
   exact D
  ·have g1:decide (a<0)=false:=decide_eq_false ka
   refine T ?_
   refine X (Ci (k:=.int .i64) Γ.toTy E E E Tryz.underlying3 E E j_ j_ E) ?_
   exact Az 1 [] ⟨by omega,fun _=>ka,by omega⟩ q_ U
 ·have ka:=ja q_
  by_cases kb:b<0
  ·have g1:decide (b<0)=true:=decide_eq_true kb
   rw[if_pos (.inr kb)]at hres
   subst hres
   refine T ?_
   refine X (Ci (k:=.int .i64) Γ.toTy E E E Tryz.underlying3 E E j_ j_ E) ?_
   refine Ae 1001 (B1 emptyN) E (.cons .nil (.cons .nil (.cons .nil (.cons .nil (.cons .nil (.cons .nil (.cons .nil (.cons .nil .nil)))))))) ?_
   refine T ?_
   exact D
  ·have g1:decide (b<0)=false:=decide_eq_false kb
   refine T ?_
   refine X (Ci (k:=.int .i64) Γ.toTy E E E Tryz.underlying3 E E j_ j_ E) ?_
   exact Az 2 [] ⟨by omega,fun _=>ka,fun _=>kb⟩ q_ U
 ·have ka:=ja q_
  have kb:=jb q_
  obtain ⟨a,rfl,hal⟩:=ra ka
  obtain ⟨b,rfl,hbl⟩:=rb kb
  rw[if_neg (fun h=>h.elim ka kb)]at hres
  clear ja jb ra rb hj
  have ha0:((a:Nat):Int).toNat<n.ports.length:=hal
  have hb0:((b:Nat):Int).toNat<n.ports.length:=hbl
  have hna:nth n.ports (a:Int)=n.ports[((a:Nat):Int).toNat]'ha0:=A7 ha0
  have hnb:nth n.ports (b:Int)=n.ports[((b:Nat):Int).toNat]'hb0:=A7 hb0
  rw[hna,hnb]at hres
  by_cases k1:(n.ports[((a:Nat):Int).toNat]'ha0).dev=(n.ports[((b:Nat):Int).toNat]'hb0).dev
  ·have g1:((n.ports[((a:Nat):Int).toNat]'ha0).dev == (n.ports[((b:Nat):Int).toNat]'hb0).dev)=true:=by rw[beq_iff_eq];exact k1
   rw[if_pos (.inl k1)]at hres
   subst hres
   refine T ?_
   refine Ae 1001 (B1 emptyN) E (.cons .nil (.cons .nil (.cons .nil (.cons .nil (.cons .nil (.cons .nil (.cons .nil (.cons .nil .nil)))))))) ?_
   refine T ?_
   exact D
  have g1:((n.ports[((a:Nat):Int).toNat]'ha0).dev == (n.ports[((b:Nat):Int).toNat]'hb0).dev)=false:=by rw[beq_eq_false_iff_ne];exact k1
  by_cases k2:0≤(n.ports[((a:Nat):Int).toNat]'ha0).link
  ·have g2:decide ((n.ports[((a:Nat):Int).toNat]'ha0).link≥0)=true:=decide_eq_true k2
   rw[if_pos (.inr (.inl k2))]at hres
   subst hres
   refine T ?_
   refine Ae 1001 (B1 emptyN) E (.cons .nil (.cons .nil (.cons .nil (.cons .nil (.cons .nil (.cons .nil (.cons .nil (.cons .nil .nil)))))))) ?_
   refine T ?_
   exact D
  have g2:decide ((n.ports[((a:Nat):Int).toNat]'ha0).link≥0)=false:=decide_eq_false k2
  by_cases k3:0≤(n.ports[((b:Nat):Int).toNat]'hb0).link
  ·have g3:decide ((n.ports[((b:Nat):Int).toNat]'hb0).link≥0)=true:=decide_eq_true k3
   rw[if_pos (.inr (.inr k3))]at hres
   subst hres
   refine T ?_
   refine Ae 1001 (B1 emptyN) E (.cons .nil (.cons .nil (.cons .nil (.cons .nil (.cons .nil (.cons .nil (.cons .nil (.cons .nil .nil)))))))) ?_
   refine T ?_
   exact D
  have g3:decide ((n.ports[((b:Nat):Int).toNat]'hb0).link≥0)=false:=decide_eq_false k3
  rw[if_neg (by rintro (h | h | h);exact k1 h;exact k2 h;exact k3 h)]at hres
  by_cases k4:n.links.length=20
  ·have g4:((n.links.length:Int) == 20)=true:=by rw[beq_iff_eq];omega
   rw[if_pos k4]at hres
   subst hres
   refine T ?_
   refine Ae 1001 (B1 emptyN) E (.cons .nil (.cons .nil (.cons .nil (.cons .nil (.cons .nil (.cons .nil (.cons .nil (.cons .nil .nil)))))))) ?_
   refine T ?_
   exact D
  have g4:((n.links.length:Int) == 20)=false:=by rw[beq_eq_false_iff_ne];omega
  rw[if_neg k4]at hres
  have t1:Df n.ports (a:Int) (n.links.length:Int)=n.ports.set ((a:Nat):Int).toNat (⟨(n.ports[((a:Nat):Int).toNat]'ha0).row,(n.ports[((a:Nat):Int).toNat]'ha0).dev,(n.ports[((a:Nat):Int).toNat]'ha0).native,(n.ports[((a:Nat):Int).toNat]'ha0).cost,(n.links.length:Int),(n.ports[((a:Nat):Int).toNat]'ha0).name,(n.ports[((a:Nat):Int).toNat]'ha0).tagged⟩:Port):=by rw[Df,hna]
  have l1:(Df n.ports (a:Int) (n.links.length:Int)).length=n.ports.length:=by rw[Df,List.length_set]
  have hne:n.ports≠[]:=fun e=>by rw[e]at hal;cases hal
  obtain ⟨P1,hP1⟩:∃ P1,Df n.ports (a:Int) (n.links.length:Int)=P1:=⟨_,rfl⟩
  rw[hP1]at hres t1 l1
  have hb1:((b:Nat):Int).toNat<P1.length:=by rw[l1];exact hb0
  have hn1:nth P1 (b:Int)=P1[((b:Nat):Int).toNat]'hb1:=A7 hb1
  have hne1:P1≠[]:=fun e=>by rw[e]at hb1;cases hb1
  have t2:Df P1 (b:Int) (n.links.length:Int)=P1.set ((b:Nat):Int).toNat (⟨(P1[((b:Nat):Int).toNat]'hb1).row,(P1[((b:Nat):Int).toNat]'hb1).dev,(P1[((b:Nat):Int).toNat]'hb1).native,(P1[((b:Nat):Int).toNat]'hb1).cost,(n.links.length:Int),(P1[((b:Nat):Int).toNat]'hb1).name,(P1[((b:Nat):Int).toNat]'hb1).tagged⟩:Port):=by rw[Df,hn1]
  obtain ⟨P2,hP2⟩:∃ P2,Df P1 (b:Int) (n.links.length:Int)=P2:=⟨_,rfl⟩
  rw[hP2]at hres t2
  subst hres
  refine T ?_
  refine X (Ac [(0,901),(1,902),(2,903),(3,904),(4,905),(5,906),(6,907),(7,908)] E F61 qcopy E W E V) ?_
  refine B3 (fun j:Nat=>j≤2) (fun j=>[(3,.ref 17 (Aj l) 0),(4,.ptr 1001 0),(6,.ref 2 (.agg [Aa (a:Int),Aa (b:Int)]) 0),(11,.ptr 1002 0),(86,.agg [Aa (a:Int),Aa (b:Int)]),(87,Aa j)]) (fun j=>[(1001,.box [.val (.slice none 0 0),.val (.slice none 0 0),.val (.slice none 0 0),.val (.slice none 0 0),.val (.slice none 0 0),.val (.slice none 0 0),.val (.slice none 0 0),.val (.slice none 0 0)]),(1002,.box [.osl 901,.osl 902,.osl 903,.osl 904,.osl 905,.osl 906,.osl 907,.osl 908]),(901,.row 5 Au n.devices),(902,.row 7 A2 (if j=0 then n.ports else if j=1 then P1 else P2)),(903,.row 3 Bt n.links),(904,.row 6 Ai n.domains),(905,.row 4 A1 n.statics),(906,.row 4 A3 n.floods),(907,.row 5 Bz n.vrfs),(908,.row 5 By n.irbs)]) (fun j=>2-j) 0 [(1002,11)] q_ U ?_
  intro j hj
  have hc:j=0∨j=1∨j=2:=by omega
  rcases hc with rfl | rfl | rfl
  ·rw[if_pos rfl]
   refine T ?_
   refine X (Ci (k:=.int .i64) Γ.toTy E E E Tryz.underlying3 E E j_ j_ E) ?_
   refine T ?_
   refine⟨hne,?_⟩
   refine T ?_
   refine⟨(⟨(n.ports[((a:Nat):Int).toNat]'ha0).row,(n.ports[((a:Nat):Int).toNat]'ha0).dev,(n.ports[((a:Nat):Int).toNat]'ha0).native,(n.ports[((a:Nat):Int).toNat]'ha0).cost,(n.links.length:Int),(n.ports[((a:Nat):Int).toNat]'ha0).name,(n.ports[((a:Nat):Int).toNat]'ha0).tagged⟩:Port),E,E,?_⟩
   refine T ?_
   exact Az 1 [] q_ q_ ⟨⟨E,E,E,E,E,E,E,E,E,E,E,E,Y⟩,⟨.inl E,E,.inl E,E,.inl E,E,.inl (congrArg (Ob.row 7 A2) t1),E,.inl E,E,.inl E,E,.inl E,E,.inl E,E,.inl E,E,.inl E,E,Y⟩,E,E⟩
  ·rw[if_neg j_,if_pos rfl]
   refine T ?_
   refine X (Ci (k:=.int .i64) Γ.toTy E E E Tryz.underlying3 E E j_ j_ E) ?_
   refine T ?_
   refine⟨hne1,?_⟩
   refine T ?_
   refine⟨(⟨(P1[((b:Nat):Int).toNat]'hb1).row,(P1[((b:Nat):Int).toNat]'hb1).dev,(P1[((b:Nat):Int).toNat]'hb1).native,(P1[((b:Nat):Int).toNat]'hb1).cost,(n.links.length:Int),(P1[((b:Nat):Int).toNat]'hb1).name,(P1[((b:Nat):Int).toNat]'hb1).tagged⟩:Port),E,E,?_⟩
   refine T ?_
   exact Az 2 [] q_ q_ ⟨⟨E,E,E,E,E,E,E,E,E,E,E,E,Y⟩,⟨.inl E,E,.inl E,E,.inl E,E,.inl (congrArg (Ob.row 7 A2) t2),E,.inl E,E,.inl E,E,.inl E,E,.inl E,E,.inl E,E,.inl E,E,Y⟩,E,E⟩
  ·rw[if_neg j_,if_neg j_]
   refine T ?_
   refine X (Ak Γ.toTy 109 E E E E E (.row E) (.lit (e:=Bt) (l:=[(⟨l.row,(a:Int),(b:Int)⟩:Link)]) E E) j_ (by simp only[List.length_singleton];omega) (by simp only[List.length_singleton];omega)) ?_
   refine T ?_
   refine Ag 901 E ?_
   refine Ag 902 E ?_
   refine Ag 109 E ?_
   refine Ag 904 E ?_
   refine Ag 905 E ?_
   refine Ag 906 E ?_
   refine Ag 907 E ?_
   refine Ag 908 E ?_
   exact D
abbrev Y8 (n:Net):Obs:=[(900,.box [.osl 901,.osl 902,.osl 903,.osl 904,.osl 905,.osl 906,.osl 907,.osl 908]),(901,.row 5 Au n.devices),(902,.row 7 A2 n.ports),(903,.row 3 Bt n.links),(904,.row 6 Ai n.domains),(905,.row 4 A1 n.statics),(906,.row 4 A3 n.floods),(907,.row 5 Bz n.vrfs),(908,.row 5 By n.irbs)]
theorem M9 (n:Net) (hn:n.Fin) (l:LineM) (hl:LineW l) (k:Int) (h:fitsB n l k=true):Sy.Spec Tryz.prog 337 [Ao n,Aj l,Aa k] [] (.tup [.ptr 900 0,Ab true]) (Y8 n):=cT F337 Tryz.ntmps337 fun F hF=>by
 have qr:=En l hl
 have qn:=Bn n hn
 have qcopy:=Jc n hn
 unfold fitsB at h
 simp only[Bool.and_eq_true]at h
 obtain ⟨h1,h2,h3⟩:=h
 have g1:(l.kind != k)=false:=by rw[bne,h1];rfl
 rw[h2]at qr
 rw[h3]at qn
 refine T ?_
 refine C qr F343 ?_
 refine C qn F25 ?_
 refine X (Ac [(0,901),(1,902),(2,903),(3,904),(4,905),(5,906),(6,907),(7,908)] E F61 qcopy E W E V) ?_
 exact done E (.cons .tmp (.cons .tmp .nil)) [(900,25)] (Y8 n) (fun _ h=>h) E E U
theorem Kw (n:Net) (hn:n.Fin) (l:LineM) (hl:LineW l) (k:Int) (h:fitsB n l k=false):Sy.Spec Tryz.prog 337 [Ao n,Aj l,Aa k] [] (.tup [.val (.pointer none),Ab false]) []:=cT F337 Tryz.ntmps337 fun F hF=>by
 have qr:=En l hl
 have qn:=Bn n hn
 unfold fitsB at h
 cases h1:(l.kind == k) with
 | false =>
  have g1:(l.kind != k)=true:=by rw[bne,h1];rfl
  refine T ?_
  exact D
 | true =>
 have g1:(l.kind != k)=false:=by rw[bne,h1];rfl
 rw[h1,Bool.true_and]at h
 cases h2:Bk l with
 | false =>
  rw[h2]at qr
  refine T ?_
  refine C qr F343 ?_
  exact D
 | true =>
 rw[h2]at qr h
 rw[Bool.true_and]at h
 rw[h]at qn
 refine T ?_
 refine C qr F343 ?_
 refine C qn F25 ?_
 exact D
theorem Ace (l:LineM) (d:Device):Sy.Spec Tryz.prog 339 [Au d,.ref 17 (Aj l) 0] [] (Ab (d.name == l.dev || d.mac == l.mac)) []:=cT F339 Tryz.ntmps339 fun F hF=>by
 cases h:(d.name == l.dev)
 ·refine T ?_
  exact D
 ·refine T ?_
  exact D
theorem Y9 (n:Net) (hn:n.Fin) (l:LineM) (hl:LineW l):Sy.Spec Tryz.prog 280 [Ao n,Aj l] [] (.tup [Ao (putDevice n l).1,Aa (putDevice n l).2]) []:=cT F280 Tryz.ntmps280 fun F hF=>by
 have hres:=putDevice.eq_1 n l
 generalize putDevice n l=res at *
 cases hf:fitsB n l 1 with
 | false =>
  have q1:=Kw n hn l hl 1 hf
  rw[hf,if_pos rfl]at hres
  subst hres
  refine T ?_
  refine C q1 F337 ?_
  refine Ae 4 (B1 emptyN) E (.cons .nil (.cons .nil (.cons .nil (.cons .nil (.cons .nil (.cons .nil (.cons .nil (.cons .nil .nil)))))))) ?_
  refine T ?_
  exact D
 | true =>
 have q1:=M9 n hn l hl 1 hf
 rw[hf,if_neg y_]at hres
 have qc:=J7 n.devices (fun d=>d.name == l.dev || d.mac == l.mac) 339 [] [.ref 17 (Aj l) 0] rfl (fun d _=>⟨⟨_,_,F339⟩,Ace l d⟩) hn.devices
 rw[Io]at qc
 have hfl:n.devices.length<2147483648:=hn.devices
 generalize n.devices.any (fun d=>d.name == l.dev || d.mac == l.mac)=cl at *
 cases cl with
 | true =>
  rw[if_pos rfl]at hres
  subst hres
  refine T ?_
  refine X (Ac [] E F337 q1 E W E V) ?_
  refine Bg 3 17 (Aj l) E E E ?_
  refine X (Hr [901] E F338 qc (.cons (.row E E) (.cons (.refl _) .nil)) E E) ?_
  refine Ae 4 (B1 emptyN) E (.cons .nil (.cons .nil (.cons .nil (.cons .nil (.cons .nil (.cons .nil (.cons .nil (.cons .nil .nil)))))))) ?_
  refine T ?_
  exact D
 | false =>
 rw[if_neg y_]at hres
 by_cases h5:n.devices.length=8
 ·have g5:((n.devices.length:Int) == 8)=true:=by rw[beq_iff_eq];omega
  rw[if_pos h5]at hres
  subst hres
  refine T ?_
  refine X (Ac [] E F337 q1 E W E V) ?_
  refine Bg 3 17 (Aj l) E E E ?_
  refine X (Hr [901] E F338 qc (.cons (.row E E) (.cons (.refl _) .nil)) E E) ?_
  refine Ae 4 (B1 emptyN) E (.cons .nil (.cons .nil (.cons .nil (.cons .nil (.cons .nil (.cons .nil (.cons .nil (.cons .nil .nil)))))))) ?_
  refine T ?_
  exact D
 have g5:((n.devices.length:Int) == 8)=false:=by rw[beq_eq_false_iff_ne];omega
 rw[if_neg h5]at hres
 subst hres
 refine T ?_
 refine X (Ac [] E F337 q1 E W E V) ?_
 refine Bg 3 17 (Aj l) E E E ?_
 refine X (Hr [901] E F338 qc (.cons (.row E E) (.cons (.refl _) .nil)) E E) ?_
 refine T ?_
 refine Xd (Ak Γ.toTy 52 E E E E E (.row E) (.lit (e:=Au) (l:=[(⟨l.row,l.num,l.dev,l.mac,0⟩:Device)]) E E) j_ (by simp only[List.length_singleton];omega) (by simp only[List.length_singleton];omega)) ?_
 refine T ?_
 refine Ag 52 E ?_
 refine Ag 902 E ?_
 refine Ag 903 E ?_
 refine Ag 904 E ?_
 refine Ag 905 E ?_
 refine Ag 906 E ?_
 refine Ag 907 E ?_
 refine Ag 908 E ?_
 exact D
end Go.Sy.YtjenpnjajjplkaaGreatDoor
namespace Go.Sy
theorem Td {P:Program} (Γ:Ty P) {o:Oper} {s:SS} (d q:Nat) {α:Type} {e:α→SV} {l:List α} (z:α) {sv:SV} {t:TypeId} {ti:TI} {et:TypeId} {sz eb:Nat} {ez:List Value} {x y:Operand} {k:Option Nat}
  (h:o.op=.call ⟨.builtin .append,#[x,y],#[t,t]⟩) (hd:s.h d=.fresh) (ht:Γ.get t=some ti) (hk:ti.k=.slice et sz eb ez) (hez:ez.length=sz)
  (hb:BaseT s sz e (ev s x) k l) (hy:ev s y=.osl q) (hq:s.h q=.lit sz [sv]) (hv:∀ (M:Nat→Prop) (w:World) (v:Value),RdD M w sv v→RdD M w (e z) v) (hkk:∀ j,k=some j→j≠d) (hbytes:(l.length+1) * eb≤140737488355328) (h63:l.length+1≤9223372036854775807) :
  Good P o s ⟨.osl d,[q],Je k d (.row sz e (l++[z]))⟩:=by
 obtain ⟨f,hb,hf⟩:=hb.base
 have hs:AppSrc s sz (ev s y) [q] 1 (S7 [sv]):=by
  rw[hy]
  exact AppSrc.lit (sz:=sz) hq
 refine Ok Γ h hd ht hk hez hb hs hkk hbytes h63 fun κ w hr=>?_
 rcases hr with ⟨_,h2⟩ | ⟨b,cap,cs,T,fr,e1,e2,e3,e4,e5,e6⟩
 ·omega
 ·refine .inr ⟨b,cap,cs,T,fr,by simpa using e1,e2,e3,e4,by simpa using e5,fun i x hx=>?_⟩
  obtain ⟨hi,rfl⟩:=hx
  have hi2:i<l.length+1:=by simpa using hi
  by_cases hl:i<l.length
  ·have hx:rowF e l i ((l++[z])[i] |> e):=⟨hl,by rw[List.getElem_append_left hl]⟩
   obtain ⟨a1,a2⟩:=e6 i _ (.inl ⟨hl,hf i _ hx⟩)
   exact⟨by simpa using a1,a2⟩
  ·have hie:i=l.length:=by omega
   subst hie
   obtain ⟨a1,u,hu,hrest⟩:=e6 l.length sv (.inr ⟨Nat.le_refl _,by rw[Nat.sub_self];rfl⟩)
   refine⟨by simp,u,?_,hrest⟩
   have:=hv _ _ u hu
   simpa using this
end Go.Sy
namespace Go.Sy.YtjenpnjajjplkaaGreatDoor
open Go.Proofs
attribute [local irreducible] Go.Sy.G Go.Sy.DR
set_option maxRecDepth 100000
set_option maxHeartbeats 4000000
theorem L7 (dev v:Int) (d:Domain):Sy.Spec Tryz.prog 409 [Ai d,.ref 1 (Aa dev) 0,.ref 1 (Aa v) 0] [] (Ab (d.dev == dev && d.vlan == v)) []:=cT F409 Tryz.ntmps409 fun F hF=>by
 cases h:(d.dev == dev)
 ·refine T ?_
  exact D
 ·refine T ?_
  exact D
abbrev Ae6 (n:Net) (ds:List Domain):Obs:=[(900,.box [.osl 901,.osl 902,.osl 903,.osl 1904,.osl 905,.osl 906,.osl 907,.osl 908]),(901,.row 5 Au n.devices),(902,.row 7 A2 n.ports),(903,.row 3 Bt n.links),(904,.non),(1904,.row 6 Ai ds),(905,.row 4 A1 n.statics),(906,.row 4 A3 n.floods),(907,.row 5 Bz n.vrfs),(908,.row 5 By n.irbs)]
theorem Hu (n:Net) (hl:n.domains.length<2147483648) (dev v:Int) (hc:¬ (0<v∧n.domains.any (fun d=>d.dev == dev && d.vlan == v)=false)):Sy.Spec Tryz.prog 342 [.ptr 900 0,Aa dev,Aa v] (Y8 n) (.tup []) (Y8 n):=cT F342 Tryz.ntmps342 fun F hF=>by
 have qc:=E4 n.domains (fun d=>d.dev == dev && d.vlan == v) 409 [] [.ref 1 (Aa dev) 0,.ref 1 (Aa v) 0] rfl (fun d _=>⟨⟨_,_,F409⟩,L7 dev v d⟩) hl
 rw[Io]at qc
 generalize n.domains.any (fun d=>d.dev == dev && d.vlan == v)=cl at *
 by_cases h1:0<v
 ·have g1:decide (v>0)=true:=decide_eq_true h1
  cases cl with
  | true =>
   refine T ?_
   refine Bg 4 1 (Aa dev) E E E ?_
   refine Bg 5 1 (Aa v) E E E ?_
   refine X (Hr [904] E F408 qc (.cons (.row E E) (.cons (.refl _) .nil)) E E) ?_
   exact Cb E .nil [] (Y8 n) (fun _ h=>h) E E U
  | false=>exact absurd ⟨h1,rfl⟩ hc
 ·have g1:decide (v>0)=false:=decide_eq_false h1
  refine T ?_
  exact Cb E .nil [] (Y8 n) (fun _ h=>h) E E U
theorem Hb (n:Net) (hl:n.domains.length<2147483648) (dev v:Int) (hc:0<v∧n.domains.any (fun d=>d.dev == dev && d.vlan == v)=false):Sy.Spec Tryz.prog 342 [.ptr 900 0,Aa dev,Aa v] (Y8 n) (.tup []) (Ae6 n (n.domains++[(⟨dev,v,0,-1,0,[]⟩:Domain)])):=cT F342 Tryz.ntmps342 fun F hF=>by
 have qc:=E4 n.domains (fun d=>d.dev == dev && d.vlan == v) 409 [] [.ref 1 (Aa dev) 0,.ref 1 (Aa v) 0] rfl (fun d _=>⟨⟨_,_,F409⟩,L7 dev v d⟩) hl
 rw[Io,hc.2]at qc
 have g1:decide (v>0)=true:=decide_eq_true hc.1
 refine T ?_
 refine Bg 4 1 (Aa dev) E E E ?_
 refine Bg 5 1 (Aa v) E E E ?_
 refine X (Hr [904] E F408 qc (.cons (.row E E) (.cons (.refl _) .nil)) E E) ?_
 refine T ?_
 refine Xd (Td Γ.toTy 28 27 (⟨dev,v,0,-1,0,[]⟩:Domain) E E E E E (.row E) E E (fun M w u hu=>Abf (⟨dev,v,0,-1,0,[]⟩:Domain) E hu) j_ q_ q_) ?_
 refine T ?_
 exact Cb E .nil [(1904,28)] (Ae6 n (n.domains++[(⟨dev,v,0,-1,0,[]⟩:Domain)])) (fun _ h=>h) E E U
theorem M2 {dev v:Int} {ds:List Domain} (h:¬ (0<v∧ds.any (fun d=>d.dev == dev && d.vlan == v)=false)):Bm dev ds v=ds:=by rw[Bm,if_neg h]
theorem Lh {dev v:Int} {ds:List Domain} (h:0<v∧ds.any (fun d=>d.dev == dev && d.vlan == v)=false):Bm dev ds v=ds++[(⟨dev,v,0,-1,0,[]⟩:Domain)]:=by rw[Bm,if_pos h]
theorem Mg (dev:Int):∀ (l:List Int) (ds:List Domain),(At dev ds l).length≤ds.length+l.length
 | [],ds=>by simp[At]
 | v::l,ds=>by
  have ih:=Mg dev l (Bm dev ds v)
  have h1:(Bm dev ds v).length≤ds.length+1:=by
   unfold Bm
   split<;>simp
  have e:At dev ds (v::l)=At dev (Bm dev ds v) l:=rfl
  rw[e,List.length_cons];omega
theorem Mf (dev:Int) (ds:List Domain) (l:List Int) (v:Int):At dev ds (l++[v])=Bm dev (At dev ds l) v:=by
 unfold At
 rw[List.foldl_append];rfl
theorem Aca (n:Net) (hn:n.Fin) (l:LineM) (hl:LineW l):Sy.Spec Tryz.prog 281 [Ao n,Aj l] [] (.tup [Ao (putPort n l).1,Aa (putPort n l).2]) []:=cT F281 Tryz.ntmps281 fun F hF=>by
 have hres:=putPort.eq_1 n l
 generalize putPort n l=res at *
 cases hf:fitsB n l 2 with
 | false =>
  have q1:=Kw n hn l hl 2 hf
  rw[hf,if_pos rfl]at hres
  subst hres
  refine T ?_
  refine C q1 F337 ?_
  refine Ae 4 (B1 emptyN) E (.cons .nil (.cons .nil (.cons .nil (.cons .nil (.cons .nil (.cons .nil (.cons .nil (.cons .nil .nil)))))))) ?_
  refine T ?_
  exact D
 | true =>
 have q1:=M9 n hn l hl 2 hf
 have hr:Af n=true:=by
  unfold fitsB at hf
  simp only[Bool.and_eq_true]at hf
  exact hf.2.2
 rw[hf,if_neg y_]at hres
 have q2:=Eb n hn hr l.dev
 have q3:=Lb n hn hr (Bi n l.dev) l.port
 have hlt:=hl.fin.t
 have q5:=Er l.tagged q_
 have hfl:n.ports.length≤40∧n.domains.length≤48:=⟨(Adg hr).2.1,(Adg hr).2.2.2.1⟩
 generalize La n (Bi n l.dev) l.port=pt at *
 generalize Bi n l.dev=dv at *
 by_cases h3:dv<0
 ·have g3:decide (dv<0)=true:=decide_eq_true h3
  rw[if_pos h3]at hres
  subst hres
  refine T ?_
  refine X (Ac [] E F337 q1 E W E V) ?_
  refine C q2 F340 ?_
  refine Ae 4 (B1 emptyN) E (.cons .nil (.cons .nil (.cons .nil (.cons .nil (.cons .nil (.cons .nil (.cons .nil (.cons .nil .nil)))))))) ?_
  refine T ?_
  exact D
 have g3:decide (dv<0)=false:=decide_eq_false h3
 rw[if_neg h3]at hres
 by_cases h4:0≤pt
 ·have g4:decide (pt≥0)=true:=decide_eq_true h4
  rw[if_pos h4]at hres
  subst hres
  refine T ?_
  refine X (Ac [] E F337 q1 E W E V) ?_
  refine C q2 F340 ?_
  refine C q3 F341 ?_
  refine Ae 4 (B1 emptyN) E (.cons .nil (.cons .nil (.cons .nil (.cons .nil (.cons .nil (.cons .nil (.cons .nil (.cons .nil .nil)))))))) ?_
  refine T ?_
  exact D
 have g4:decide (pt≥0)=false:=decide_eq_false h4
 rw[if_neg h4]at hres
 by_cases h5:n.ports.length=40
 ·have g5:((n.ports.length:Int) == 40)=true:=by rw[beq_iff_eq];omega
  rw[if_pos h5]at hres
  subst hres
  refine T ?_
  refine X (Ac [] E F337 q1 E W E V) ?_
  refine C q2 F340 ?_
  refine C q3 F341 ?_
  refine Ae 4 (B1 emptyN) E (.cons .nil (.cons .nil (.cons .nil (.cons .nil (.cons .nil (.cons .nil (.cons .nil (.cons .nil .nil)))))))) ?_
  refine T ?_
  exact D
 have g5:((n.ports.length:Int) == 40)=false:=by rw[beq_eq_false_iff_ne];omega
 rw[if_neg h5]at hres
 have hd1l:(Bm dv n.domains l.vlan).length≤49:=by unfold Bm;split<;>(try simp)<;>omega
 have hlenB:∀ j,(At dv (Bm dv n.domains l.vlan) (l.tagged.take j)).length≤200000:=fun j=>by
  have h1:=Mg dv (l.tagged.take j) (Bm dv n.domains l.vlan)
  rw[List.length_take]at h1
  omega
 by_cases hc:0<l.vlan∧n.domains.any (fun d=>d.dev == dv && d.vlan == l.vlan)=false
 ·have q6:=Hb ({ n with ports:=n.ports++[(⟨l.row,dv,l.vlan,l.cost,-1,l.port,l.tagged⟩:Port)] }:Net) (by show n.domains.length<_;omega) dv l.vlan hc
  obtain ⟨d1,hd1⟩:∃ d1,Bm dv n.domains l.vlan=d1:=⟨_,rfl⟩
  have hlenA:=hlenB
  rw[hd1]at hlenA
  have hde:=hd1.symm.trans (Lh hc)
  rw[← hde]at q6
  clear hlenB hde hc hd1l
  refine T ?_
  refine X (Ac [] E F337 q1 E W E V) ?_
  refine C q2 F340 ?_
  refine C q3 F341 ?_
  refine C q5 F159 ?_
  refine Xd (Ak Γ.toTy 66 E E E E E (.row E) (.lit (e:=A2) (l:=[(⟨l.row,dv,l.vlan,l.cost,-1,l.port,l.tagged⟩:Port)]) E E) j_ (by simp only[List.length_singleton];omega) (by simp only[List.length_singleton];omega)) ?_
  refine T ?_
  refine X (Am [(902,66),(1904,1101)] (An E E F342) q6 E W E V) ?_
  refine T ?_
  refine B3 (fun j:Nat=>j≤l.tagged.length) (fun j=>[(4,.ptr 1001 0),(6,.ptr 900 0),(8,Aa dv),(9,.clo (.func 342) [] []),(77,.sl 1 Aa l.tagged),(78,Aa l.tagged.length),(79,Aa j)]) (fun j=>[(1001,.box [.val (.slice none 0 0),.val (.slice none 0 0),.val (.slice none 0 0),.val (.slice none 0 0),.val (.slice none 0 0),.val (.slice none 0 0),.val (.slice none 0 0),.val (.slice none 0 0)]),(900,.box [.osl 901,.osl 1002,.osl 903,.osl 1004,.osl 905,.osl 906,.osl 907,.osl 908]),(901,.row 5 Au n.devices),(1002,.row 7 A2 (n.ports++[(⟨l.row,dv,l.vlan,l.cost,-1,l.port,l.tagged⟩:Port)])),(903,.row 3 Bt n.links),(1004,.row 6 Ai (At dv d1 (l.tagged.take j))),(905,.row 4 A1 n.statics),(906,.row 4 A3 n.floods),(907,.row 5 Bz n.vrfs),(908,.row 5 By n.irbs)]) (fun j=>l.tagged.length-j) 0 [(1001,4),(1002,66),(1004,1101)] q_ U ?_
  intro j hj
  have hlen:=hlenA j
  refine T ?_
  refine⟨fun h=>?_,fun h=>?_⟩
  ·have hlt:j<l.tagged.length:=qA h
   have hlt0:((j:Nat):Int).toNat<l.tagged.length:=hlt
   clear h
   have hsn:At dv d1 (l.tagged.take (j+1))=Bm dv (At dv d1 (l.tagged.take j)) (l.tagged[((j:Nat):Int).toNat]'hlt0):=by
    rw[List.take_succ_eq_append_getElem hlt,Mf];rfl
   by_cases hc:0<(l.tagged[((j:Nat):Int).toNat]'hlt0)∧(At dv d1 (l.tagged.take j)).any (fun d=>d.dev == dv && d.vlan == (l.tagged[((j:Nat):Int).toNat]'hlt0))=false
   ·have q:=Hb ({ n with ports:=n.ports++[(⟨l.row,dv,l.vlan,l.cost,-1,l.port,l.tagged⟩:Port)],domains:=At dv d1 (l.tagged.take j) }:Net) (by show (At dv d1 (l.tagged.take j)).length<_;omega) dv (l.tagged[((j:Nat):Int).toNat]'hlt0) hc
    rw[Lh hc]at hsn
    refine T ?_
    refine X (Am [(902,1002),(904,1004),(1904,1102)] (An E E F342) q E W E V) ?_
    exact Az (j+1) [(1004,1102)] hlt q_ ⟨⟨E,E,E,E,E,E,E,E,E,E,E,E,E,E,Y⟩,⟨.inl E,E,.inl E,E,.inl E,E,.inl E,E,.inl E,E,.inl (congrArg (Ob.row 6 Ai) hsn),E,.inl E,E,.inl E,E,.inl E,E,.inl E,E,Y⟩,E,E⟩
   ·have q:=Hu ({ n with ports:=n.ports++[(⟨l.row,dv,l.vlan,l.cost,-1,l.port,l.tagged⟩:Port)],domains:=At dv d1 (l.tagged.take j) }:Net) (by show (At dv d1 (l.tagged.take j)).length<_;omega) dv (l.tagged[((j:Nat):Int).toNat]'hlt0) hc
    rw[M2 hc]at hsn
    refine T ?_
    refine X (Am [(902,1002),(904,1004)] (An E E F342) q E W E V) ?_
    exact Az (j+1) [] hlt q_ ⟨⟨E,E,E,E,E,E,E,E,E,E,E,E,E,E,Y⟩,⟨.inl E,E,.inl E,E,.inl E,E,.inl E,E,.inl E,E,.inl (congrArg (Ob.row 6 Ai) hsn),E,.inl E,E,.inl E,E,.inl E,E,.inl E,E,Y⟩,E,E⟩
  ·have hje:j=l.tagged.length:=qB h
   clear h
   rw[hje,List.take_length]
   have hfull:At dv n.domains (l.vlan::l.tagged)=At dv d1 l.tagged:=(show At dv n.domains (l.vlan::l.tagged)=At dv (Bm dv n.domains l.vlan) l.tagged from rfl).trans (by rw[hd1])
   rw[hfull]at hres
   by_cases h9:48<(At dv d1 l.tagged).length
   ·have g9:decide (((At dv d1 l.tagged).length:Int)>48)=true:=decide_eq_true q_
    rw[if_pos h9]at hres
    subst hres
    refine T ?_
    refine Ae 1001 (B1 emptyN) E (.cons .nil (.cons .nil (.cons .nil (.cons .nil (.cons .nil (.cons .nil (.cons .nil (.cons .nil .nil)))))))) ?_
    refine T ?_
    exact D
   ·have g9:decide (((At dv d1 l.tagged).length:Int)>48)=false:=decide_eq_false q_
    rw[if_neg h9]at hres
    subst hres
    refine T ?_
    refine Ag 901 E ?_
    refine Ag 1002 E ?_
    refine Ag 903 E ?_
    refine Ag 1004 E ?_
    refine Ag 905 E ?_
    refine Ag 906 E ?_
    refine Ag 907 E ?_
    refine Ag 908 E ?_
    exact D
 ·have q6:=Hu ({ n with ports:=n.ports++[(⟨l.row,dv,l.vlan,l.cost,-1,l.port,l.tagged⟩:Port)] }:Net) (by show n.domains.length<_;omega) dv l.vlan hc
  have hd1:Bm dv n.domains l.vlan=n.domains:=M2 hc
  have hlenA:=hlenB
  rw[hd1]at hlenA
  clear hlenB hc hd1l
  refine T ?_
  refine X (Ac [] E F337 q1 E W E V) ?_
  refine C q2 F340 ?_
  refine C q3 F341 ?_
  refine C q5 F159 ?_
  refine Xd (Ak Γ.toTy 66 E E E E E (.row E) (.lit (e:=A2) (l:=[(⟨l.row,dv,l.vlan,l.cost,-1,l.port,l.tagged⟩:Port)]) E E) j_ (by simp only[List.length_singleton];omega) (by simp only[List.length_singleton];omega)) ?_
  refine T ?_
  refine X (Am [(902,66)] (An E E F342) q6 E W E V) ?_
  refine T ?_
  refine B3 (fun j:Nat=>j≤l.tagged.length) (fun j=>[(4,.ptr 1001 0),(6,.ptr 900 0),(8,Aa dv),(9,.clo (.func 342) [] []),(77,.sl 1 Aa l.tagged),(78,Aa l.tagged.length),(79,Aa j)]) (fun j=>[(1001,.box [.val (.slice none 0 0),.val (.slice none 0 0),.val (.slice none 0 0),.val (.slice none 0 0),.val (.slice none 0 0),.val (.slice none 0 0),.val (.slice none 0 0),.val (.slice none 0 0)]),(900,.box [.osl 901,.osl 1002,.osl 903,.osl 1004,.osl 905,.osl 906,.osl 907,.osl 908]),(901,.row 5 Au n.devices),(1002,.row 7 A2 (n.ports++[(⟨l.row,dv,l.vlan,l.cost,-1,l.port,l.tagged⟩:Port)])),(903,.row 3 Bt n.links),(1004,.row 6 Ai (At dv n.domains (l.tagged.take j))),(905,.row 4 A1 n.statics),(906,.row 4 A3 n.floods),(907,.row 5 Bz n.vrfs),(908,.row 5 By n.irbs)]) (fun j=>l.tagged.length-j) 0 [(1001,4),(1002,66),(1004,904)] q_ U ?_
  intro j hj
  have hlen:=hlenA j
  refine T ?_
  refine⟨fun h=>?_,fun h=>?_⟩
  ·have hlt:j<l.tagged.length:=qA h
   have hlt0:((j:Nat):Int).toNat<l.tagged.length:=hlt
   clear h
   have hsn:At dv n.domains (l.tagged.take (j+1))=Bm dv (At dv n.domains (l.tagged.take j)) (l.tagged[((j:Nat):Int).toNat]'hlt0):=by
    rw[List.take_succ_eq_append_getElem hlt,Mf];rfl
   by_cases hc:0<(l.tagged[((j:Nat):Int).toNat]'hlt0)∧(At dv n.domains (l.tagged.take j)).any (fun d=>d.dev == dv && d.vlan == (l.tagged[((j:Nat):Int).toNat]'hlt0))=false
   ·have q:=Hb ({ n with ports:=n.ports++[(⟨l.row,dv,l.vlan,l.cost,-1,l.port,l.tagged⟩:Port)],domains:=At dv n.domains (l.tagged.take j) }:Net) (by show (At dv n.domains (l.tagged.take j)).length<_;omega) dv (l.tagged[((j:Nat):Int).toNat]'hlt0) hc
    rw[Lh hc]at hsn
    refine T ?_
    refine X (Am [(902,1002),(904,1004),(1904,1102)] (An E E F342) q E W E V) ?_
    exact Az (j+1) [(1004,1102)] hlt q_ ⟨⟨E,E,E,E,E,E,E,E,E,E,E,E,E,E,Y⟩,⟨.inl E,E,.inl E,E,.inl E,E,.inl E,E,.inl E,E,.inl (congrArg (Ob.row 6 Ai) hsn),E,.inl E,E,.inl E,E,.inl E,E,.inl E,E,Y⟩,E,E⟩
   ·have q:=Hu ({ n with ports:=n.ports++[(⟨l.row,dv,l.vlan,l.cost,-1,l.port,l.tagged⟩:Port)],domains:=At dv n.domains (l.tagged.take j) }:Net) (by show (At dv n.domains (l.tagged.take j)).length<_;omega) dv (l.tagged[((j:Nat):Int).toNat]'hlt0) hc
    rw[M2 hc]at hsn
    refine T ?_
    refine X (Am [(902,1002),(904,1004)] (An E E F342) q E W E V) ?_
    exact Az (j+1) [] hlt q_ ⟨⟨E,E,E,E,E,E,E,E,E,E,E,E,E,E,Y⟩,⟨.inl E,E,.inl E,E,.inl E,E,.inl E,E,.inl E,E,.inl (congrArg (Ob.row 6 Ai) hsn),E,.inl E,E,.inl E,E,.inl E,E,.inl E,E,Y⟩,E,E⟩
  ·have hje:j=l.tagged.length:=qB h
   clear h
   rw[hje,List.take_length]
   have hfull:At dv n.domains (l.vlan::l.tagged)=At dv n.domains l.tagged:=(show At dv n.domains (l.vlan::l.tagged)=At dv (Bm dv n.domains l.vlan) l.tagged from rfl).trans (by rw[hd1])
   rw[hfull]at hres
   by_cases h9:48<(At dv n.domains l.tagged).length
   ·have g9:decide (((At dv n.domains l.tagged).length:Int)>48)=true:=decide_eq_true q_
    rw[if_pos h9]at hres
    subst hres
    refine T ?_
    refine Ae 1001 (B1 emptyN) E (.cons .nil (.cons .nil (.cons .nil (.cons .nil (.cons .nil (.cons .nil (.cons .nil (.cons .nil .nil)))))))) ?_
    refine T ?_
    exact D
   ·have g9:decide (((At dv n.domains l.tagged).length:Int)>48)=false:=decide_eq_false q_
    rw[if_neg h9]at hres
    subst hres
    refine T ?_
    refine Ag 901 E ?_
    refine Ag 1002 E ?_
    refine Ag 903 E ?_
    refine Ag 1004 E ?_
    refine Ag 905 E ?_
    refine Ag 906 E ?_
    refine Ag 907 E ?_
    refine Ag 908 E ?_
    exact D
theorem Aed (n:Net) (hn:n.Fin) (ha:Hx n) (l:LineM) (hl:LineW l):Sy.Spec Tryz.prog 206 [Ao n,Aj l] [] (.tup [Ao (putT n l).1,Aa (putT n l).2]) []:=cT F206 Tryz.ntmps206 fun F hF=>by
 have hres:=putT.eq_1 n l
 generalize putT n l=res at *
 by_cases h1:l.kind=1
 ·have g1:(l.kind == 1)=true:=by rw[beq_iff_eq];exact h1
  have q:=Y9 n hn l hl
  rw[if_pos h1]at hres
  rw[← hres]at q
  refine T ?_
  refine C q F280 ?_
  exact D
 have g1:(l.kind == 1)=false:=by rw[beq_eq_false_iff_ne];exact h1
 rw[if_neg h1]at hres
 by_cases h2:l.kind=2
 ·have g2:(l.kind == 2)=true:=by rw[beq_iff_eq];exact h2
  have q:=Aca n hn l hl
  rw[if_pos h2]at hres
  rw[← hres]at q
  refine T ?_
  refine C q F281 ?_
  exact D
 have g2:(l.kind == 2)=false:=by rw[beq_eq_false_iff_ne];exact h2
 rw[if_neg h2]at hres
 by_cases h3:l.kind=3
 ·have g3:(l.kind == 3)=true:=by rw[beq_iff_eq];exact h3
  have q:=Acw n hn l hl
  rw[if_pos h3]at hres
  rw[← hres]at q
  refine T ?_
  refine C q F282 ?_
  exact D
 have g3:(l.kind == 3)=false:=by rw[beq_eq_false_iff_ne];exact h3
 rw[if_neg h3]at hres
 by_cases h4:l.kind=4
 ·have g4:(l.kind == 4)=true:=by rw[beq_iff_eq];exact h4
  have q:=X9 n hn l hl
  rw[if_pos h4]at hres
  rw[← hres]at q
  refine T ?_
  refine C q F283 ?_
  exact D
 have g4:(l.kind == 4)=false:=by rw[beq_eq_false_iff_ne];exact h4
 rw[if_neg h4]at hres
 by_cases h5:l.kind=5
 ·have g5:(l.kind == 5)=true:=by rw[beq_iff_eq];exact h5
  have q:=Ad8 n hn l hl
  rw[if_pos h5]at hres
  rw[← hres]at q
  refine T ?_
  refine C q F284 ?_
  exact D
 have g5:(l.kind == 5)=false:=by rw[beq_eq_false_iff_ne];exact h5
 rw[if_neg h5]at hres
 by_cases h6:l.kind=6
 ·have g6:(l.kind == 6)=true:=by rw[beq_iff_eq];exact h6
  have q:=ovVniS n hn l hl
  rw[if_pos h6]at hres
  rw[← hres]at q
  refine T ?_
  refine C q F285 ?_
  exact D
 have g6:(l.kind == 6)=false:=by rw[beq_eq_false_iff_ne];exact h6
 rw[if_neg h6]at hres
 by_cases h7:l.kind=7
 ·have g7:(l.kind == 7)=true:=by rw[beq_iff_eq];exact h7
  have q:=Acf n hn l hl
  rw[if_pos h7]at hres
  rw[← hres]at q
  refine T ?_
  refine C q F286 ?_
  exact D
 have g7:(l.kind == 7)=false:=by rw[beq_eq_false_iff_ne];exact h7
 rw[if_neg h7]at hres
 by_cases h8:l.kind=8
 ·have g8:(l.kind == 8)=true:=by rw[beq_iff_eq];exact h8
  have q:=Ad0 n hn l hl
  rw[if_pos h8]at hres
  rw[← hres]at q
  refine T ?_
  refine C q F287 ?_
  exact D
 have g8:(l.kind == 8)=false:=by rw[beq_eq_false_iff_ne];exact h8
 rw[if_neg h8]at hres
 by_cases h9:l.kind=9
 ·have g9:(l.kind == 9)=true:=by rw[beq_iff_eq];exact h9
  have q:=Aej n hn ha l hl
  rw[if_pos h9]at hres
  rw[← hres]at q
  refine T ?_
  refine C q F288 ?_
  exact D
 have g9:(l.kind == 9)=false:=by rw[beq_eq_false_iff_ne];exact h9
 rw[if_neg h9]at hres
 subst hres
 refine T ?_
 refine Ae 4 (B1 emptyN) E (.cons .nil (.cons .nil (.cons .nil (.cons .nil (.cons .nil (.cons .nil (.cons .nil (.cons .nil .nil)))))))) ?_
 refine T ?_
 exact D
theorem Z2 {n:Net} (h:Af n=true) {i:Nat} (hi:i<n.floods.length):Ht n n.floods[i]=true:=by
 simp only[Af,Bool.and_eq_true]at h
 exact allB_iff.1 h.1.1.2 i hi
theorem Aev (n:Net) (hn:n.Fin) (hr:Af n=true) (f:Flood) (hf:f∈n.floods):Sy.Spec Tryz.prog 60 [Ao n,A3 f] [] (Ab (agreesB n f)) []:=cT F60 Tryz.ntmps60 fun F hF=>by
 have hfd:0≤f.dev∧f.dev.toNat<n.devices.length:=by
  obtain ⟨j,hj,rfl⟩:=List.getElem_of_mem hf
  have:=Z2 hr hj
  simp only[Ht,Al,Bool.and_eq_true,decide_eq_true_eq]at this
  omega
 have hfa:f.addrs.length<2147483648:=hn.addrs f hf
 have hown:(nth n.devices f.dev).vtep=(n.devices[f.dev.toNat]'hfd.2).vtep:=by rw[A7 hfd.2]
 have q1:=Lu n hn f.dev f.vni
 have hres:=agreesB.eq_1 n f
 have hag:∀ a,agreeA n f a=_:=agreeA.eq_1 n f
 generalize agreesB n f=res at *
 generalize Ji n f.dev f.vni=v0 at *
 refine T ?_
 refine Bg 2 8 (Ao n) E E E ?_
 refine Bg 3 4 (A3 f) E E E ?_
 refine T ?_
 refine C q1 F63 ?_
 refine B3 (fun j:Nat=>j≤f.addrs.length) (fun j=>[(2,.ref 8 (Ao n) 0),(3,.ref 4 (A3 f) 0),(5,A9 (n.devices[f.dev.toNat]'hfd.2).vtep),(6,Ab (decide (0≤v0) && (f.addrs.take j).all (agreeA n f))),(28,.sl 1 A9 f.addrs),(29,Aa f.addrs.length),(30,Aa j)]) (fun _=>[]) (fun j=>f.addrs.length-j) 0 [] q_ ⟨⟨E,E,E,E,E,E,congrArg Ab y_,E,E,E,E,E,E,E,Y⟩,Y,E,E⟩ ?_
 intro j hj
 refine T ?_
 refine⟨fun h=>?_,fun h=>?_⟩
 ·have hlt:j<f.addrs.length:=qA h
  have hj0:((j:Nat):Int).toNat<f.addrs.length:=hlt
  clear h
  have qo:=Yn n hn (f.addrs[((j:Nat):Int).toNat]'hj0)
  have hA:=hag (f.addrs[((j:Nat):Int).toNat]'hj0)
  have hsn:(f.addrs.take (j+1)).all (agreeA n f)=((f.addrs.take j).all (agreeA n f) && agreeA n f (f.addrs[((j:Nat):Int).toNat]'hj0)):=by
   rw[List.take_succ_eq_append_getElem hlt,List.all_append]
   simp only[List.all_cons,List.all_nil,Bool.and_true]
   rfl
  have hwhole:agreeA n f (f.addrs[((j:Nat):Int).toNat]'hj0)=false→f.addrs.all (agreeA n f)=false:=fun h=>by
   rw[List.all_eq_false]
   exact⟨_,List.getElem_mem hj0,by rw[h];simp⟩
  have hpart:(f.addrs.take j).all (agreeA n f)=false→f.addrs.all (agreeA n f)=false:=fun h=>by
   rw[List.all_eq_false]at h ⊢
   obtain ⟨x,hx,hx2⟩:=h
   exact⟨x,List.mem_of_mem_take hx,hx2⟩
  have qf:=Lu n hn (C5 n (f.addrs[((j:Nat):Int).toNat]'hj0)) f.vni
  have ql:=Uq n hn (C5 n (f.addrs[((j:Nat):Int).toNat]'hj0)) f.vni
  cases ho:(decide (0≤v0) && (f.addrs.take j).all (agreeA n f)) with
  | false =>
   have hr0:res=false:=by
    rw[hres]
    cases hd:decide (0≤v0)
    ·rfl
    ·rw[hd,Bool.true_and]at ho
     rw[hpart ho];rfl
   subst hr0
   generalize C5 n (f.addrs[((j:Nat):Int).toNat]'hj0)=dv at *
   refine T ?_
   refine C qo F64 ?_
   exact D
  | true =>
   have hdr:C5 n (f.addrs[((j:Nat):Int).toNat]'hj0)<0∨0≤C5 n (f.addrs[((j:Nat):Int).toNat]'hj0):=by omega
   have hlr:Em n (C5 n (f.addrs[((j:Nat):Int).toNat]'hj0)) f.vni<0∨∃ k:Nat,Em n (C5 n (f.addrs[((j:Nat):Int).toNat]'hj0)) f.vni=k∧k<n.floods.length:=by
    by_cases h:Em n (C5 n (f.addrs[((j:Nat):Int).toNat]'hj0)) f.vni<0
    ·exact .inl h
    ·exact .inr (Ep h)
   generalize Ji n (C5 n (f.addrs[((j:Nat):Int).toNat]'hj0)) f.vni=fv at *
   generalize Em n (C5 n (f.addrs[((j:Nat):Int).toNat]'hj0)) f.vni=lv at *
   generalize C5 n (f.addrs[((j:Nat):Int).toNat]'hj0)=dv at *
   by_cases k1:dv<0
   ·have g1:decide (dv≥0)=false:=decide_eq_false q_
    have g1n:(!(decide (dv≥0)))=true:=by rw[g1];rfl
    have hr0:res=false:=by rw[hres,hwhole (by rw[hA,decide_eq_false (by omega:¬ 0≤dv)];rfl),Bool.and_false]
    subst hr0
    refine T ?_
    refine C qo F64 ?_
    exact D
   have g1:decide (dv≥0)=true:=decide_eq_true q_
   rw[decide_eq_true (by omega:0≤dv),Bool.true_and]at hA
   by_cases k2:(f.addrs[((j:Nat):Int).toNat]'hj0)=0
   ·have g2:((f.addrs[((j:Nat):Int).toNat]'hj0) != 0)=false:=by rw[bne_eq_false_iff_eq];exact k2
    have g2n:(!((f.addrs[((j:Nat):Int).toNat]'hj0) != 0))=true:=by rw[g2];rfl
    have hr0:res=false:=by rw[hres,hwhole (by rw[hA,g2];rfl),Bool.and_false]
    subst hr0
    refine T ?_
    refine C qo F64 ?_
    exact D
   have g2:((f.addrs[((j:Nat):Int).toNat]'hj0) != 0)=true:=by rw[bne_iff_ne];exact k2
   rw[g2,Bool.true_and]at hA
   by_cases k3:fv<0
   ·have g3:decide (fv≥0)=false:=decide_eq_false q_
    have g3n:(!(decide (fv≥0)))=true:=by rw[g3];rfl
    have hr0:res=false:=by rw[hres,hwhole (by rw[hA,decide_eq_false (by omega:¬ 0≤fv)];rfl),Bool.and_false]
    subst hr0
    refine T ?_
    refine C qo F64 ?_
    refine C qf F63 ?_
    exact D
   have g3:decide (fv≥0)=true:=decide_eq_true q_
   rw[decide_eq_true (by omega:0≤fv),Bool.true_and]at hA
   by_cases k4:lv<0
   ·have g4:decide (lv≥0)=false:=decide_eq_false q_
    have g4n:(!(decide (lv≥0)))=true:=by rw[g4];rfl
    have hr0:res=false:=by rw[hres,hwhole (by rw[hA,decide_eq_false (by omega:¬ 0≤lv)];rfl),Bool.and_false]
    subst hr0
    refine T ?_
    refine C qo F64 ?_
    refine C qf F63 ?_
    refine C ql F62 ?_
    refine Ar E (.cons .tmp .nil) (congrArg Ab g4.symm) E
   have g4:decide (lv≥0)=true:=decide_eq_true q_
   have g4n:(!(decide (lv≥0)))=false:=by rw[g4];rfl
   rw[decide_eq_true (by omega:0≤lv),Bool.true_and]at hA
   obtain ⟨m,hm,hml⟩:=hlr.resolve_left k4
   subst hm
   have hm0:((m:Nat):Int).toNat<n.floods.length:=hml
   rw[A7 hm0,hown]at hA
   have hfar:=hn.addrs _ (List.getElem_mem hm0)
   have qc:=Jd (n.floods[((m:Nat):Int).toNat]'hm0).addrs (n.devices[f.dev.toNat]'hfd.2).vtep hfar
   have qcb:=fun b=>Jd (n.floods[((m:Nat):Int).toNat]'hm0).addrs b hfar
   have hnx:(decide (0≤v0) && (f.addrs.take (j+1)).all (agreeA n f))=(inB (n.floods[((m:Nat):Int).toNat]'hm0).addrs (n.devices[f.dev.toNat]'hfd.2).vtep && f.addrs.all fun b=>b == (f.addrs[((j:Nat):Int).toNat]'hj0) || inB (n.floods[((m:Nat):Int).toNat]'hm0).addrs b):=by
    rw[hsn,← Bool.and_assoc,ho,Bool.true_and,hA]
   clear hA hsn hwhole hpart ho hag
   refine T ?_
   refine C qo F64 ?_
   refine C qf F63 ?_
   refine C ql F62 ?_
   refine C ql F62 ?_
   refine C qc F150 ?_
   refine B3 (fun k:Nat=>k≤f.addrs.length) (fun k=>[(2,.ref 8 (Ao n) 0),(3,.ref 4 (A3 f) 0),(5,A9 (n.devices[f.dev.toNat]'hfd.2).vtep),(6,Ab (inB (n.floods[((m:Nat):Int).toNat]'hm0).addrs (n.devices[f.dev.toNat]'hfd.2).vtep && (f.addrs.take k).all fun b=>b == (f.addrs[((j:Nat):Int).toNat]'hj0) || inB (n.floods[((m:Nat):Int).toNat]'hm0).addrs b)),(8,A9 (f.addrs[((j:Nat):Int).toNat]'hj0)),(10,.sl 1 A9 (n.floods[((m:Nat):Int).toNat]'hm0).addrs),(28,.sl 1 A9 f.addrs),(29,Aa f.addrs.length),(30,Aa j),(78,.sl 1 A9 f.addrs),(79,Aa f.addrs.length),(80,Aa k)]) (fun _=>[]) (fun k=>f.addrs.length-k) 0 [] q_ ⟨⟨E,E,E,E,E,E,congrArg Ab y_,E,E,E,E,E,E,E,E,E,E,E,E,E,E,E,E,E,Y⟩,Y,E,E⟩ ?_
   intro k hk
   refine T ?_
   refine⟨fun h=>?_,fun h=>?_⟩
   ·have hlt2:k<f.addrs.length:=qA h
    have hk0:((k:Nat):Int).toNat<f.addrs.length:=hlt2
    clear h
    have hsn:(f.addrs.take (k+1)).all (fun b=>b == (f.addrs[((j:Nat):Int).toNat]'hj0) || inB (n.floods[((m:Nat):Int).toNat]'hm0).addrs b)=((f.addrs.take k).all (fun b=>b == (f.addrs[((j:Nat):Int).toNat]'hj0) || inB (n.floods[((m:Nat):Int).toNat]'hm0).addrs b) && ((f.addrs[((k:Nat):Int).toNat]'hk0) == (f.addrs[((j:Nat):Int).toNat]'hj0) || inB (n.floods[((m:Nat):Int).toNat]'hm0).addrs (f.addrs[((k:Nat):Int).toNat]'hk0))):=by
     rw[List.take_succ_eq_append_getElem hlt2,List.all_append]
     simp only[List.all_cons,List.all_nil,Bool.and_true]
     rfl
    have hst:(inB (n.floods[((m:Nat):Int).toNat]'hm0).addrs (n.devices[f.dev.toNat]'hfd.2).vtep && (f.addrs.take (k+1)).all fun b=>b == (f.addrs[((j:Nat):Int).toNat]'hj0) || inB (n.floods[((m:Nat):Int).toNat]'hm0).addrs b)=((inB (n.floods[((m:Nat):Int).toNat]'hm0).addrs (n.devices[f.dev.toNat]'hfd.2).vtep && (f.addrs.take k).all fun b=>b == (f.addrs[((j:Nat):Int).toNat]'hj0) || inB (n.floods[((m:Nat):Int).toNat]'hm0).addrs b) && ((f.addrs[((k:Nat):Int).toNat]'hk0) == (f.addrs[((j:Nat):Int).toNat]'hj0) || inB (n.floods[((m:Nat):Int).toNat]'hm0).addrs (f.addrs[((k:Nat):Int).toNat]'hk0))):=by
     rw[hsn,Bool.and_assoc]
    have qb:=qcb (f.addrs[((k:Nat):Int).toNat]'hk0)
    cases ho2:(inB (n.floods[((m:Nat):Int).toNat]'hm0).addrs (n.devices[f.dev.toNat]'hfd.2).vtep && (f.addrs.take k).all fun b=>b == (f.addrs[((j:Nat):Int).toNat]'hj0) || inB (n.floods[((m:Nat):Int).toNat]'hm0).addrs b) with
    | false =>
     rw[ho2,Bool.false_and]at hst
     refine T ?_
     exact Az (k+1) [] hlt2 q_ ⟨⟨E,E,E,E,E,E,congrArg Ab hst,E,E,E,E,E,E,E,E,E,E,E,E,E,E,E,E,E,Y⟩,Y,E,E⟩
    | true =>
     rw[ho2,Bool.true_and]at hst
     cases he:((f.addrs[((k:Nat):Int).toNat]'hk0) == (f.addrs[((j:Nat):Int).toNat]'hj0)) with
     | true =>
      rw[he,Bool.true_or]at hst
      refine T ?_
      exact Az (k+1) [] hlt2 q_ ⟨⟨E,E,E,E,E,E,congrArg Ab hst,E,E,E,E,E,E,E,E,E,E,E,E,E,E,E,E,E,Y⟩,Y,E,E⟩
     | false =>
      rw[he,Bool.false_or]at hst
      refine T ?_
      refine C qb F150 ?_
      exact Az (k+1) [] hlt2 q_ ⟨⟨E,E,E,E,E,E,congrArg Ab hst,E,E,E,E,E,E,E,E,E,E,E,E,E,E,E,E,E,Y⟩,Y,E,E⟩
   ·have hke:k=f.addrs.length:=qB h
    clear h
    rw[hke,List.take_length]
    refine T ?_
    exact Az (j+1) [] hlt q_ ⟨⟨E,E,E,E,E,E,congrArg Ab hnx,E,E,E,E,E,E,E,Y⟩,Y,E,E⟩
 ·have hje:j=f.addrs.length:=qB h
  clear h
  subst hje
  rw[List.take_length,← hres]
  refine T ?_
  exact D
theorem Sd {α:Type} {p:α→Bool}:∀ {l:List α} {j:Nat} (hj:j<l.length),(∀ k (hk:k<l.length),k<j→p l[k]=false)→p l[j]=true→l.find? p=some l[j]
 | x::l,0,_,_,h2=>by
  rw[List.getElem_cons_zero]at h2 ⊢
  rw[List.find?_cons,h2]
 | x::l,j+1,hj,h1,h2=>by
  rw[List.getElem_cons_succ]at h2 ⊢
  have h0:=h1 0 y_ q_
  rw[List.getElem_cons_zero]at h0
  rw[List.find?_cons,h0]
  exact Sd (by simpa using hj) (fun k hk hkj=>by
   have:=h1 (k+1) (by simp;omega) q_
   rwa [List.getElem_cons_succ]at this) h2
def Jk (n:Net) (j:Nat):List Domain:=(n.domains.take j).map (fun d=>{ d with peers:=peersT n d })++n.domains.drop j
theorem Aax (n:Net):Jk n 0=n.domains:=by simp[Jk]
theorem Acq (n:Net):Jk n n.domains.length=(Eu n).domains:=by simp[Jk,Eu]
theorem Acp (n:Net) {j:Nat} (hj:j≤n.domains.length):(Jk n j).length=n.domains.length:=by simp[Jk];omega
theorem Aay (n:Net) {j:Nat} (hj:j<n.domains.length) (h:((j:Nat):Int).toNat<(Jk n j).length) :
  (Jk n j)[((j:Nat):Int).toNat]'h=n.domains[j]∧(Jk n j).set ((j:Nat):Int).toNat { n.domains[j] with peers:=peersT n n.domains[j] }=Jk n (j+1):=by
 have hl:((n.domains.take j).map (fun d=>{ d with peers:=peersT n d })).length=j:=by simp;omega
 have e:Jk n j=(n.domains.take j).map (fun d=>{ d with peers:=peersT n d })++n.domains[j]::n.domains.drop (j+1):=by
  rw[Jk,List.drop_eq_getElem_cons hj]
 have e2:Jk n (j+1)=(n.domains.take j).map (fun d=>{ d with peers:=peersT n d })++{ n.domains[j] with peers:=peersT n n.domains[j] }::n.domains.drop (j+1):=by
  rw[Jk,List.take_succ_eq_append_getElem hj,List.map_append,List.map_cons,List.map_nil,List.append_assoc];rfl
 constructor
 ·simp only[Int.toNat_natCast,e]
  rw[List.getElem_append_right q_]
  simp only[hl,Nat.sub_self,List.getElem_cons_zero]
 ·rw[Int.toNat_natCast,e,e2,List.set_append_right _ _ q_,hl,Nat.sub_self]
  rfl
theorem Adh (n:Net) (h:Af n=true):(∀ f∈n.floods,f.addrs.length≤16):=fun f hf=>by
 obtain ⟨j,hj,rfl⟩:=List.getElem_of_mem hf
 have:=Z2 h hj
 simp only[Ht,Bool.and_eq_true,decide_eq_true_eq]at this
 exact this.2
theorem Aas {n:Net} (h:Af n=true) (d:Domain):(peersT n d).length≤16:=by
 unfold peersT
 split
 ·rename_i hc
  rw[List.length_map]
  have hl:=U3 (fun f:Flood=>f.dev == d.dev && f.vni == d.vni) n.floods
  have h0:(Em n d.dev d.vni).toNat<n.floods.length:=by
   have e:Em n d.dev d.vni=Br (fun f:Flood=>f.dev == d.dev && f.vni == d.vni) n.floods:=rfl
   have:=hc.2
   omega
  rw[A7 h0]
  exact Adh n h _ (List.getElem_mem h0)
 ·simp
theorem Qw {n:Net} (hn:n.Fin) (h:Af n=true):(Eu n).Fin:=by
 have hl:(Eu n).domains.length=n.domains.length:=by simp[Eu]
 refine { hn with domains:=?_,peers:=?_ }
 ·show (Eu n).domains.length<_
  rw[hl];exact hn.domains
 ·intro p hp
  have hp:p∈n.domains.map fun d=>{ d with peers:=peersT n d }:=hp
  obtain ⟨d,_,rfl⟩:=List.mem_map.1 hp
  show (peersT n d).length<_
  have:=Aas h d
  omega
theorem meshS (n:Net) (hn:n.Fin):Sy.Spec Tryz.prog 23 [Ao n] [] (.tup [Ao (meshNT n).1,Aa (meshNT n).2.1,Aa (meshNT n).2.2]) []:=cT F23 Tryz.ntmps23 fun F hF=>by
 have qn:=Bn n hn
 have qcopy:=Jc n hn
 have hres:=meshNT.eq_1 n
 generalize meshNT n=res at *
 cases hr:Af n with
 | false =>
  rw[hr]at qn
  rw[hr,if_pos rfl]at hres
  subst hres
  refine T ?_
  refine C qn F25 ?_
  refine Ae 2 (B1 emptyN) E (.cons .nil (.cons .nil (.cons .nil (.cons .nil (.cons .nil (.cons .nil (.cons .nil (.cons .nil .nil)))))))) ?_
  refine T ?_
  exact D
 | true =>
 rw[hr]at qn
 rw[hr,if_neg y_]at hres
 have hff:n.floods.length<2147483648:=hn.floods
 have hdd:n.domains.length<2147483648:=hn.domains
 refine T ?_
 refine C qn F25 ?_
 refine Bg 1 8 (Ao n) E E E ?_
 refine B3 (fun j:Nat=>j≤n.floods.length∧∀ k (hk:k<n.floods.length),k<j→agreesB n n.floods[k]=true) (fun j=>[(1,.ref 8 (Ao n) 0),(2,.ptr 1001 0),(18,.sl 4 A3 n.floods),(19,Aa n.floods.length),(20,Aa j)]) (fun _=>[(1001,.box [.val (.slice none 0 0),.val (.slice none 0 0),.val (.slice none 0 0),.val (.slice none 0 0),.val (.slice none 0 0),.val (.slice none 0 0),.val (.slice none 0 0),.val (.slice none 0 0)])]) (fun j=>n.floods.length-j) 0 [(1001,2)] ⟨by omega,fun k hk h=>by omega⟩ U ?_
 rintro j ⟨hj,hI⟩
 refine T ?_
 refine⟨fun h=>?_,fun h=>?_⟩
 ·have hlt:j<n.floods.length:=qA h
  have hj0:((j:Nat):Int).toNat<n.floods.length:=hlt
  clear h
  have q:=Aev n hn hr (n.floods[((j:Nat):Int).toNat]'hj0) (List.getElem_mem hj0)
  cases ha:agreesB n (n.floods[((j:Nat):Int).toNat]'hj0) with
  | false =>
   rw[ha]at q
   rw[Sd (p:=fun f=>!(agreesB n f)) hlt (fun k hk hkj=>by simp only[hI k hk hkj];rfl) (by show (!(agreesB n (n.floods[((j:Nat):Int).toNat]'hj0)))=true;rw[ha];rfl)]at hres
   dsimp only at hres
   subst hres
   refine T ?_
   refine C q F60 ?_
   refine Ae 1001 (B1 emptyN) E (.cons .nil (.cons .nil (.cons .nil (.cons .nil (.cons .nil (.cons .nil (.cons .nil (.cons .nil .nil)))))))) ?_
   refine T ?_
   exact D
  | true =>
   rw[ha]at q
   refine T ?_
   refine C q F60 ?_
   refine Az (j+1) [] ⟨hlt,fun k hk hkj=>?_⟩ q_ U
   by_cases e:k=j
   ·subst e;exact ha
   ·exact hI k hk q_
 ·have hje:j=n.floods.length:=qB h
  clear h
  have hnone:n.floods.find? (fun f=>!(agreesB n f))=none:=by
   rw[List.find?_eq_none]
   intro x hx
   obtain ⟨k,hk,rfl⟩:=List.getElem_of_mem hx
   rw[hI k hk q_];simp
  rw[hnone]at hres
  dsimp only at hres
  clear hI hj hje hnone
  refine T ?_
  refine X (Ac [(0,901),(1,902),(2,903),(3,904),(4,905),(5,906),(6,907),(7,908)] E F61 qcopy E W E V) ?_
  refine B3 (fun j:Nat=>j≤n.domains.length) (fun j=>[(1,.ref 8 (Ao n) 0),(2,.ptr 1001 0),(35,.sl 6 Ai n.domains),(36,Aa n.domains.length),(37,Aa j)]) (fun j=>[(1001,.box [.osl 901,.osl 902,.osl 903,.osl 1004,.osl 905,.osl 906,.osl 907,.osl 908]),(901,.row 5 Au n.devices),(902,.row 7 A2 n.ports),(903,.row 3 Bt n.links),(1004,.row 6 Ai (Jk n j)),(905,.row 4 A1 n.statics),(906,.row 4 A3 n.floods),(907,.row 5 Bz n.vrfs),(908,.row 5 By n.irbs)]) (fun j=>n.domains.length-j) 0 [(1004,904)] q_ ⟨⟨E,E,E,E,E,E,E,E,E,E,Y⟩,⟨.inl E,E,.inl E,E,.inl E,E,.inl E,E,.inl (congrArg (Ob.row 6 Ai) (Aax n)),E,.inl E,E,.inl E,E,.inl E,E,.inl E,E,Y⟩,E,E⟩ ?_
  intro j hj
  have hml:=Acp n hj
  refine T ?_
  refine⟨fun h=>?_,fun h=>?_⟩
  ·have hlt:j<n.domains.length:=qA h
   have hj0:((j:Nat):Int).toNat<n.domains.length:=hlt
   clear h
   have hjm:((j:Nat):Int).toNat<(Jk n j).length:=by rw[hml];exact hj0
   obtain ⟨m1,m2⟩:=Aay n hlt hjm
   have hDj:n.domains[j]=(n.domains[((j:Nat):Int).toNat]'hj0):=rfl
   rw[hDj]at m1 m2
   have hne:Jk n j≠[]:=fun e=>by rw[e]at hjm;cases hjm
   have ql:=Uq n hn (n.domains[((j:Nat):Int).toNat]'hj0).dev (n.domains[((j:Nat):Int).toNat]'hj0).vni
   have hpt:=peersT.eq_1 n (n.domains[((j:Nat):Int).toNat]'hj0)
   have hlr:Em n (n.domains[((j:Nat):Int).toNat]'hj0).dev (n.domains[((j:Nat):Int).toNat]'hj0).vni<0∨∃ k:Nat,Em n (n.domains[((j:Nat):Int).toNat]'hj0).dev (n.domains[((j:Nat):Int).toNat]'hj0).vni=k∧k<n.floods.length:=by
    by_cases h:Em n (n.domains[((j:Nat):Int).toNat]'hj0).dev (n.domains[((j:Nat):Int).toNat]'hj0).vni<0
    ·exact .inl h
    ·exact .inr (Ep h)
   generalize Em n (n.domains[((j:Nat):Int).toNat]'hj0).dev (n.domains[((j:Nat):Int).toNat]'hj0).vni=lv at *
   generalize hpT:peersT n (n.domains[((j:Nat):Int).toNat]'hj0)=ps at *
   by_cases k1:(n.domains[((j:Nat):Int).toNat]'hj0).vni=0
   ·have g1:((n.domains[((j:Nat):Int).toNat]'hj0).vni != 0)=false:=by rw[bne_eq_false_iff_eq];exact k1
    rw[if_neg (fun h=>h.1 k1)]at hpt
    subst hpt
    refine T ?_
    refine De 9 1 Aa E ?_
    refine C ql F62 ?_
    refine⟨hne,?_⟩
    refine T ?_
    refine⟨(⟨(n.domains[((j:Nat):Int).toNat]'hj0).dev,(n.domains[((j:Nat):Int).toNat]'hj0).vlan,(n.domains[((j:Nat):Int).toNat]'hj0).vni,(n.domains[((j:Nat):Int).toNat]'hj0).irb,(n.domains[((j:Nat):Int).toNat]'hj0).row,[]⟩:Domain),by rw[m1];rfl,by rw[m1];rfl,?_⟩
    refine T ?_
    exact Az (j+1) [] hlt q_ ⟨⟨E,E,E,E,E,E,E,E,E,E,Y⟩,⟨.inl E,E,.inl E,E,.inl E,E,.inl E,E,.inl (congrArg (Ob.row 6 Ai) m2.symm),E,.inl E,E,.inl E,E,.inl E,E,.inl E,E,Y⟩,E,E⟩
   have g1:((n.domains[((j:Nat):Int).toNat]'hj0).vni != 0)=true:=by rw[bne_iff_ne];exact k1
   by_cases k2:lv<0
   ·have g2:decide (lv≥0)=false:=decide_eq_false q_
    rw[if_neg (fun h=>by have:=h.2;omega)]at hpt
    subst hpt
    refine T ?_
    refine De 9 1 Aa E ?_
    refine C ql F62 ?_
    refine⟨hne,?_⟩
    refine T ?_
    refine⟨(⟨(n.domains[((j:Nat):Int).toNat]'hj0).dev,(n.domains[((j:Nat):Int).toNat]'hj0).vlan,(n.domains[((j:Nat):Int).toNat]'hj0).vni,(n.domains[((j:Nat):Int).toNat]'hj0).irb,(n.domains[((j:Nat):Int).toNat]'hj0).row,[]⟩:Domain),by rw[m1];rfl,by rw[m1];rfl,?_⟩
    refine T ?_
    exact Az (j+1) [] hlt q_ ⟨⟨E,E,E,E,E,E,E,E,E,E,Y⟩,⟨.inl E,E,.inl E,E,.inl E,E,.inl E,E,.inl (congrArg (Ob.row 6 Ai) m2.symm),E,.inl E,E,.inl E,E,.inl E,E,.inl E,E,Y⟩,E,E⟩
   obtain ⟨m,hm,hmf⟩:=hlr.resolve_left k2
   subst hm
   clear hlr
   have g2:decide ((m:Int)≥0)=true:=decide_eq_true q_
   have hm0:((m:Nat):Int).toNat<n.floods.length:=hmf
   rw[if_pos ⟨k1,by omega⟩,A7 hm0]at hpt
   have hfa:=Adh n hr _ (List.getElem_mem hm0)
   refine T ?_
   refine C3 9 1200 1 Aa E E ?_
   refine C ql F62 ?_
   refine Bg 8 6 (Ai (n.domains[((j:Nat):Int).toNat]'hj0)) E E E ?_
   refine B3 (fun k:Nat=>k≤(n.floods[((m:Nat):Int).toNat]'hm0).addrs.length) (fun k=>[(1,.ref 8 (Ao n) 0),(2,.ptr 1001 0),(7,Aa j),(8,.ref 6 (Ai (n.domains[((j:Nat):Int).toNat]'hj0)) 0),(9,.osl 1200),(35,.sl 6 Ai n.domains),(36,Aa n.domains.length),(37,Aa j),(60,.sl 1 A9 (n.floods[((m:Nat):Int).toNat]'hm0).addrs),(61,Aa (n.floods[((m:Nat):Int).toNat]'hm0).addrs.length),(62,Aa k)]) (fun k=>[(1001,.box [.osl 901,.osl 902,.osl 903,.osl 1004,.osl 905,.osl 906,.osl 907,.osl 908]),(901,.row 5 Au n.devices),(902,.row 7 A2 n.ports),(903,.row 3 Bt n.links),(1004,.row 6 Ai (Jk n j)),(905,.row 4 A1 n.statics),(906,.row 4 A3 n.floods),(907,.row 5 Bz n.vrfs),(908,.row 5 By n.irbs),(1200,.row 1 Aa (((n.floods[((m:Nat):Int).toNat]'hm0).addrs.take k).map (fun a=>Ji n (C5 n a) (n.domains[((j:Nat):Int).toNat]'hj0).vni)))]) (fun k=>(n.floods[((m:Nat):Int).toNat]'hm0).addrs.length-k) 0 [] q_ U ?_
   intro k hk
   refine T ?_
   refine⟨fun h=>?_,fun h=>?_⟩
   ·have hlt2:k<(n.floods[((m:Nat):Int).toNat]'hm0).addrs.length:=qA h
    have hk0:((k:Nat):Int).toNat<(n.floods[((m:Nat):Int).toNat]'hm0).addrs.length:=hlt2
    clear h
    have qo:=Yn n hn ((n.floods[((m:Nat):Int).toNat]'hm0).addrs[((k:Nat):Int).toNat]'hk0)
    have qf:=Lu n hn (C5 n ((n.floods[((m:Nat):Int).toNat]'hm0).addrs[((k:Nat):Int).toNat]'hk0)) (n.domains[((j:Nat):Int).toNat]'hj0).vni
    have hsn:((n.floods[((m:Nat):Int).toNat]'hm0).addrs.take (k+1)).map (fun a=>Ji n (C5 n a) (n.domains[((j:Nat):Int).toNat]'hj0).vni)=((n.floods[((m:Nat):Int).toNat]'hm0).addrs.take k).map (fun a=>Ji n (C5 n a) (n.domains[((j:Nat):Int).toNat]'hj0).vni)++[Ji n (C5 n ((n.floods[((m:Nat):Int).toNat]'hm0).addrs[((k:Nat):Int).toNat]'hk0)) (n.domains[((j:Nat):Int).toNat]'hj0).vni]:=by
     rw[List.take_succ_eq_append_getElem hlt2,List.map_append];rfl
    have hrl:(((n.floods[((m:Nat):Int).toNat]'hm0).addrs.take k).map (fun a=>Ji n (C5 n a) (n.domains[((j:Nat):Int).toNat]'hj0).vni)).length≤16:=by rw[List.length_map,List.length_take];omega
    refine T ?_
    refine C qo F64 ?_
    refine C qf F63 ?_
    refine Xd (Ak Γ.toTy 75 E E E E E (.row E) (.lit (e:=Aa) (l:=[Ji n (C5 n ((n.floods[((m:Nat):Int).toNat]'hm0).addrs[((k:Nat):Int).toNat]'hk0)) (n.domains[((j:Nat):Int).toNat]'hj0).vni]) E E) j_ (by simp only[List.length_singleton];omega) (by simp only[List.length_singleton];omega)) ?_
    refine T ?_
    exact Az (k+1) [(1200,75)] hlt2 q_ ⟨⟨E,E,E,E,E,E,E,E,E,E,E,E,E,E,E,E,E,E,E,E,E,E,Y⟩,⟨.inl E,E,.inl E,E,.inl E,E,.inl E,E,.inl E,E,.inl E,E,.inl E,E,.inl E,E,.inl E,E,.inl (congrArg (Ob.row 1 Aa) hsn),E,Y⟩,E,E⟩
   ·have hke:k=(n.floods[((m:Nat):Int).toNat]'hm0).addrs.length:=qB h
    clear h
    rw[hke,List.take_length,← hpt]
    refine Ag 1200 E ?_
    refine T ?_
    refine⟨hne,?_⟩
    refine T ?_
    refine⟨(⟨(n.domains[((j:Nat):Int).toNat]'hj0).dev,(n.domains[((j:Nat):Int).toNat]'hj0).vlan,(n.domains[((j:Nat):Int).toNat]'hj0).vni,(n.domains[((j:Nat):Int).toNat]'hj0).irb,(n.domains[((j:Nat):Int).toNat]'hj0).row,ps⟩:Domain),by rw[m1];rfl,by rw[m1];rfl,?_⟩
    refine T ?_
    exact Az (j+1) [] hlt q_ ⟨⟨E,E,E,E,E,E,E,E,E,E,Y⟩,⟨.inl E,E,.inl E,E,.inl E,E,.inl E,E,.inl (congrArg (Ob.row 6 Ai) m2.symm),E,.inl E,E,.inl E,E,.inl E,E,.inl E,E,Y⟩,E,E⟩
  ·have hje:j=n.domains.length:=qB h
   clear h
   subst hje
   rw[Acq]
   have qm:=Bn (Eu n) (Qw hn hr)
   refine T ?_
   refine Ag 901 E ?_
   refine Ag 902 E ?_
   refine Ag 903 E ?_
   refine Ag 1004 E ?_
   refine Ag 905 E ?_
   refine Ag 906 E ?_
   refine Ag 907 E ?_
   refine Ag 908 E ?_
   cases hb:Af (Eu n) with
   | false =>
    rw[hb]at qm
    rw[hb,if_pos rfl]at hres
    subst hres
    refine C qm F25 ?_
    refine Ae 1001 (B1 emptyN) E (.cons .nil (.cons .nil (.cons .nil (.cons .nil (.cons .nil (.cons .nil (.cons .nil (.cons .nil .nil)))))))) ?_
    refine T ?_
    exact D
   | true =>
    rw[hb]at qm
    rw[hb,if_neg y_]at hres
    subst hres
    refine C qm F25 ?_
    exact D
end Go.Sy.YtjenpnjajjplkaaGreatDoor
namespace Go.Sy.YtjenpnjajjplkaaGreatDoor
open Go.Proofs
set_option maxHeartbeats 4000000
structure PutP (x:Net × Int):Prop where
 fin:x.1.Fin
 addrs:Hx x.1
 none:x.2≠0→x.1=emptyN
theorem Ip:emptyN.Fin:=by
 constructor<;>first | (show (0:Nat)<2147483648;decide) | (intro p hp;cases hp)
theorem Aw (e:Int):PutP (emptyN,e):=⟨Ip,(fun x hx=>by cases hx),fun _=>rfl⟩
theorem Hf {n:Net} (h:n.Fin) (a:Hx n):PutP (n,0):=⟨h,a,fun h=>absurd rfl h⟩
theorem J6 {n:Net} {l:LineM} {k:Int} (h:¬ fitsB n l k=false):n.devices.length≤8∧n.ports.length≤40∧n.links.length≤20∧n.domains.length≤48∧n.statics.length≤64∧n.floods.length≤48∧n.vrfs.length≤16∧n.irbs.length≤48:=by
 have h:fitsB n l k=true:=by simpa using h
 rw[fitsB,Bool.and_eq_true,Bool.and_eq_true]at h
 have h3:=h.2.2
 simp only[Af,Bool.and_eq_true]at h3
 have h4:=h3.1.1.1.1.1.1.1.1
 simpa [Ww,and_assoc] using h4
theorem Md {n:Net} {l:LineM} {k:Int} (h:¬ (begT n l k).2≠0):n.devices.length≤8∧n.ports.length≤40∧n.links.length≤20∧n.domains.length≤48∧n.statics.length≤64∧n.floods.length≤48∧n.vrfs.length≤16∧n.irbs.length≤48:=by
 apply J6 (l:=l) (k:=k)
 intro h2
 rw[begT,if_pos h2]at h
 exact h j_
theorem B5 {α:Type} {l:List α} (h:l.length≤100000):Aq l:=by show l.length<2147483648;omega
theorem Ow (dev:Int):∀ (l:List Int) (ds:List Domain) (d:Domain),d∈At dev ds l→d∈ds∨d.peers=[]
 | [],_,_,h=>.inl h
 | v::l,ds,d,h=>by
  rcases Ow dev l (Bm dev ds v) d h with h | h
  ·unfold Bm at h
   split at h
   ·rcases List.mem_append.1 h with h | h
    ·exact .inl h
    ·rw[List.mem_singleton.1 h];exact .inr rfl
   ·exact .inl h
  ·exact .inr h
theorem Zt {α:Type} {l:List α} {i:Nat} {x y:α} (h:y∈l.set i x):y∈l∨y=x:=by
 rcases List.mem_or_eq_of_mem_set h with h | h
 ·exact .inl h
 ·exact .inr h
theorem Yo {α:Type} [Inhabited α] {l:List α} {i:Int} (h:i.toNat<l.length):nth l i∈l:=by rw[A7 h];exact List.getElem_mem h
theorem S0 {n:Net} {l:LineM} (hn:n.Fin) (ha:Hx n):PutP (putDevice n l):=by
 unfold putDevice
 split
 ·exact Aw _
 rename_i h
 have:=J6 h
 split
 ·exact Aw _
 split
 ·exact Aw _
 exact Hf { hn with devices:=B5 (by rw[List.length_append,List.length_singleton];omega) } ha
theorem V4 {n:Net} {l:LineM} (hn:n.Fin) (ha:Hx n) (hl:LineW l):PutP (putPort n l):=by
 unfold putPort
 split
 ·exact Aw _
 rename_i h
 have:=J6 h
 split
 ·exact Aw _
 split
 ·exact Aw _
 split
 ·exact Aw _
 split
 ·exact Aw _
 refine Hf { hn with ports:=B5 (by rw[List.length_append,List.length_singleton];omega),domains:=B5 (by dsimp only;omega),tagged:=fun p hp=>?_,peers:=fun d hd=>?_ } ha
 ·rcases List.mem_append.1 hp with hp | hp
  ·exact hn.tagged p hp
  ·rw[List.mem_singleton.1 hp];exact B5 hl.fin.t
 ·rcases Ow _ _ _ _ hd with h | h
  ·exact hn.peers d h
  ·exact B5 (by rw[h];exact Nat.zero_le _)
theorem Zm {l:List Port} {i k:Int} {p:Port} (h:p∈Df l i k) (hT:∀ p∈l,Aq p.tagged):Aq p.tagged:=by
 by_cases hi:i.toNat<l.length
 ·rcases Zt h with h | h
  ·exact hT p h
  ·rw[h];exact show Aq (nth l i).tagged from hT _ (Yo hi)
 ·rw[Df,List.set_eq_of_length_le q_]at h
  exact hT p h
theorem V5 {n:Net} {l:LineM} (hn:n.Fin) (ha:Hx n):PutP (putLink n l):=by
 unfold putLink
 split
 ·exact Aw _
 rename_i h
 have:=J6 h
 dsimp only
 split
 ·exact Aw _
 split
 ·exact Aw _
 split
 ·exact Aw _
 refine Hf { hn with ports:=B5 (by simp only[Df,List.length_set];omega),links:=B5 (by rw[List.length_append,List.length_singleton];omega),tagged:=fun p hp=>Zm hp fun q hq=>Zm hq hn.tagged } ha
theorem Sz {n:Net} {l:LineM} (hn:n.Fin) (ha:Hx n):PutP (putStatic n l):=by
 unfold putStatic
 split
 ·exact Aw _
 rename_i h
 have:=J6 h
 dsimp only
 split
 ·exact Aw _
 split
 ·exact Aw _
 split
 ·exact Aw _
 split
 ·exact Aw _
 exact Hf { hn with statics:=B5 (by rw[List.length_append,List.length_singleton];omega) } ha
theorem V3 {n:Net} {l:LineM} (hn:n.Fin) (ha:Hx n):PutP (putVtep n l):=by
 unfold putVtep
 split
 ·exact Aw _
 rename_i h
 have:=Md h
 dsimp only
 split
 ·exact Aw _
 exact Hf { hn with devices:=B5 (by simp only[Ul,List.length_set];omega) } ha
theorem Z3 {l:List Domain} {i:Nat} {e d:Domain} (h:d∈l.set i e) (he:i<l.length→Aq e.peers) (hT:∀ p∈l,Aq p.peers):Aq d.peers:=by
 by_cases hi:i<l.length
 ·rcases Zt h with h | h
  ·exact hT d h
  ·rw[h];exact he hi
 ·rw[List.set_eq_of_length_le q_]at h
  exact hT d h
theorem Yi {n:Net} {l:LineM} (hn:n.Fin) (ha:Hx n):PutP (putVni n l):=by
 unfold putVni
 split
 ·exact Aw _
 rename_i h
 have:=Md h
 dsimp only
 split
 ·exact Aw _
 split
 ·exact Aw _
 split
 ·exact Aw _
 exact Hf { hn with domains:=B5 (by simp only[List.length_set];omega),peers:=fun d hd=>Z3 hd (fun hi=>show Aq (nth n.domains _).peers from hn.peers _ (Yo hi)) hn.peers } ha
theorem Un {n:Net} {l:LineM} (hn:n.Fin) (ha:Hx n) (hl:LineW l):PutP (putFlood n l):=by
 unfold putFlood
 split
 ·exact Aw _
 rename_i h
 have:=Md h
 dsimp only
 split
 ·exact Aw _
 split
 ·exact Aw _
 split
 ·exact Aw _
 split
 ·exact Aw _
 refine Hf { hn with floods:=B5 (by rw[List.length_append,List.length_singleton];omega),addrs:=fun p hp=>?_ } ha
 rcases List.mem_append.1 hp with hp | hp
 ·exact hn.addrs p hp
 ·rw[List.mem_singleton.1 hp];exact B5 hl.fin.a
theorem Yh {n:Net} {l:LineM} (hn:n.Fin) (ha:Hx n) (hl:LineW l):PutP (putVrf n l):=by
 unfold putVrf
 split
 ·exact Aw _
 rename_i h
 have:=Md h
 dsimp only
 split
 ·exact Aw _
 split
 ·exact Aw _
 refine Hf { hn with vrfs:=B5 (by rw[List.length_append,List.length_singleton];omega),imports:=fun p hp=>?_,exports:=fun p hp=>?_ } ha
 ·rcases List.mem_append.1 hp with hp | hp
  ·exact hn.imports p hp
  ·rw[List.mem_singleton.1 hp];exact B5 hl.fin.i
 ·rcases List.mem_append.1 hp with hp | hp
  ·exact hn.exports p hp
  ·rw[List.mem_singleton.1 hp];exact B5 hl.fin.e
theorem Yj {n:Net} {l:LineM} (hn:n.Fin) (ha:Hx n) (hl:LineW l):PutP (putIrb n l):=by
 unfold putIrb
 split
 ·exact Aw _
 rename_i h
 have:=Md h
 dsimp only
 split
 ·exact Aw _
 split
 ·exact Aw _
 split
 ·exact Aw _
 refine Hf { hn with domains:=B5 (by simp only[List.length_set];omega),peers:=fun d hd=>Z3 hd (fun hi=>show Aq (nth n.domains _).peers from hn.peers _ (Yo hi)) hn.peers,irbs:=B5 (by rw[List.length_append,List.length_singleton];omega) } fun x hx=>?_
 rcases List.mem_append.1 hx with hx | hx
 ·exact ha x hx
 ·rw[List.mem_singleton.1 hx];exact hl.ok.addr
theorem Ad7 {n:Net} {l:LineM} (hn:n.Fin) (ha:Hx n) (hl:LineW l):PutP (putT n l):=by
 unfold putT
 split
 ·exact S0 hn ha
 split
 ·exact V4 hn ha hl
 split
 ·exact V5 hn ha
 split
 ·exact Sz hn ha
 split
 ·exact V3 hn ha
 split
 ·exact Yi hn ha
 split
 ·exact Un hn ha hl
 split
 ·exact Yh hn ha hl
 split
 ·exact Yj hn ha hl
 exact Aw _
theorem Aa0 {n:Net} (hn:n.Fin):(meshNT n).1.Fin:=by
 unfold meshNT
 split
 ·exact Ip
 rename_i h
 have h:Af n=true:=by simpa using h
 split
 ·exact Ip
 split
 ·exact Ip
 exact Qw hn h
end Go.Sy.YtjenpnjajjplkaaGreatDoor
namespace Go.Sy.YtjenpnjajjplkaaGreatDoor
open Go.Proofs
attribute [local irreducible] Go.Sy.G Go.Sy.DR
set_option maxRecDepth 100000
set_option maxHeartbeats 4000000
def Lk (dn lk:Int) (M:List LineM) (n:Net) (row e:Int):List SV:=[.val (.int .u32 dn),.val (.int .i32 lk),.val (.int .u32 0),.sl 17 Aj M]++B1 n++[Aa row,Aa e]
def Dc (dn lk:Int) (M:List LineM) (x:Net × Int × Int):Obs:=[(0,.box (Lk dn lk M x.1 x.2.1 x.2.2))]
theorem Acr {n:Net} (h:(meshNT n).2.2=0):(meshNT n).2.1=0:=by
 unfold meshNT at h ⊢
 split
 ·rfl
 rename_i h1
 rw[if_neg h1]at h
 split at h
 ·cases h
 ·rename_i h2
  split at h
  ·cases h
  ·rename_i h3
   rw[if_neg h3]
theorem Yb (M:List LineM) (hM:∀ l∈M,LineW l) (hl:M.length<2147483648) (dn lk:Int):Sy.Spec Tryz.prog 112 [.ptr 0 0] (Dc dn lk M (emptyN,0,0)) (.tup []) (Dc dn lk M (Bu M)):=cT F112 Tryz.ntmps112 fun F hF=>by
 refine T ?_
 refine B3 (fun x:Nat × Net=>x.1≤M.length∧x.2.Fin∧Hx x.2∧Bu M=Cm x.2 (M.drop x.1)) (fun x=>[(0,.ptr 0 0),(9,.sl 17 Aj M),(10,Aa M.length),(11,Aa x.1)]) (fun x=>Dc dn lk M (x.2,0,0)) (fun x=>M.length-x.1) (0,emptyN) [] ⟨by omega,Ip,(fun x hx=>by cases hx),rfl⟩ U ?_
 rintro ⟨j,n⟩ ⟨hj,hn,ha,hI⟩
 dsimp only at hj hn ha hI ⊢
 refine T ?_
 refine⟨fun h=>?_,fun h=>?_⟩
 ·have hlt:j<M.length:=qA h
  have hj0:((j:Nat):Int).toNat<M.length:=hlt
  clear h
  have hw:=hM _ (List.getElem_mem hj0)
  have q:=Aed n hn ha _ hw
  have hp:=Ad7 hn ha hw
  rw[List.drop_eq_getElem_cons hlt,Cm]at hI
  refine T ?_
  refine cD q F206 ?_
  refine T ?_
  refine⟨fun h=>?_,fun h=>?_⟩
  ·have hne:(putT n (M[((j:Nat):Int).toNat]'hj0)).2≠0:=by intro e;rw[e]at h;cases h
   have he:=hp.none hne
   have hI2:Bu M=(emptyN,(M[((j:Nat):Int).toNat]'hj0).row,(putT n (M[((j:Nat):Int).toNat]'hj0)).2):=hI.trans (if_pos hne)
   rw[hI2,← he]
   clear h
   refine T ?_
   exact done E .nil [] (Dc dn lk M ((putT n (M[((j:Nat):Int).toNat]'hj0)).1,(M[((j:Nat):Int).toNat]'hj0).row,(putT n (M[((j:Nat):Int).toNat]'hj0)).2)) (fun _ h=>h) E E U
  ·have he:(putT n (M[((j:Nat):Int).toNat]'hj0)).2=0:=by simpa using h
   have hI2:Bu M=Cm (putT n (M[((j:Nat):Int).toNat]'hj0)).1 (M.drop (j+1)):=hI.trans (if_neg (fun hh=>hh he))
   clear h
   refine T ?_
   exact Az (j+1,(putT n (M[((j:Nat):Int).toNat]'hj0)).1) [] ⟨hlt,hp.fin,hp.addrs,hI2⟩ (by dsimp only;omega) ⟨⟨E,E,E,E,E,E,E,E,Y⟩,⟨.inl (congrArg (fun e:Int=>Ob.box (Lk dn lk M (putT n (M[((j:Nat):Int).toNat]'hj0)).1 0 e)) he.symm),E,Y⟩,E,E⟩
 ·have hje:j=M.length:=qB h
  clear h
  rw[hje,List.drop_length,Cm]at hI
  rw[hI]
  have qm:=meshS n hn
  have hf:=finishT.eq_1 n
  refine T ?_
  refine C qm F23 ?_
  refine T ?_
  refine⟨fun h=>?_,fun h=>?_⟩
  ·have hne:(meshNT n).2.2≠0:=by intro e;rw[e]at h;cases h
   rw[if_pos hne]at hf
   rw[hf]
   clear h
   refine T ?_
   exact done E .nil [] (Dc dn lk M (meshNT n)) (fun _ h=>h) E E U
  have he:(meshNT n).2.2=0:=by simpa using h
  clear h
  have hrow:(meshNT n).2.1=0:=Acr he
  rw[if_neg (by rw[he];decide)]at hf
  have ql:=loopS (meshNT n).1 (Aa0 hn)
  refine T ?_
  refine C ql F24 ?_
  refine T ?_
  refine⟨fun h=>?_,fun h=>?_⟩
  ·rw[if_pos h]at hf
   rw[hf]
   clear h
   refine T ?_
   refine Ae 0 (Lk dn lk M emptyN (loopT (meshNT n).1).1 38) E (.cons (.refl _) (.cons (.refl _) (.cons (.refl _) (.cons (.refl _) (.cons .nil (.cons .nil (.cons .nil (.cons .nil (.cons .nil (.cons .nil (.cons .nil (.cons .nil (.cons (.refl _) (.cons (.refl _) .nil)))))))))))))) ?_
   exact Cb E .nil [] (Dc dn lk M (emptyN,(loopT (meshNT n).1).1,38)) (fun _ h=>h) E E U
  ·rw[if_neg (by rw[h];decide)]at hf
   rw[hf]
   clear h
   refine T ?_
   exact Cb E .nil [] (Dc dn lk M ((meshNT n).1,0,0)) (fun _ h=>h) E E ⟨Y,⟨.inl (congrArg (fun a:Int × Int=>Ob.box (Lk dn lk M (meshNT n).1 a.1 a.2)) (Prod.ext hrow.symm he.symm:((0:Int),(0:Int))=(meshNT n).2)),E,Y⟩,E,E⟩
theorem Zu (a:Addr) (x:Int) (w:World) (hc:w.cell? a=some (.int .u32 x)):(callFunc 276 #[.pointer (some a)]).run Tryz.prog w=.ok (.value (.int .u32 x)) w :=
 run_call_load Tryz.func276 z_ z_ z_ .u32 z_ hc
theorem Kv (w:World):(callFunc 396 #[]).run Tryz.prog w=.ok (.value (.tuple #[])) w:=run_call_mark0 Tryz.func396 z_ z_ z_ .disable z_ w
theorem Lt (w:World):(callFunc 398 #[]).run Tryz.prog w=.ok (.value (.tuple #[])) w:=run_call_mark0 Tryz.func398 z_ z_ z_ .enable z_ w
theorem Sx (a:Addr) (w:World):(callFunc 399 #[.pointer (some a)]).run Tryz.prog w=.ok (.value (.tuple #[])) w:=run_call_marked Tryz.func399 z_ z_ z_ .acquire z_ a w
theorem Sw (a:Addr) (w:World):(callFunc 401 #[.pointer (some a)]).run Tryz.prog w=.ok (.value (.tuple #[])) w:=run_call_marked Tryz.func401 z_ z_ z_ .releaseMerge z_ a w
theorem Oy (a:Addr) (x:Value) (u:FrameMode) (w:World) (hc:w.cell? a=some x) (hz:w.frozen? a=false) :
  CallsD Tryz.prog 279 #[.pointer (some a),.bool true] u w fun e u' w'=>u'=u∧(e=.returned (.tuple #[])∧w'=w.drew.setCell a (.int .u32 1)):=by
 have hc':w.drew.cell? a=some x:=by go_simp
 have hz':w.drew.frozen? a=false:=by go_simp
 have hst:=run_call_store (P:=Tryz.prog) Tryz.func335 z_ z_ z_ z_ (k:=.u32) (y:=1) hc' hz'
 go_enter_d Tryz.func279,Tryz.ntmps279
 go_wp2
 go_region_calls
 all_goals (go_end0;exact⟨rfl,rfl⟩)
theorem Mj (a:Addr) (u:FrameMode) (w:World) (hc:w.cell? a=some (.int .i32 1)) (hz:w.frozen? a=false) :
  CallsD Tryz.prog 278 #[.pointer (some a)] u w fun e u' w'=>u'=u∧(e=.returned (.tuple #[])∧w'=w.setCell a (.int .i32 0)):=by
 have hd:=Kv
 have he:=Lt
 have hr:=Sw
 have hadd:=run_call_add (P:=Tryz.prog) Tryz.func402 z_ z_ z_ .i32 z_ (y:=-1) (s:=0) hc hz (by simp[go_sem];rfl)
 have hcv:=run_convert_to_unsafe (P:=Tryz.prog) (src:=388) (dst:=380) Tryz.underlying388 Tryz.underlying380 z_ hc
 go_enter_d Tryz.func278,Tryz.ntmps278
 go_wp2
 go_end0
 go_wp2
 go_end0
 exact⟨E,E⟩
theorem Ys (a:Addr) (w:World) (hc:w.cell? a=some (.int .i32 0)) (hz:w.frozen? a=false) :
  Calls Tryz.prog 277 #[.pointer (some a)] w fun e w'=>e=.returned (.tuple #[])∧w'=w.setCell a (.int .i32 1):=by
 have hd:=Kv
 have he:=Lt
 have ha:=Sx
 have hcas:=run_call_cas_hit (P:=Tryz.prog) Tryz.func397 z_ z_ z_ .i32 z_ (y:=1) hc hz
 have hc':(w.setCell a (.int .i32 1)).cell? a=some (.int .i32 1):=World.cell?_setCell_same w a _ hc
 have hcv:=run_convert_to_unsafe (P:=Tryz.prog) (src:=388) (dst:=380) Tryz.underlying388 Tryz.underlying380 z_ hc'
 go_enter Tryz.func277,Tryz.ntmps277
 go_wp2
 first | go_end0 | (simp only[Exit.inBlock,Exit.then];refine bodyPost_ret (results_none rfl _ _ _) rfl ?_) | refine bodyPost_ret (results_none rfl _ _ _) rfl ?_
 go_wp2
 go_end0
 exact⟨E,E⟩
theorem Ctx.behindN {K:Nat→Prop} {κ κ2:Ka} {w w1 w2:World} (s:Step K κ w κ w1) (c:Ctx ⟨w1,κ,[]⟩ κ2 w2):Ctx ⟨w,κ,[]⟩ κ2 w2 where
 size:=Nat.le_trans s.size c.size
 os:=c.os.trans s.os
 tape:=c.tape.trans s.tape
 output:=c.output.trans s.output
 M:=c.M
 old:=fun b hb h=>by
  refine(c.old b (Nat.lt_of_lt_of_le hb s.size) h).trans ?_
  by_cases hm:κ.M b
  ·exact s.mkeep b hm
  ·exact s.blk b hb (fun ho=>by
    rcases ho with ⟨k,hk⟩ | ho
    ·exact h k hk
    ·exact hm ho)
 own:=fun k b hk=>by
  rcases c.own k b hk with h | h
  ·exact .inl (Nat.le_trans s.size h)
  ·exact .inr h
 nam:=c.nam
theorem Y7 {κ:Ka} {w:World} (hi:Inv κ w):Step (fun _=>False) κ w κ w.drew∧Inv κ w.drew:=by
 have g:=Grew.drew w
 exact⟨⟨g.size,g.os,g.tape,g.output,E,fun b _=>rfl,fun b _ _=>rfl,fun _ _ _ _=>rfl,fun _ _=>rfl,fun _ h=>h.elim,fun _ h=>.inl h⟩,⟨hi.inj,hi.bnd,hi.apart,hi.mbnd⟩⟩
theorem Aal (M:List LineM) (hM:∀ l∈M,LineW l) (hl:M.length<2147483648) :
  Sy.Spec Tryz.prog 205 [.ptr 0 0,.clo (.func 112) [.ptr 0 0] []] (Dc 0 0 M (emptyN,0,0)) (.tup []) (Dc 1 0 M (Bu M)):=by
 intro κ w vs hi hnew hvs hok
 have o1:=hok (0,.box (Lk 0 0 M emptyN 0 0)) (by simp[Dc])
 obtain ⟨b,e1,c1,c2,st1,inv1,ob1⟩:=D6 (off:=1) (x:=.val (.int .i32 1)) (v:=.int .i32 1) hi o1 rfl (fun _ _=>by simp only[Rd]) rfl
 simp only[RdL,Rd,e1]at hvs
 obtain ⟨v0,r0,rfl,rfl,v1,r1,rfl,⟨fs,cs,rfl,hfs,hcs⟩,rfl⟩:=hvs
 obtain ⟨p3,q3,rfl,rfl,rfl⟩:=hfs
 subst hcs
 have hcl:=Yb M hM hl 0 1 κ (w.setCell ⟨b,1,none⟩ (.int .i32 1)) [.pointer (some ⟨b,0,none⟩)] inv1 hnew (by simp only[RdL,Rd,e1];exact⟨_,_,rfl,rfl,rfl⟩) (fun p hp=>by
  simp only[Dc,List.mem_cons,List.not_mem_nil,or_false]at hp
  rw[hp]
  exact ob1)
 obtain ⟨u1,hu1,hr1⟩:=c1 0 (.val (.int .u32 0)) rfl
 obtain ⟨u2,hu2,hr2⟩:=c1 1 (.val (.int .i32 0)) rfl
 rw[hr1.val]at hu1
 rw[hr2.val]at hu2
 have f1:=c2 0 (show 0<14 by decide)
 have f2:=c2 1 (show 1<14 by decide)
 have hl:=Zu ⟨b,0,none⟩ 0 (w.setCell ⟨b,1,none⟩ (.int .i32 1)) ((World.cell?_setCell_other _ ⟨b,1,none⟩ ⟨b,0,none⟩ _ y_).trans hu1)
 have hnot:∀ (x:Bool) (w:World),(Op.unary .not (.bool x)).run Tryz.prog w=.ok (.bool (!x)) w:=fun _ _=>rfl
 go_enter_defers Tryz.func205,Tryz.ntmps205
 go_wp2_with (first | (go_at_call 277;refine(Ys ⟨b,1,none⟩ _ (by assumption) (by assumption)).mono ?_;rintro e w' ⟨rfl,rfl⟩) | (go_at_call 112;refine hcl.mono ?_;rintro e w' ⟨v,κ2,rfl,hc2,hi2,hv2,ok2⟩) | (go_at_call 204;go_in))
 have p1:=ok2 (0,.box (Lk 0 1 M (Bu M).1 (Bu M).2.1 (Bu M).2.2)) (by simp[Dc])
 have k1:κ2 0=.blk b:=by
  obtain ⟨bb,_,_,_,q1,_⟩:=id p1
  rcases hc2.nam 0 (by rw[e1];intro h;cases h) with h | h
  ·rw[h];exact e1
  ·rw[h]at q1;cases q1
 obtain ⟨ba,a1,a2,a3,_,_,_⟩:=D6 (off:=0) (x:=.val (.int .u32 1)) (v:=.int .u32 1) hi2 p1 rfl (fun _ _=>by simp only[Rd]) rfl
 rw[k1]at a1
 cases a1
 obtain ⟨std,invd⟩:=Y7 hi2
 have p2:=ObOK.step std (k:=0) (fun h=>h) _ p1
 obtain ⟨ba,a1,_,_,st3,inv3,ob3⟩:=D6 (off:=0) (x:=.val (.int .u32 1)) (v:=.int .u32 1) invd p2 rfl (fun _ _=>by simp only[Rd]) rfl
 rw[k1]at a1
 cases a1
 have ob3:ObOK κ2 (w'.drew.setCell ⟨b,0,none⟩ (.int .u32 1)) 0 (.box (Lk 1 1 M (Bu M).1 (Bu M).2.1 (Bu M).2.2)):=ob3
 obtain ⟨ba,a1,a4,a5,st4,inv4,ob4⟩:=D6 (off:=1) (x:=.val (.int .i32 0)) (v:=.int .i32 0) inv3 ob3 rfl (fun _ _=>by simp only[Rd]) rfl
 rw[k1]at a1
 cases a1
 have ob4:ObOK κ2 ((w'.drew.setCell ⟨b,0,none⟩ (.int .u32 1)).setCell ⟨b,1,none⟩ (.int .i32 0)) 0 (.box (Lk 1 0 M (Bu M).1 (Bu M).2.1 (Bu M).2.2)):=ob4
 obtain ⟨v1,hv1,hr1⟩:=a2 0 (.val (.int .u32 0)) rfl
 rw[hr1.val]at hv1
 obtain ⟨v2,hv2,hr2⟩:=a4 1 (.val (.int .i32 1)) rfl
 rw[hr2.val]at hv2
 refine leaves_cons (f:=279) (args:=#[.pointer (some ⟨b,0,none⟩),.bool true]) y_ (by simp[go_sem]) ?_
 refine(Oy ⟨b,0,none⟩ (.int .u32 0) .returning _ hv1 (a3 0 (show 0<14 by decide))).mono ?_
 rintro e u' w'' ⟨rfl,rfl,rfl⟩
 refine leaves_cons (f:=278) (args:=#[.pointer (some ⟨b,1,none⟩)]) (by simp[settle]) (by simp[go_sem]) ?_
 refine(Mj ⟨b,1,none⟩ _ _ hv2 (a5 1 (show 1<14 by decide))).mono ?_
 rintro e u' w'' ⟨rfl,rfl,rfl⟩
 have hst:Step (·=0) κ2 w' κ2 ((w'.drew.setCell ⟨b,0,none⟩ (.int .u32 1)).setCell ⟨b,1,none⟩ (.int .i32 0)):=(std.weaken (fun _ h=>h.elim)).trans (st3.trans st4)
 refine⟨.tuple #[],by simp[results,Tryz.results205],.tuple #[],κ2,E,Ctx.behindN st1 (hc2.step inv4 hst),inv4,⟨[],E,E⟩,fun p hp=>?_⟩
 simp only[Dc,List.mem_cons,List.not_mem_nil,or_false]at hp
 rw[hp]
 exact ob4
theorem Aam (M:List LineM) (dn lk:Int) (x:Net × Int × Int):Sy.Spec Tryz.prog 204 [.ptr 0 0] (Dc dn lk M x) (Ab (dn != 0)) (Dc dn lk M x):=cT F204 Tryz.ntmps204 fun F hF=>by
 ((conv=>whnf);repeat((first|refine aF ?_|refine aT ?_);(first|refine rG Γ hm ?_|refine rD Γ hm z_ ?_);conv=>whnf))
 refine Cg (Tc Zu E E E E) E E ?_
 ((first|refine rG Γ hm ?_|refine rD Γ hm z_ ?_);(conv=>whnf);repeat((first|refine aF ?_|refine aT ?_);(first|refine rG Γ hm ?_|refine rD Γ hm z_ ?_);conv=>whnf))
 exact done E (.cons .tmp .nil) [] (Dc dn lk M x) (fun _ h=>h) E E U
theorem Ad4 (M:List LineM) (hM:∀ l∈M,LineW l) (hl:M.length<2147483648) :
  Sy.Spec Tryz.prog 111 [.ptr 0 0,.clo (.func 112) [.ptr 0 0] []] (Dc 0 0 M (emptyN,0,0)) (.tup []) (Dc 1 0 M (Bu M)):=cT F111 Tryz.ntmps111 fun F hF=>by
 have q1:Sy.Spec Tryz.prog 204 [.ptr 0 0] (Dc 0 0 M (emptyN,0,0)) (Ab false) (Dc 0 0 M (emptyN,0,0)):=Aam M 0 0 (emptyN,0,0)
 have q2:=Aal M hM hl
 ((conv=>whnf);repeat((first|refine aF ?_|refine aT ?_);(first|refine rG Γ hm ?_|refine rD Γ hm z_ ?_);conv=>whnf))
 refine X (Ac [] E F204 q1 E W E V) ?_
 ((first|refine rG Γ hm ?_|refine rD Γ hm z_ ?_);(conv=>whnf);repeat((first|refine aF ?_|refine aT ?_);(first|refine rG Γ hm ?_|refine rD Γ hm z_ ?_);conv=>whnf))
 refine X (Ac [] E F205 q2 E W E V) ?_
 ((first|refine rG Γ hm ?_|refine rD Γ hm z_ ?_);(conv=>whnf);repeat((first|refine aF ?_|refine aT ?_);(first|refine rG Γ hm ?_|refine rD Γ hm z_ ?_);conv=>whnf))
 exact Cb E .nil [] (Dc 1 0 M (Bu M)) (fun _ h=>h) E E U
theorem Ab2 (M:List LineM) (hM:∀ l∈M,LineW l) (hl:M.length<2147483648):Sy.Spec Tryz.prog 33 [.ptr 0 0] (Dc 0 0 M (emptyN,0,0)) (.tup [Ao (Bu M).1,Aa (Bu M).2.1,Aa (Bu M).2.2]) (Dc 1 0 M (Bu M)):=cT F33 Tryz.ntmps33 fun F hF=>by
 have q:=Ad4 M hM hl
 refine T ?_
 refine X (Ac [] E F111 q E W E V) ?_
 refine T ?_
 exact done E (.cons (.cell E E E E) (.cons .tmp (.cons .tmp .nil))) [] (Dc 1 0 M (Bu M)) (fun _ h=>h) E E U
theorem Mt (M:List LineM) (hM:∀ l∈M,LineW l) (hl:M.length<2147483648):Sy.Spec Tryz.prog 13 [.sl 17 Aj M] [] (.tup [Ao (Bu M).1,Aa (Bu M).2.1,Aa (Bu M).2.2]) []:=cT F13 Tryz.ntmps13 fun F hF=>by
 have q:=Ab2 M hM hl
 refine T ?_
 refine Ae 8 (Lk 0 0 M emptyN 0 0) E (.cons (.refl _) (.cons (.refl _) (.cons (.refl _) (.cons (.refl _) (.cons .nil (.cons .nil (.cons .nil (.cons .nil (.cons .nil (.cons .nil (.cons .nil (.cons .nil (.cons (.refl _) (.cons (.refl _) .nil)))))))))))))) ?_
 refine X (Ac [(0,8)] E F33 q E W E V) ?_
 refine T ?_
 exact D
end Go.Sy.YtjenpnjajjplkaaGreatDoor
namespace Go.Sy.YtjenpnjajjplkaaGreatDoor
open Go.Proofs
set_option maxHeartbeats 4000000
structure LineR (l:LineM):Prop where
 right:Bk l=true
 ok:LineOK l
 vlan:0≤l.vlan∧l.vlan≤4094
 num:0≤l.num∧l.num≤16777215
 cost:0≤l.cost∧l.cost≤65535
 bits:0≤l.bits∧l.bits≤32
 tagged:Ch l.tagged 4094=true
 imports:Ch l.imports 65535=true
 exports:Ch l.exports 65535=true
 addrs:l.addrs.length≤16
 dev:l.dev.size≤12
 port:l.port.size≤12
 peer:l.peer.size≤12
 far:l.far.size≤12
 name:l.name.size≤12
theorem Bw {s:ByteArray} (h:Ap s=true):s.size≤12:=by
 simp only[Ap,Bool.and_eq_true,decide_eq_true_eq]at h
 exact h.2
theorem Qx (s:ByteArray):0≤(macR s).1:=by
 have hd:∀ c,0≤digI c:=fun c=>by
  unfold digI
  split
  ·omega
  ·split<;>omega
 have:∀ i,0≤Kq s i:=fun i=>by
  induction i with
  | zero=>exact Int.le_refl _
  | succ i ih =>
   have h1:=hd (A0 s (3 * i))
   have h2:=hd (A0 s (3 * i+1))
   rw[Kq]
   omega
 unfold macR
 split
 ·exact this 6
 ·exact Int.le_refl _
theorem Y5:(⟨#[]⟩:ByteArray).size=0:=rfl
theorem S1 (s:ByteArray):(0≤(prefixR s).1.1∧(prefixR s).1.1<4294967296):=by
 unfold prefixR
 split
 ·exact⟨Int.le_refl _,by decide⟩
 ·exact⟨E6 _,Jf _⟩
theorem Abn {s:ByteArray} (h:(Ca s).2=true):(Ca s).1.length≤16∧∀ x∈(Ca s).1,0≤x∧x<4294967296:=by
 have hp:=O6 h
 obtain ⟨a,b,c,d⟩:=Il B6 (Bj 44 s) [] (Ca s).1 hp List.Pairwise.nil y_
 refine⟨b,fun x hx=>?_⟩
 rcases d x hx with hh | ⟨p,_,hh⟩
 ·cases hh
 ·have h1:=E6 p
  have h2:=Jf p
  rw[hh]at h1 h2
  exact⟨h1,h2⟩
theorem Ik {s:ByteArray} {hi:Int} (h:(listR hi s).2=true):Ch (listR hi s).1 hi=true:=Aef (O6 h)
theorem Ax (hi:Int):Ch [] hi=true:=by simp[Ch,Jo]
theorem zV:(0:Int)≤0∧(0:Int)≤4094:=by decide
theorem zN:(0:Int)≤0∧(0:Int)≤16777215:=by decide
theorem zC:(0:Int)≤0∧(0:Int)≤65535:=by decide
theorem zB:(0:Int)≤0∧(0:Int)≤32:=by decide
theorem zM:(0:Int)≤0∧(0:Int)<18446744073709551616:=by decide
theorem zA:(0:Int)≤0∧(0:Int)<4294967296:=by decide
theorem zS:(⟨#[]⟩:ByteArray).size≤12:=by decide
theorem Xo {w:List ByteArray} {row:Int} (h:(Bd w row).2=0):LineR (Bd w row).1:=by
 obtain ⟨g1,g2⟩:=Aaf h
 rw[g1]
 clear g1 h
 have ez:=Y5
 have o1:∀ {m:Int},0≤m→statB m=true→0≤m∧m<18446744073709551616:=fun a b=>⟨a,by have:=Su b;omega⟩
 unfold A5 at g2 ⊢
 dsimp only at g2 ⊢
 by_cases h1:kindL (wdT w 0)=1
 ·simp only[if_pos h1,List.mem_cons,List.not_mem_nil,or_false,forall_eq_or_imp,forall_eq,Bool.not_eq_eq_eq_not,Bool.not_false,Bool.and_eq_true]at g2 ⊢
  obtain ⟨b1,b2,b3,b4⟩:=g2
  have c:=Di b2
  have n1:=Bw b1
  exact⟨by simp[Bk,Av,b1,b4,within_iff.2 c,Cz],⟨o1 (Qx _) b4,zA,by simp[lineZ]⟩,zV,⟨c.1,by have:=c.2;dsimp only;omega⟩,zC,zB,Ax _,Ax _,Ax _,by simp[lineZ],n1,zS,zS,zS,zS⟩
 by_cases h2:kindL (wdT w 0)=2
 ·simp only[if_neg h1,if_pos h2]at g2 ⊢
  have b1:=g2 (!(Ap (wdT w 1)),20) y_
  have b2:=g2 (!(Ap (wdT w 2)),20) y_
  have b3:=g2 (!(numR (wdT w 3) 1 65535).2,21) y_
  have b4:∀ e∈(Cf w).2.2,e.1=false:=fun e he=>g2 e (by simp[he])
  have b5:=g2 (!(membersB (Cf w).1 (Cf w).2.1),21) y_
  simp only[Bool.not_eq_eq_eq_not,Bool.not_false]at b1 b2 b3 b5
  have c:=Di b3
  have hp:(0≤(Cf w).1∧(Cf w).1≤4094)∧Ch (Cf w).2.1 4094=true:=by
   clear b5 g2
   unfold Cf at b4 ⊢
   split
   ·rename_i e
    rw[if_pos e]at b4
    have:=b4 _ (List.mem_singleton.2 rfl)
    simp only[Bool.not_eq_eq_eq_not,Bool.not_false]at this
    have:=Di this
    exact⟨⟨by have:=this.1;dsimp only[Bl];omega,this.2⟩,Ax _⟩
   ·rename_i e
    rw[if_neg e]at b4
    split
    ·rename_i e2
     rw[if_pos e2]at b4
     split
     ·rename_i e3
      rw[if_pos e3]at b4
      have:=b4 _ (List.mem_singleton.2 rfl)
      simp only[Bool.not_eq_eq_eq_not,Bool.not_false]at this
      exact⟨zV,Ik this⟩
     ·rename_i e3
      rw[if_neg e3]at b4
      have a1:=b4 _ (List.mem_cons_self)
      have a2:=b4 _ (List.mem_cons_of_mem _ (List.mem_singleton.2 rfl))
      simp only[Bool.not_eq_eq_eq_not,Bool.not_false]at a1 a2
      have:=Di a1
      exact⟨⟨by have:=this.1;dsimp only[Bl];omega,this.2⟩,Ik a2⟩
    ·exact⟨zV,Ax _⟩
  generalize Cf w=q at *
  obtain ⟨hv,ht⟩:=hp
  exact⟨by simp[Bk,Av,b1,b2,b5,ht,within_iff.2 c,within_iff.2 hv,Cz],⟨zM,zA,by simp[lineZ]⟩,hv,zN,⟨by have:=c.1;dsimp only;omega,c.2⟩,zB,ht,Ax _,Ax _,by simp[lineZ],Bw b1,Bw b2,zS,zS,zS⟩
 by_cases h3:kindL (wdT w 0)=3
 ·simp only[if_neg h1,if_neg h2,if_pos h3,List.mem_cons,List.not_mem_nil,or_false,forall_eq_or_imp,forall_eq,Bool.not_eq_eq_eq_not,Bool.not_false,Bool.and_eq_true]at g2 ⊢
  obtain ⟨b1,b2,b3,b4⟩:=g2
  exact⟨by simp[Bk,Av,b1,b2,b3,b4,Cz],⟨zM,zA,by simp[lineZ]⟩,zV,zN,zC,zB,Ax _,Ax _,Ax _,by simp[lineZ],Bw b1,Bw b2,Bw b3,Bw b4,zS⟩
 by_cases h4:kindL (wdT w 0)=4
 ·simp only[if_neg h1,if_neg h2,if_neg h3,if_pos h4,List.mem_cons,List.not_mem_nil,or_false,forall_eq_or_imp,forall_eq,Bool.not_eq_eq_eq_not,Bool.not_false,Bool.and_eq_true]at g2 ⊢
  obtain ⟨b1,b2,⟨b3,b4⟩,b5⟩:=g2
  have c:=Di b2
  exact⟨by simp[Bk,Av,b1,Ug b2 E,b4,b5,Cz],⟨o1 (Qx _) b4,zA,by simp[lineZ]⟩,⟨by have:=c.1;dsimp only[Bl];omega,c.2⟩,zN,zC,zB,Ax _,Ax _,Ax _,by simp[lineZ],Bw b1,Bw b5,zS,zS,zS⟩
 by_cases h5:kindL (wdT w 0)=5
 ·simp only[if_neg h1,if_neg h2,if_neg h3,if_neg h4,if_pos h5,List.mem_cons,List.not_mem_nil,or_false,forall_eq_or_imp,forall_eq,Bool.not_eq_eq_eq_not,Bool.not_false,Bool.and_eq_true,decide_eq_true_eq]at g2 ⊢
  obtain ⟨b1,b2,b3⟩:=g2
  exact⟨by simp[Bk,Av,b1,b3,Cz],⟨zM,⟨E6 _,Jf _⟩,by simp[lineZ]⟩,zV,zN,zC,zB,Ax _,Ax _,Ax _,by simp[lineZ],Bw b1,zS,zS,zS,zS⟩
 by_cases h6:kindL (wdT w 0)=6
 ·simp only[if_neg h1,if_neg h2,if_neg h3,if_neg h4,if_neg h5,if_pos h6,List.mem_cons,List.not_mem_nil,or_false,forall_eq_or_imp,forall_eq,Bool.not_eq_eq_eq_not,Bool.not_false,Bool.and_eq_true]at g2 ⊢
  obtain ⟨b1,b2,b3⟩:=g2
  have c:=Di b2
  have d:=Di b3
  exact⟨by simp[Bk,Av,b1,Ug b2 E,Abu b3 E,Cz],⟨zM,zA,by simp[lineZ]⟩,⟨by have:=c.1;dsimp only[Bl];omega,c.2⟩,⟨by have:=d.1;dsimp only[Iu];omega,d.2⟩,zC,zB,Ax _,Ax _,Ax _,by simp[lineZ],Bw b1,zS,zS,zS,zS⟩
 by_cases h7:kindL (wdT w 0)=7
 ·simp only[if_neg h1,if_neg h2,if_neg h3,if_neg h4,if_neg h5,if_neg h6,if_pos h7,List.mem_cons,List.not_mem_nil,or_false,forall_eq_or_imp,forall_eq,Bool.not_eq_eq_eq_not,Bool.not_false,Bool.and_eq_true,decide_eq_true_eq]at g2 ⊢
  obtain ⟨b1,b2,b3,b4⟩:=g2
  have d:=Di b2
  have e:=Abn b3
  exact⟨by simp[Bk,Av,b1,Abu b2 E,Adu (O6 b3) b4,Cz],⟨zM,zA,e.2⟩,zV,⟨by have:=d.1;dsimp only[Iu];omega,d.2⟩,zC,zB,Ax _,Ax _,Ax _,e.1,Bw b1,zS,zS,zS,zS⟩
 by_cases h8:kindL (wdT w 0)=8
 ·simp only[if_neg h1,if_neg h2,if_neg h3,if_neg h4,if_neg h5,if_neg h6,if_neg h7,if_pos h8,List.mem_cons,List.not_mem_nil,or_false,forall_eq_or_imp,forall_eq,Bool.not_eq_eq_eq_not,Bool.not_false,Bool.and_eq_true]at g2 ⊢
  obtain ⟨b1,b2,b3,b4⟩:=g2
  exact⟨by simp[Bk,Av,b1,b2,Ik b3,Ik b4,Cz],⟨zM,zA,by simp[lineZ]⟩,zV,zN,zC,zB,Ax _,Ik b3,Ik b4,by simp[lineZ],Bw b1,zS,zS,zS,Bw b2⟩
 ·simp only[if_neg h1,if_neg h2,if_neg h3,if_neg h4,if_neg h5,if_neg h6,if_neg h7,if_neg h8,List.mem_cons,List.not_mem_nil,or_false,forall_eq_or_imp,forall_eq,Bool.not_eq_eq_eq_not,Bool.not_false,Bool.and_eq_true]at g2 ⊢
  obtain ⟨b1,b2,b3,b4,b5⟩:=g2
  have c:=Di b2
  have hb:=Jl b5
  exact⟨by simp[Bk,Av,b1,b3,Ug b2 E,b5,Cz],⟨zM,S1 _,by simp[lineZ]⟩,⟨by have:=c.1;dsimp only[Bl];omega,c.2⟩,zN,zC,⟨by dsimp only;omega,by dsimp only;omega⟩,Ax _,Ax _,Ax _,by simp[lineZ],Bw b1,zS,zS,zS,Bw b3⟩
theorem Yf (l:LineM) (r:Int):Bk { l with row:=r }=Bk l:=by
 by_cases h1:l.kind=1
 ·simp[Bk,Av,Hn,h1]
 by_cases h2:l.kind=2
 ·simp[Bk,Av,Hn,h1,h2]
 by_cases h3:l.kind=3
 ·simp[Bk,Av,Hn,h1,h2,h3]
 by_cases h4:l.kind=4
 ·simp[Bk,Av,Hn,h1,h2,h3,h4]
 by_cases h5:l.kind=5
 ·simp[Bk,Av,Hn,h1,h2,h3,h4,h5]
 by_cases h6:l.kind=6
 ·simp[Bk,Av,Hn,h1,h2,h3,h4,h5,h6]
 by_cases h7:l.kind=7
 ·simp[Bk,Av,Hn,h1,h2,h3,h4,h5,h6,h7]
 by_cases h8:l.kind=8
 ·simp[Bk,Av,Hn,h1,h2,h3,h4,h5,h6,h7,h8]
 by_cases h9:l.kind=9
 ·simp[Bk,Av,Hn,h1,h2,h3,h4,h5,h6,h7,h8,h9]
 simp[Bk,Av,Hn,h1,h2,h3,h4,h5,h6,h7,h8,h9]
theorem LineR.row {l:LineM} (h:LineR l) (r:Int):LineR { l with row:=r } :=
 ⟨by rw[Yf];exact h.right,⟨h.ok.mac,h.ok.addr,h.ok.addrs⟩,h.vlan,h.num,h.cost,h.bits,h.tagged,h.imports,h.exports,h.addrs,h.dev,h.port,h.peer,h.far,h.name⟩
theorem Iv:∀ (rs:List ByteArray) (i:Nat) (out:List LineM),(∀ x∈out,LineR x)→∀ x∈(E8 i rs out).1,LineR x
 | [],_,_,h=>by rw[E8];exact h
 | r::rs,i,out,h=>by
  rw[E8]
  split
  ·intro x hx;cases hx
  ·split
   ·exact Iv rs (i+1) out h
   ·split
    ·intro x hx;cases hx
    ·rename_i h3
     refine Iv rs (i+1) _ fun x hx=>?_
     rcases List.mem_append.1 hx with hx | hx
     ·exact h x hx
     ·rw[List.mem_singleton.1 hx]
      exact Xo q_
theorem Xl (b:List UInt8):∀ x∈(textT b).1,LineR x:=by
 unfold textT
 split
 ·intro x hx;cases hx
 ·exact Iv _ 0 [] y_
end Go.Sy.YtjenpnjajjplkaaGreatDoor
namespace Go.Sy.YtjenpnjajjplkaaGreatDoor
open Go.Proofs
attribute [local irreducible] Go.Sy.G Go.Sy.DR
set_option maxRecDepth 100000
set_option maxHeartbeats 4000000
theorem LineR.w {l:LineM} (h:LineR l):LineW l where
 fin:=by
  have e:∀ {l:List Int} {m:Int},Ch l m=true→m≤65535→l.length≤100000:=fun {l} {m} hl hm=>by
   rcases listOK_iff.1 hl with h | h
   ·rw[h];exact Nat.zero_le _
   ·have:=(rising_iff.1 h).2.2.2;omega
  exact⟨e h.tagged j_,e h.imports j_,e h.exports j_,by have:=h.addrs;omega⟩
 ok:=h.ok
 dev:=by have:=h.dev;omega
 port:=by have:=h.port;omega
 peer:=by have:=h.peer;omega
 far:=by have:=h.far;omega
 name:=by have:=h.name;omega
theorem K9:∀ (rs:List ByteArray) (i:Nat) (out:List LineM),(E8 i rs out).1.length≤out.length+rs.length
 | [],_,out=>by rw[E8];simp
 | r::rs,i,out=>by
  rw[E8]
  split
  ·simp
  ·split
   ·have:=K9 rs (i+1) out;rw[List.length_cons];omega
   ·split
    ·simp
    ·have:=K9 rs (i+1) (out++[(Bd (wordsT r).1 ((i:Int)+1)).1])
     rw[List.length_append,List.length_singleton]at this
     rw[List.length_cons];omega
theorem Aby (b:List UInt8):(textT b).1.length≤400:=by
 have h:=(M6 b).1
 unfold textT
 split
 ·simp
 ·have:=K9 (rowsT b).1 0 []
  rw[List.length_nil]at this
  omega
theorem We (b:List UInt8) (hb:b.length≤1000000):Sy.Spec Tryz.prog 20 [.sl 1 Cc b] [] (.tup [Ao (netTextT b).1,Aa (netTextT b).2.1,Aa (netTextT b).2.2]) []:=cT F20 Tryz.ntmps20 fun F hF=>by
 have q1:=Aac b hb
 have q2:=Mt (textT b).1 (fun x hx=>(Xl b x hx).w) (by have:=Aby b;omega)
 have hres:=netTextT.eq_1 b
 generalize netTextT b=res at *
 generalize textT b=t at *
 refine T ?_
 refine C q1 F44 ?_
 refine T ?_
 refine⟨fun h=>?_,fun h=>?_⟩
 ·have hne:t.2.2≠0:=by intro e;rw[e]at h;cases h
  rw[if_pos hne]at hres
  subst hres
  clear h
  refine T ?_
  refine Ae 2 (B1 emptyN) E (.cons .nil (.cons .nil (.cons .nil (.cons .nil (.cons .nil (.cons .nil (.cons .nil (.cons .nil .nil)))))))) ?_
  exact D
 ·have he:t.2.2=0:=by simpa using h
  rw[if_neg (fun hh=>hh he)]at hres
  subst hres
  clear h
  refine T ?_
  refine C q2 F13 ?_
  exact D
def Y3 : List UInt8 := "device a 1 00:00:00:00:00:01\nport a p 1 access 10".toUTF8.data.toList
def Adc : List UInt8 := "device a 1 00:00:00:00:00:01\ndevice a 1 00:00:00:00:00:02".toUTF8.data.toList
theorem Aen:(netTextT Y3).2.2=0∧(netTextT Y3).2.1=0∧(netTextT Y3).1.domains.length=1:=by decide +kernel
theorem Aem:(netTextT Adc).2.2=30∧(netTextT Adc).2.1=2:=by decide +kernel
theorem Abt:Sy.Spec Tryz.prog 17 [] [] (Ab true) []:=cT F17 Tryz.ntmps17 fun F hF=>by
 have q1:=We Y3 j_
 have q2:=We Adc j_
 obtain ⟨a1,a2,a3⟩:=Aen
 obtain ⟨b1,b2⟩:=Aem
 rw[a1,a2]at q1
 rw[b1,b2]at q2
 have hl1:(((netTextT Y3).1.domains.length:Int) == 1)=true:=by rw[a3];rfl
 generalize (netTextT Y3).1=n1 at *
 generalize (netTextT Adc).1=n2 at *
 refine T ?_
 refine X (H8 Γ.toTy E E E E E E E) ?_
 refine Zk 8 Cc Y3 E E ?_
 refine Ag 8 E ?_
 refine C q1 F20 ?_
 refine T ?_
 refine X (H8 Γ.toTy E E E E E E E) ?_
 refine Zk 15 Cc Adc E E ?_
 refine Ag 15 E ?_
 refine C q2 F20 ?_
 refine T ?_
 exact D
end Go.Sy.YtjenpnjajjplkaaGreatDoor
namespace Go.Sy.YtjenpnjajjplkaaGreatDoor
open Go.Proofs
theorem D2 {α:Type} [Inhabited α] (l:List α) (x:α) {i:Int} (h:i.toNat<l.length):nth (l++[x]) i=nth l i:=by
 rw[nth,nth,List.getElem?_append_left h]
theorem Da {α:Type} [Inhabited α] (l:List α) (x:α):nth (l++[x]) (l.length:Int)=x:=by
 rw[nth,Int.toNat_natCast,List.getElem?_append_right (Nat.le_refl _),Nat.sub_self];rfl
theorem place_iff {i:Int} {k:Nat}:Al i k=true↔0≤i∧i<k:=by simp[Al]
theorem Dj {α:Type} [Inhabited α] (l:List α) (x:α) {i:Int} {j:Nat} (h:i.toNat≠j):nth (l.set j x) i=nth l i:=by
 rw[nth,nth,List.getElem?_set_ne (fun e=>h e.symm)]
theorem Qq {α:Type} [Inhabited α] (l:List α) (x:α) {j:Nat} (h:j<l.length):nth (l.set j x) (j:Int)=x:=by
 rw[nth,Int.toNat_natCast,List.getElem?_set_self h];rfl
theorem Hp {α:Type} [Inhabited α] (l:List α) {i:Int} {j:Nat} (h:i.toNat=j):nth l i=nth l (j:Int):=by
 rw[nth,nth,h,Int.toNat_natCast]
theorem H9 {α:Type} [Inhabited α] (l:List α) (i:Nat) (h:i<l.length):l[i]=nth l (i:Int):=(A7 (i:=(i:Int)) h).symm
structure NetR (n:Net):Prop where
 few:Ww n=true
 bare:∀ i:Nat,i<n.domains.length→Me n i (nth n.domains i)=true
 peers:∀ i:Nat,i<n.domains.length→Ic n i (nth n.domains i)=true
 port:∀ i:Nat,i<n.ports.length→Ij n i (nth n.ports i)=true
 link:∀ i:Nat,i<n.links.length→Of n i (nth n.links i)=true
 static:∀ i:Nat,i<n.statics.length→H3 n (nth n.statics i)=true
 flood:∀ i:Nat,i<n.floods.length→Ht n (nth n.floods i)=true
 vrf:∀ i:Nat,i<n.vrfs.length→Vn n (nth n.vrfs i)=true
 irb:∀ i:Nat,i<n.irbs.length→U2 n i (nth n.irbs i)=true
theorem So {α:Type} [Inhabited α] {p:Nat→α→Bool} {l:List α}:Dp p l=true↔∀ i:Nat,i<l.length→p i (nth l i)=true:=by
 rw[allB_iff]
 constructor
 ·intro h i hi
  rw[← H9 l i hi];exact h i hi
 ·intro h i hi
  rw[H9 l i hi];exact h i hi
theorem netR_iff {n:Net}:Af n=true↔NetR n:=by
 simp only[Af,Bool.and_eq_true,So]
 constructor
 ·rintro ⟨⟨⟨⟨⟨⟨⟨⟨a,b⟩,c⟩,d⟩,e⟩,f⟩,g⟩,h⟩,i⟩
  exact⟨a,b,c,d,e,f,g,h,i⟩
 ·rintro ⟨a,b,c,d,e,f,g,h,i⟩
  exact⟨⟨⟨⟨⟨⟨⟨⟨a,b⟩,c⟩,d⟩,e⟩,f⟩,g⟩,h⟩,i⟩
theorem peerB_iff {n:Net} {i:Nat} {d:Domain} {k:Int}:Kx n i d k=true↔Al k n.domains.length=true∧k≠i∧Al (nth n.domains k).dev n.devices.length=true∧(nth n.domains k).dev≠d.dev∧(nth n.domains k).vni=d.vni∧d.vni≠0∧Hj n (nth n.domains k)=true∧Hj n d=true∧inB (nth n.domains k).peers i=true:=by
 simp only[Kx,Bool.and_eq_true,bne_iff_ne,beq_iff_eq,ne_eq]
 constructor
 ·rintro ⟨⟨⟨⟨⟨⟨⟨⟨a,b⟩,c⟩,d⟩,e⟩,f⟩,g⟩,h⟩,i⟩
  exact⟨a,b,c,d,e,f,g,h,i⟩
 ·rintro ⟨a,b,c,d,e,f,g,h,i⟩
  exact⟨⟨⟨⟨⟨⟨⟨⟨a,b⟩,c⟩,d⟩,e⟩,f⟩,g⟩,h⟩,i⟩
theorem Ex {n m:Net} {i:Nat} {d e:Domain} (hd:e.peers=d.peers) (h:Ic n i d=true) (hp:∀ k,Kx n i d k=true→Kx m i e k=true):Ic m i e=true:=by
 rw[Ic,hd]
 rw[Ic]at h
 rw[So]at h ⊢
 intro j hj
 have:=h j hj
 rw[Bool.and_eq_true]at this ⊢
 exact⟨hp _ this.1,this.2⟩
theorem bareB_iff {n:Net} {i:Nat} {d:Domain}:Me n i d=true↔Al d.dev n.devices.length=true∧(1≤d.vlan∧d.vlan≤4094)∧(0≤d.vni∧d.vni≤16777215)∧(d.irb=-1∨Al d.irb n.irbs.length=true∧(nth n.irbs d.irb).domain=i)∧B7 n d.dev d.vlan=i:=by
 simp only[Me,Bool.and_eq_true,Bool.or_eq_true,decide_eq_true_eq,beq_iff_eq]
 constructor
 ·rintro ⟨⟨⟨⟨⟨⟨a,b⟩,c⟩,d⟩,e⟩,f⟩,g⟩
  exact⟨a,⟨b,c⟩,⟨d,e⟩,f,g⟩
 ·rintro ⟨a,⟨b,c⟩,⟨d,e⟩,f,g⟩
  exact⟨⟨⟨⟨⟨⟨a,b⟩,c⟩,d⟩,e⟩,f⟩,g⟩
theorem portB_iff {n:Net} {i:Nat} {p:Port}:Ij n i p=true↔Al p.dev n.devices.length=true∧(0≤p.native∧p.native≤4094)∧Jo p.tagged 4094=true∧inB p.tagged p.native=false∧¬ (p.native=0∧p.tagged=[])∧(∀ v∈p.tagged,0≤B7 n p.dev v) ∧
  (0<p.native→0≤B7 n p.dev p.native)∧(p.link=-1∨Al p.link n.links.length=true∧((nth n.links p.link).a=i∨(nth n.links p.link).b=i)):=by
 have e:Dp (fun _ v=>decide (0≤B7 n p.dev v)) p.tagged=true↔∀ v∈p.tagged,0≤B7 n p.dev v:=by
  rw[allB_iff]
  simp only[decide_eq_true_eq]
  constructor
  ·intro h v hv
   obtain ⟨j,hj,rfl⟩:=List.mem_iff_getElem.1 hv
   exact h j hj
  ·intro h j hj
   exact h _ (List.getElem_mem hj)
 simp only[Ij,Cv]
 simp only[Bool.and_eq_true,Bool.or_eq_true,e,Bool.not_eq_eq_eq_not,Bool.not_true,Bool.and_eq_false_imp,decide_eq_true_eq,decide_eq_false_iff_not,beq_iff_eq,Jo,List.length_eq_zero_iff]
 constructor
 ·rintro ⟨⟨⟨⟨⟨⟨⟨⟨a,b⟩,c⟩,d⟩,e⟩,f⟩,g⟩,h⟩,i⟩
  refine⟨a,⟨b,c⟩,d,e,fun x=>f x.1 x.2,g,fun x=>?_,i⟩
  simpa using h x
 ·rintro ⟨a,⟨b,c⟩,d,e,f,g,h,i⟩
  refine⟨⟨⟨⟨⟨⟨⟨⟨a,b⟩,c⟩,d⟩,e⟩,fun x y=>f ⟨x,y⟩⟩,g⟩,fun x=>?_⟩,i⟩
  simpa using h x
theorem linkB_iff {n:Net} {i:Nat} {l:Link}:Of n i l=true↔Al l.a n.ports.length=true∧Al l.b n.ports.length=true∧(nth n.ports l.a).dev≠(nth n.ports l.b).dev∧(nth n.ports l.a).link=i∧(nth n.ports l.b).link=i:=by
 simp only[Of,Bool.and_eq_true,bne_iff_ne,beq_iff_eq,ne_eq,and_assoc]
theorem staticB_iff {n:Net} {s:Static}:H3 n s=true↔Al s.domain n.domains.length=true∧Al s.port n.ports.length=true∧(nth n.ports s.port).dev=(nth n.domains s.domain).dev∧Cs (nth n.ports s.port) (nth n.domains s.domain).vlan=true:=by
 simp only[H3,Bool.and_eq_true,beq_iff_eq,and_assoc]
theorem irbB_iff {n:Net} {i:Nat} {x:Irb}:U2 n i x=true↔Al x.domain n.domains.length=true∧Al x.vrf n.vrfs.length=true∧(nth n.domains x.domain).dev=(nth n.vrfs x.vrf).dev∧(nth n.domains x.domain).irb=i∧1≤x.bits∧x.bits≤30:=by
 simp only[U2,Bool.and_eq_true,beq_iff_eq,decide_eq_true_eq,and_assoc]
theorem floodB_iff {n:Net} {f:Flood}:Ht n f=true↔Al f.dev n.devices.length=true∧f.addrs.length≤16:=by simp[Ht]
theorem vrfB_iff {n:Net} {v:Vrf}:Vn n v=true↔Al v.dev n.devices.length=true∧Jo v.imports 65535=true∧Jo v.exports 65535=true:=by simp[Vn,and_assoc]
theorem few_iff {n:Net}:Ww n=true↔n.devices.length≤8∧n.ports.length≤40∧n.links.length≤20∧n.domains.length≤48∧n.statics.length≤64∧n.floods.length≤48∧n.vrfs.length≤16∧n.irbs.length≤48:=by
 simp[Ww,and_assoc]
theorem C9 {i:Int} {k m:Nat} (h:Al i k=true) (hkm:k≤m):Al i m=true:=by
 rw[place_iff]at h ⊢;omega
theorem Vg {n:Net} (h:NetR n) (x:Device) (hx:n.devices.length<8):NetR { n with devices:=n.devices++[x] }:=by
 have hp:∀ {i:Int},Al i n.devices.length=true→Al i (n.devices++[x]).length=true:=fun h=>C9 h y_
 have hv:∀ d:Domain,Al d.dev n.devices.length=true→Hj { n with devices:=n.devices++[x] } d=Hj n d:=fun d hd=>by
  have:=place_iff.1 hd
  simp only[Hj]
  rw[D2 _ _ q_]
 refine⟨?_,fun i hi=>?_,fun i hi=>?_,fun i hi=>?_,h.link,h.static,fun i hi=>?_,fun i hi=>?_,h.irb⟩
 ·have:=few_iff.1 h.few
  exact few_iff.2 (by simp only[List.length_append,List.length_singleton];omega)
 ·have:=bareB_iff.1 (h.bare i hi)
  exact bareB_iff.2 ⟨hp this.1,this.2⟩
 ·have hb:=(bareB_iff.1 (h.bare i hi)).1
  refine Ex E (h.peers i hi) fun k hk=>?_
  obtain ⟨a,b,c,d,e,f,g,q,r⟩:=peerB_iff.1 hk
  exact peerB_iff.2 ⟨a,b,hp c,d,e,f,(hv _ c).trans g,(hv _ hb).trans q,r⟩
 ·have:=portB_iff.1 (h.port i hi)
  exact portB_iff.2 ⟨hp this.1,this.2⟩
 ·have:=floodB_iff.1 (h.flood i hi)
  exact floodB_iff.2 ⟨hp this.1,this.2⟩
 ·have:=vrfB_iff.1 (h.vrf i hi)
  exact vrfB_iff.2 ⟨hp this.1,this.2⟩
theorem Uj {n:Net} (h:NetR n) (x:Static) (hx:H3 n x=true) (hl:n.statics.length<64):NetR { n with statics:=n.statics++[x] }:=by
 refine⟨?_,h.bare,h.peers,h.port,h.link,fun i hi=>?_,h.flood,h.vrf,h.irb⟩
 ·have:=few_iff.1 h.few
  exact few_iff.2 (by simp only[List.length_append,List.length_singleton];omega)
 ·simp only[List.length_append,List.length_singleton]at hi
  by_cases e:i<n.statics.length
  ·rw[show nth (n.statics++[x]) (i:Int)=nth n.statics (i:Int) from D2 _ _ e]
   exact h.static i e
  ·rw[show i=n.statics.length by omega,Da]
   exact hx
theorem Wt {n:Net} (h:NetR n) (x:Flood) (hx:Ht n x=true) (hl:n.floods.length<48):NetR { n with floods:=n.floods++[x] }:=by
 refine⟨?_,h.bare,h.peers,h.port,h.link,h.static,fun i hi=>?_,h.vrf,h.irb⟩
 ·have:=few_iff.1 h.few
  exact few_iff.2 (by simp only[List.length_append,List.length_singleton];omega)
 ·simp only[List.length_append,List.length_singleton]at hi
  by_cases e:i<n.floods.length
  ·rw[show nth (n.floods++[x]) (i:Int)=nth n.floods (i:Int) from D2 _ _ e]
   exact h.flood i e
  ·rw[show i=n.floods.length by omega,Da]
   exact hx
theorem Z9 {n:Net} (h:NetR n) (x:Vrf) (hx:Vn n x=true) (hl:n.vrfs.length<16):NetR { n with vrfs:=n.vrfs++[x] }:=by
 refine⟨?_,h.bare,h.peers,h.port,h.link,h.static,h.flood,fun i hi=>?_,fun i hi=>?_⟩
 ·have:=few_iff.1 h.few
  exact few_iff.2 (by simp only[List.length_append,List.length_singleton];omega)
 ·simp only[List.length_append,List.length_singleton]at hi
  by_cases e:i<n.vrfs.length
  ·rw[show nth (n.vrfs++[x]) (i:Int)=nth n.vrfs (i:Int) from D2 _ _ e]
   exact h.vrf i e
  ·rw[show i=n.vrfs.length by omega,Da]
   exact hx
 ·obtain ⟨a,b,c,d,e⟩:=irbB_iff.1 (h.irb i hi)
  have hb:=place_iff.1 b
  exact irbB_iff.2 ⟨a,C9 b y_,by rw[show nth (n.vrfs++[x]) (nth n.irbs (i:Int)).vrf=nth n.vrfs (nth n.irbs (i:Int)).vrf from D2 _ _ q_];exact c,d,e⟩
theorem Xk {n:Net} (h:NetR n) (j:Nat) (a:Int) (ha:a≠0):NetR { n with devices:=n.devices.set j { nth n.devices j with vtep:=a } }:=by
 have hp:(n.devices.set j { nth n.devices j with vtep:=a }).length=n.devices.length:=List.length_set
 have hv:∀ d:Domain,Hj n d=true→Hj { n with devices:=n.devices.set j { nth n.devices j with vtep:=a } } d=true:=fun d hd=>by
  simp only[Hj,bne_iff_ne,ne_eq]at hd ⊢
  by_cases e:d.dev.toNat=j
  ·by_cases hl:j<n.devices.length
   ·have:nth (n.devices.set j { nth n.devices j with vtep:=a }) d.dev={ nth n.devices j with vtep:=a }:=by
     rw[nth,e,List.getElem?_set_self hl];rfl
    rw[this];exact ha
   ·rw[List.set_eq_of_length_le q_];exact hd
  ·rw[Dj _ _ e];exact hd
 refine⟨?_,fun i hi=>?_,fun i hi=>?_,fun i hi=>?_,h.link,h.static,fun i hi=>?_,fun i hi=>?_,h.irb⟩
 ·have:=few_iff.1 h.few
  exact few_iff.2 (by rw[hp];exact this)
 ·have:=bareB_iff.1 (h.bare i hi)
  exact bareB_iff.2 ⟨by rw[hp];exact this.1,this.2⟩
 ·refine Ex E (h.peers i hi) fun k hk=>?_
  obtain ⟨a,b,c,d,e,f,g,q,r⟩:=peerB_iff.1 hk
  exact peerB_iff.2 ⟨a,b,by rw[hp];exact c,d,e,f,hv _ g,hv _ q,r⟩
 ·have:=portB_iff.1 (h.port i hi)
  exact portB_iff.2 ⟨by rw[hp];exact this.1,this.2⟩
 ·have:=floodB_iff.1 (h.flood i hi)
  exact floodB_iff.2 ⟨by rw[hp];exact this.1,this.2⟩
 ·have:=vrfB_iff.1 (h.vrf i hi)
  exact vrfB_iff.2 ⟨by rw[hp];exact this.1,this.2⟩
theorem Ac3 {α:Type} (p:α→Bool) (l:List α) (j:Nat) (x:α) (h:∀ y,l[j]? = some y→p x=p y):Br p (l.set j x)=Br p l:=by
 have e:(l.set j x).findIdx? p=l.findIdx? p:=by
  induction l generalizing j with
  | nil=>rfl
  | cons z l ih =>
   cases j with
   | zero =>
    rw[List.set_cons_zero,List.findIdx?_cons,List.findIdx?_cons,h z rfl]
   | succ j =>
    rw[List.set_cons_succ,List.findIdx?_cons,List.findIdx?_cons,ih j (fun y hy=>h y (by simpa using hy))]
 rw[Br,Br,e]
theorem W5 {n:Net} {j:Nat} (hj:j<n.domains.length) (x:Domain) (h1:x.dev=(nth n.domains j).dev) (h2:x.vlan=(nth n.domains j).vlan) (m:Net) (hm:m.domains=n.domains.set j x) (dev vlan:Int):B7 m dev vlan=B7 n dev vlan:=by
 rw[B7,hm,Ac3 _ _ _ _ (fun y hy=>?_)]
 ·rfl
 ·rw[List.getElem?_eq_getElem hj]at hy
  simp only[Option.some.injEq]at hy
  rw[H9 _ _ hj]at hy
  rw[← hy,h1,h2]
theorem D4 {α:Type} [Inhabited α] (l:List α) (x:α) (j:Nat) (i:Int) (f:α→Int) (hf:f x=f (nth l j)) (hj:j<l.length):f (nth (l.set j x) i)=f (nth l i):=by
 by_cases e:i.toNat=j
 ·have:nth (l.set j x) i=x:=by rw[nth,e,List.getElem?_set_self hj];rfl
  have h2:nth l i=nth l (j:Int):=Hp _ e
  rw[this,h2,hf]
 ·rw[Dj _ _ e]
theorem Aaa {n:Net} (h:NetR n) (j:Nat) (hj:j<n.domains.length) (h0:(nth n.domains j).vni=0) (v r:Int) (hv:0≤v∧v≤16777215):NetR { n with domains:=n.domains.set j { nth n.domains j with vni:=v,row:=r } }:=by
 have hl:(n.domains.set j { nth n.domains j with vni:=v,row:=r }).length=n.domains.length:=List.length_set
 have hdom:=W5 (n:=n) hj { nth n.domains j with vni:=v,row:=r } rfl rfl { n with domains:=n.domains.set j { nth n.domains j with vni:=v,row:=r } } rfl
 have hdev:=fun i=>D4 n.domains { nth n.domains j with vni:=v,row:=r } j i Domain.dev rfl hj
 have hvl:=fun i=>D4 n.domains { nth n.domains j with vni:=v,row:=r } j i Domain.vlan rfl hj
 have hir:=fun i=>D4 n.domains { nth n.domains j with vni:=v,row:=r } j i Domain.irb rfl hj
 have hne:∀ i:Nat,i≠j→nth (n.domains.set j { nth n.domains j with vni:=v,row:=r }) (i:Int)=nth n.domains (i:Int):=fun i hi=>Dj _ _ (by rw[Int.toNat_natCast];exact hi)
 refine⟨?_,fun i hi=>?_,fun i hi=>?_,fun i hi=>?_,h.link,fun i hi=>?_,h.flood,h.vrf,fun i hi=>?_⟩
 ·have:=few_iff.1 h.few
  exact few_iff.2 (by rw[hl];exact this)
 ·rw[hl]at hi
  obtain ⟨a,b,c,d,e⟩:=bareB_iff.1 (h.bare i hi)
  refine bareB_iff.2 ⟨by rw[hdev];exact a,by rw[hvl];exact b,?_,by rw[hir];exact d,by rw[hdom,hdev,hvl];exact e⟩
  by_cases ij:i=j
  ·subst ij
   show 0≤(nth (n.domains.set i { nth n.domains i with vni:=v,row:=r }) (i:Int)).vni∧(nth (n.domains.set i { nth n.domains i with vni:=v,row:=r }) (i:Int)).vni≤_
   rw[Qq _ _ hj];exact hv
  ·rw[hne i ij];exact c
 ·rw[hl]at hi
  have hpi:=h.peers i hi
  by_cases ij:i=j
  ·subst ij
   rw[Qq _ _ hj]
   have:(nth n.domains (i:Int)).peers=[]:=by
    cases hp:(nth n.domains (i:Int)).peers with
    | nil=>rfl
    | cons k r =>
     rw[Ic,hp,So]at hpi
     have:=hpi 0 y_
     rw[Bool.and_eq_true]at this
     exact absurd h0 (peerB_iff.1 this.1).2.2.2.2.2.1
   rw[Ic]
   dsimp only
   rw[this]
   rfl
  ·rw[hne i ij]
   refine Ex E hpi fun k hk=>?_
   obtain ⟨a,b,c,d,e,f,g,q,rr⟩:=peerB_iff.1 hk
   have hk:=place_iff.1 a
   have kj:k.toNat≠j:=fun kj=>by
    have:nth n.domains k=nth n.domains (j:Int):=Hp _ kj
    rw[this,h0]at e
    exact f e.symm
   have hkn:nth (n.domains.set j { nth n.domains j with vni:=v,row:=r }) k=nth n.domains k:=Dj _ _ kj
   exact peerB_iff.2 ⟨by rw[hl];exact a,b,by rw[hkn];exact c,by rw[hkn];exact d,by rw[hkn];exact e,f,by rw[hkn];exact g,q,by rw[hkn];exact rr⟩
 ·obtain ⟨a,b,c,d,e,f,g,q⟩:=portB_iff.1 (h.port i hi)
  exact portB_iff.2 ⟨a,b,c,d,e,fun v hv=>by rw[hdom];exact f v hv,fun hv=>by rw[hdom];exact g hv,q⟩
 ·obtain ⟨a,b,c,d⟩:=staticB_iff.1 (h.static i hi)
  exact staticB_iff.2 ⟨by rw[hl];exact a,b,by rw[hdev];exact c,by rw[hvl];exact d⟩
 ·obtain ⟨a,b,c,d,e⟩:=irbB_iff.1 (h.irb i hi)
  exact irbB_iff.2 ⟨by rw[hl];exact a,b,by rw[hdev];exact c,by rw[hir];exact d,e⟩
theorem Aa9 {n:Net} (h:NetR n) (j:Nat) (hj:j<n.domains.length) (h0:(nth n.domains j).irb<0) (x:Irb) (hx:x.domain=j) (hv:Al x.vrf n.vrfs.length=true) (hd:(nth n.domains j).dev=(nth n.vrfs x.vrf).dev) (hb:1≤x.bits∧x.bits≤30) :
  NetR { n with domains:=n.domains.set j { nth n.domains j with irb:=n.irbs.length },irbs:=n.irbs++[x] }:=by
 have hl:(n.domains.set j { nth n.domains j with irb:=n.irbs.length }).length=n.domains.length:=List.length_set
 have hdom:=W5 (n:=n) hj { nth n.domains j with irb:=n.irbs.length } rfl rfl { n with domains:=n.domains.set j { nth n.domains j with irb:=n.irbs.length },irbs:=n.irbs++[x] } rfl
 have hdev:=fun i=>D4 n.domains { nth n.domains j with irb:=n.irbs.length } j i Domain.dev rfl hj
 have hvl:=fun i=>D4 n.domains { nth n.domains j with irb:=n.irbs.length } j i Domain.vlan rfl hj
 have hvn:=fun i=>D4 n.domains { nth n.domains j with irb:=n.irbs.length } j i Domain.vni rfl hj
 have hpe:∀ i,(nth (n.domains.set j { nth n.domains j with irb:=n.irbs.length }) i).peers=(nth n.domains i).peers:=fun i=>by
  by_cases e:i.toNat=j
  ·have:nth (n.domains.set j { nth n.domains j with irb:=n.irbs.length }) i={ nth n.domains j with irb:=n.irbs.length }:=by rw[nth,e,List.getElem?_set_self hj];rfl
   have h2:nth n.domains i=nth n.domains (j:Int):=Hp _ e
   rw[this,h2]
  ·rw[Dj _ _ e]
 have hne:∀ i:Nat,i≠j→nth (n.domains.set j { nth n.domains j with irb:=n.irbs.length }) (i:Int)=nth n.domains (i:Int):=fun i hi=>Dj _ _ (by rw[Int.toNat_natCast];exact hi)
 have hself:nth (n.domains.set j { nth n.domains j with irb:=n.irbs.length }) (j:Int)={ nth n.domains j with irb:=n.irbs.length }:=Qq _ _ hj
 have hfew:n.irbs.length<48:=by
  have hf:=few_iff.1 h.few
  refine Nat.lt_of_lt_of_le ?_ hf.2.2.2.1
  have inj:∀ a b:Nat,a<n.irbs.length→b<n.irbs.length→(nth n.irbs (a:Int)).domain=(nth n.irbs (b:Int)).domain→a=b:=fun a b ha hb e=>by
   have h1:=(irbB_iff.1 (h.irb a ha)).2.2.2.1
   have h2:=(irbB_iff.1 (h.irb b hb)).2.2.2.1
   rw[e,h2]at h1
   omega
  have hsub:((List.range n.irbs.length).map fun a:Nat=>(nth n.irbs (a:Int)).domain.toNat).length≤((List.range n.domains.length).erase j).length:=by
   refine List.Nodup.length_le_of_subset ?_ ?_
   ·rw[List.nodup_iff_pairwise_ne,List.pairwise_map]
    refine List.Pairwise.imp_of_mem ?_ List.pairwise_lt_range
    intro a b ha hb hab e
    have ha:=List.mem_range.1 ha
    have hb:=List.mem_range.1 hb
    have p1:=place_iff.1 (irbB_iff.1 (h.irb a ha)).1
    have p2:=place_iff.1 (irbB_iff.1 (h.irb b hb)).1
    have:=inj a b ha hb q_
    omega
   ·intro y hy
    obtain ⟨a,ha,rfl⟩:=List.mem_map.1 hy
    have ha:=List.mem_range.1 ha
    have p1:=place_iff.1 (irbB_iff.1 (h.irb a ha)).1
    have p2:=(irbB_iff.1 (h.irb a ha)).2.2.2.1
    rw[List.mem_erase_of_ne]
    ·exact List.mem_range.2 q_
    ·intro e
     have:nth n.domains (nth n.irbs (a:Int)).domain=nth n.domains (j:Int):=Hp _ e
     rw[this]at p2
     omega
  rw[List.length_map,List.length_range,List.length_erase_of_mem (List.mem_range.2 hj),List.length_range]at hsub
  omega
 refine⟨?_,fun i hi=>?_,fun i hi=>?_,fun i hi=>?_,h.link,fun i hi=>?_,h.flood,h.vrf,fun i hi=>?_⟩
 ·have:=few_iff.1 h.few
  exact few_iff.2 (by rw[hl];simp only[List.length_append,List.length_singleton];omega)
 ·rw[hl]at hi
  obtain ⟨a,b,c,d,e⟩:=bareB_iff.1 (h.bare i hi)
  refine bareB_iff.2 ⟨by rw[hdev];exact a,by rw[hvl];exact b,by rw[hvn];exact c,?_,by rw[hdom,hdev,hvl];exact e⟩
  by_cases ij:i=j
  ·subst ij
   rw[hself]
   refine .inr ⟨place_iff.2 (by simp;omega),?_⟩
   show (nth (n.irbs++[x]) (n.irbs.length:Int)).domain=_
   rw[Da,hx]
  ·rw[hne i ij]
   rcases d with d | ⟨d1,d2⟩
   ·exact .inl d
   ·have:=place_iff.1 d1
    exact .inr ⟨C9 d1 y_,by rw[show nth (n.irbs++[x]) (nth n.domains (i:Int)).irb=nth n.irbs (nth n.domains (i:Int)).irb from D2 _ _ q_];exact d2⟩
 ·rw[hl]at hi
  refine Ex (hpe _) (h.peers i hi) fun k hk=>?_
  obtain ⟨a,b,c,d,e,f,g,q,r⟩:=peerB_iff.1 hk
  have hvt:∀ k,Hj { n with domains:=n.domains.set j { nth n.domains j with irb:=n.irbs.length },irbs:=n.irbs++[x] } (nth (n.domains.set j { nth n.domains j with irb:=n.irbs.length }) k)=Hj n (nth n.domains k):=fun k=>by
   simp only[Hj];rw[hdev]
  exact peerB_iff.2 ⟨by rw[hl];exact a,b,by rw[hdev];exact c,by rw[hdev,hdev];exact d,by rw[hvn,hvn];exact e,by rw[hvn];exact f,(hvt k).trans g,(hvt i).trans q,by rw[hpe];exact r⟩
 ·obtain ⟨a,b,c,d,e,f,g,q⟩:=portB_iff.1 (h.port i hi)
  exact portB_iff.2 ⟨a,b,c,d,e,fun v hv=>by rw[hdom];exact f v hv,fun hv=>by rw[hdom];exact g hv,q⟩
 ·obtain ⟨a,b,c,d⟩:=staticB_iff.1 (h.static i hi)
  exact staticB_iff.2 ⟨by rw[hl];exact a,b,by rw[hdev];exact c,by rw[hvl];exact d⟩
 ·simp only[List.length_append,List.length_singleton]at hi
  by_cases e:i<n.irbs.length
  ·rw[show nth (n.irbs++[x]) (i:Int)=nth n.irbs (i:Int) from D2 _ _ e]
   obtain ⟨a,b,c,d,e⟩:=irbB_iff.1 (h.irb i e)
   have pa:=place_iff.1 a
   have hdj:(nth n.irbs (i:Int)).domain.toNat≠j:=fun e=>by
    have:nth n.domains (nth n.irbs (i:Int)).domain=nth n.domains (j:Int):=Hp _ e
    rw[this]at d
    omega
   have hk:nth (n.domains.set j { nth n.domains j with irb:=n.irbs.length }) (nth n.irbs (i:Int)).domain=nth n.domains (nth n.irbs (i:Int)).domain:=Dj _ _ hdj
   exact irbB_iff.2 ⟨by rw[hl];exact a,b,by rw[hk];exact c,by rw[hk];exact d,e⟩
  ·rw[show i=n.irbs.length by omega,Da]
   refine irbB_iff.2 ⟨by rw[hl];exact place_iff.2 q_,hv,?_,?_,hb⟩
   ·rw[hx,hself];exact hd
   ·rw[hx,hself]
theorem idxI_nonneg {α:Type} {p:α→Bool} {l:List α}:0≤Br p l↔l.any p=true:=by
 rw[List.any_eq_true]
 constructor
 ·intro h
  cases hf:l.findIdx? p with
  | none=>simp only[Br,hf]at h;omega
  | some i =>
   rw[List.findIdx?_eq_some_iff_getElem]at hf
   obtain ⟨h1,h2,_⟩:=hf
   exact⟨l[i],List.getElem_mem h1,h2⟩
 ·rintro ⟨x,hx,hp⟩
  cases hf:l.findIdx? p with
  | none =>
   rw[List.findIdx?_eq_none_iff]at hf
   rw[hf x hx]at hp;cases hp
  | some i=>simp only[Br,hf];omega
theorem E0 {α:Type} [Inhabited α] {p:α→Bool} {l:List α} (h:0≤Br p l):(Br p l).toNat<l.length∧p (nth l (Br p l))=true:=by
 cases hf:l.findIdx? p with
 | none=>simp only[Br,hf]at h;omega
 | some i =>
  have e:Br p l=i:=by simp only[Br,hf]
  rw[List.findIdx?_eq_some_iff_getElem]at hf
  obtain ⟨h1,h2,_⟩:=hf
  rw[e,Int.toNat_natCast]
  refine⟨h1,?_⟩
  rw[← H9 l i h1];exact h2
theorem Wp {α:Type} (p:α→Bool) (l e:List α) (h:0≤Br p l):Br p (l++e)=Br p l:=by
 cases hf:l.findIdx? p with
 | none=>simp only[Br,hf]at h;omega
 | some i =>
  have:(l++e).findIdx? p=some i:=by rw[List.findIdx?_append,hf];rfl
  simp only[Br,hf,this]
theorem Tz {α:Type} (p:α→Bool) (l:List α) (x:α) (h:l.any p=false) (hx:p x=true):Br p (l++[x])=l.length:=by
 refine Co (j:=l.length) y_ (fun i hi hij=>?_) ?_
 ·rw[List.getElem_append_left hij]
  rw[List.any_eq_false]at h
  have:=h l[i] (List.getElem_mem hij)
  simpa using this
 ·rw[List.getElem_append_right (Nat.le_refl _)]
  simpa using hx
theorem Ve {n:Net} (h:NetR n) (dev v:Int) (hd:Al dev n.devices.length=true) (hv:1≤v∧v≤4094) (ha:n.domains.any (fun d=>d.dev == dev && d.vlan == v)=false) (m:Net) (hm:m={ n with domains:=n.domains++[⟨dev,v,0,-1,0,[]⟩] }) (hl:n.domains.length<48):NetR m:=by
 subst hm
 have hn:∀ {i:Int},i.toNat<n.domains.length→nth (n.domains++[(⟨dev,v,0,-1,0,[]⟩:Domain)]) i=nth n.domains i:=fun h=>D2 _ _ h
 have hnn:∀ {i:Nat},i<n.domains.length→nth (n.domains++[(⟨dev,v,0,-1,0,[]⟩:Domain)]) (i:Int)=nth n.domains (i:Int):=fun h=>D2 _ _ h
 have hdm:∀ a b,0≤B7 n a b→B7 { n with domains:=n.domains++[⟨dev,v,0,-1,0,[]⟩] } a b=B7 n a b:=fun a b h=>Wp _ _ _ h
 refine⟨?_,fun i hi=>?_,fun i hi=>?_,fun i hi=>?_,h.link,fun i hi=>?_,h.flood,h.vrf,fun i hi=>?_⟩
 ·have:=few_iff.1 h.few
  exact few_iff.2 (by simp only[List.length_append,List.length_singleton];omega)
 ·simp only[List.length_append,List.length_singleton]at hi
  by_cases e:i<n.domains.length
  ·rw[hnn e]
   obtain ⟨a,b,c,d,f⟩:=bareB_iff.1 (h.bare i e)
   exact bareB_iff.2 ⟨a,b,c,d,by rw[hdm _ _ q_];exact f⟩
  ·rw[show i=n.domains.length by omega,Da]
   refine bareB_iff.2 ⟨hd,hv,⟨Int.le_refl _,by show (0:Int)≤_;decide⟩,.inl E,?_⟩
   exact Tz _ _ _ ha y_
 ·simp only[List.length_append,List.length_singleton]at hi
  by_cases e:i<n.domains.length
  ·rw[hnn e]
   refine Ex E (h.peers i e) fun k hk=>?_
   obtain ⟨a,b,c,d,f,g,o,q,r⟩:=peerB_iff.1 hk
   have ha:=place_iff.1 a
   exact peerB_iff.2 ⟨C9 a y_,b,by rw[hn q_];exact c,by rw[hn q_];exact d,by rw[hn q_];exact f,g,by rw[hn q_];exact o,q,by rw[hn q_];exact r⟩
  ·rw[show i=n.domains.length by omega,Da]
   rfl
 ·obtain ⟨a,b,c,d,e,f,g,q⟩:=portB_iff.1 (h.port i hi)
  exact portB_iff.2 ⟨a,b,c,d,e,fun v hv=>by rw[hdm _ _ (f v hv)];exact f v hv,fun hv=>by rw[hdm _ _ (g hv)];exact g hv,q⟩
 ·obtain ⟨a,b,c,d⟩:=staticB_iff.1 (h.static i hi)
  have pa:=place_iff.1 a
  have e1:=hn (i:=(nth n.statics (i:Int)).domain) q_
  exact staticB_iff.2 ⟨C9 a y_,b,c.trans (congrArg Domain.dev e1).symm,by have:=d;rw[← congrArg Domain.vlan e1]at this;exact this⟩
 ·obtain ⟨a,b,c,d,e⟩:=irbB_iff.1 (h.irb i hi)
  have pa:=place_iff.1 a
  have e1:=hn (i:=(nth n.irbs (i:Int)).domain) q_
  exact irbB_iff.2 ⟨C9 a y_,b,(congrArg Domain.dev e1).trans c,(congrArg Domain.irb e1).trans d,e⟩
theorem Ox (dev:Int):∀ (l:List Int) (ds:List Domain),ds.length≤(At dev ds l).length
 | [],ds=>Nat.le_refl _
 | v::l,ds=>by
  refine Nat.le_trans ?_ (Ox dev l (Bm dev ds v))
  rw[Bm]
  split<;>simp
theorem K7 {dev:Int}:∀ (l:List Int) (n:Net),NetR n→Al dev n.devices.length=true→(∀ v∈l,v≤4094)→(At dev n.domains l).length≤48→NetR { n with domains:=At dev n.domains l }∧∀ v∈l,0<v→0≤B7 { n with domains:=At dev n.domains l } dev v
 | [],n,h,_,_,_=>⟨h,fun v hv=>by cases hv⟩
 | v::l,n,h,hd,hv,hl=>by
  have hlen:=Ox dev l (Bm dev n.domains v)
  have e:At dev n.domains (v::l)=At dev (Bm dev n.domains v) l:=rfl
  rw[e]at hl ⊢
  have h1:NetR { n with domains:=Bm dev n.domains v }∧(0<v→0≤B7 { n with domains:=Bm dev n.domains v } dev v):=by
   rw[Bm]at hlen ⊢
   split
   ·rename_i hc
    rw[if_pos hc]at hlen
    refine⟨Ve h dev v hd ⟨by omega,hv v y_⟩ hc.2 _ E ?_,fun _=>?_⟩
    ·have hl':=hl
     rw[Bm,if_pos hc]at hl'
     simp only[List.length_append,List.length_singleton]at hlen
     omega
    ·rw[B7,Tz _ _ _ hc.2 y_];omega
   ·rename_i hc
    refine⟨h,fun h0=>?_⟩
    have:n.domains.any (fun d=>d.dev == dev && d.vlan == v)=true:=by
     cases ha:n.domains.any (fun d=>d.dev == dev && d.vlan == v)
     ·exact absurd ⟨h0,ha⟩ hc
     ·rfl
    exact idxI_nonneg.2 this
  obtain ⟨r1,r2⟩:=K7 l { n with domains:=Bm dev n.domains v } h1.1 hd (fun x hx=>hv x (by simp[hx])) hl
  refine⟨r1,fun x hx h0=>?_⟩
  rcases List.mem_cons.1 hx with rfl | hx
  ·have h2:=h1.2 h0
   have:∀ (l:List Int) (ds:List Domain),0≤Br (fun d:Domain=>d.dev == dev && d.vlan == x) ds→0≤Br (fun d:Domain=>d.dev == dev && d.vlan == x) (At dev ds l):=by
    intro l
    induction l with
    | nil=>exact fun ds h=>h
    | cons y l ih =>
     intro ds h
     refine ih (Bm dev ds y) ?_
     rw[Bm]
     split
     ·rw[Wp _ _ _ h];exact h
     ·exact h
   exact this l _ h2
  ·exact r2 x hx h0
theorem Yk {n:Net} (h:NetR n) (p:Port) (hp:Ij n n.ports.length p=true) (hl:n.ports.length<40):NetR { n with ports:=n.ports++[p] }:=by
 have hn:∀ {i:Int},i.toNat<n.ports.length→nth (n.ports++[p]) i=nth n.ports i:=fun h=>D2 _ _ h
 refine⟨?_,h.bare,h.peers,fun i hi=>?_,fun i hi=>?_,fun i hi=>?_,h.flood,h.vrf,h.irb⟩
 ·have:=few_iff.1 h.few
  exact few_iff.2 (by simp only[List.length_append,List.length_singleton];omega)
 ·simp only[List.length_append,List.length_singleton]at hi
  by_cases e:i<n.ports.length
  ·have e1:nth (n.ports++[p]) (i:Int)=nth n.ports (i:Int):=hn (i:=(i:Int)) e
   rw[e1];exact h.port i e
  ·rw[show i=n.ports.length by omega,Da];exact hp
 ·obtain ⟨a,b,c,d,e⟩:=linkB_iff.1 (h.link i hi)
  have pa:=place_iff.1 a
  have pb:=place_iff.1 b
  have e1:=hn (i:=(nth n.links (i:Int)).a) q_
  have e2:=hn (i:=(nth n.links (i:Int)).b) q_
  exact linkB_iff.2 ⟨C9 a y_,C9 b y_,fun x=>c ((congrArg Port.dev e1).symm.trans (x.trans (congrArg Port.dev e2))),(congrArg Port.link e1).trans d,(congrArg Port.link e2).trans e⟩
 ·obtain ⟨a,b,c,d⟩:=staticB_iff.1 (h.static i hi)
  have pb:=place_iff.1 b
  have e1:=hn (i:=(nth n.statics (i:Int)).port) q_
  exact staticB_iff.2 ⟨a,C9 b y_,(congrArg Port.dev e1).trans c,by have:=d;rw[← e1]at this;exact this⟩
theorem Yu {n:Net} (h:NetR n) (a b:Nat) (ha:a<n.ports.length) (hb:b<n.ports.length) (hd:(nth n.ports a).dev≠(nth n.ports b).dev) (h1:(nth n.ports a).link<0) (h2:(nth n.ports b).link<0) (row:Int) (hl:n.links.length<20) :
  NetR { n with ports:=Df (Df n.ports a n.links.length) b n.links.length,links:=n.links++[⟨row,a,b⟩] }:=by
 have hab:a≠b:=fun e=>hd (by rw[e])
 have hlen:(Df (Df n.ports a n.links.length) b n.links.length).length=n.ports.length:=by simp[Df]
 have hi1:∀ i:Int,i.toNat≠a→i.toNat≠b→nth (Df (Df n.ports a n.links.length) b n.links.length) i=nth n.ports i:=fun i x y=>by
  rw[Df,Int.toNat_natCast,Dj _ _ y,Df,Int.toNat_natCast,Dj _ _ x]
 have hia:∀ i:Int,i.toNat=a→nth (Df (Df n.ports a n.links.length) b n.links.length) i={ nth n.ports a with link:=n.links.length }:=fun i x=>by
  rw[Df,Int.toNat_natCast,Dj _ _ q_,Df,Int.toNat_natCast,nth,x,List.getElem?_set_self ha]
  rfl
 have hib:∀ i:Int,i.toNat=b→nth (Df (Df n.ports a n.links.length) b n.links.length) i={ nth n.ports b with link:=n.links.length }:=fun i x=>by
  have e:nth (Df n.ports a n.links.length) (b:Int)=nth n.ports b:=by rw[Df,Int.toNat_natCast,Dj _ _ (by rw[Int.toNat_natCast];omega)]
  rw[Df,Int.toNat_natCast,e,nth,x,List.getElem?_set_self (by rw[Df,List.length_set];exact hb)]
  rfl
 have same:∀ {β:Type} (f:Port→β),(∀ p k,f { p with link:=k }=f p)→∀ i:Int,f (nth (Df (Df n.ports a n.links.length) b n.links.length) i)=f (nth n.ports i):=fun f hf i=>by
  by_cases x:i.toNat=a
  ·rw[hia i x,hf,nth,nth,x,Int.toNat_natCast]
  ·by_cases y:i.toNat=b
   ·rw[hib i y,hf,nth,nth,y,Int.toNat_natCast]
   ·rw[hi1 i x y]
 have sd:=same Port.dev (fun _ _=>rfl)
 have sn:=same Port.native (fun _ _=>rfl)
 have st:=same Port.tagged (fun _ _=>rfl)
 have sm:=same (fun p v=>Cs p v) (fun _ _=>rfl)
 refine⟨?_,h.bare,h.peers,fun i hi=>?_,fun i hi=>?_,fun i hi=>?_,h.flood,h.vrf,h.irb⟩
 ·have:=few_iff.1 h.few
  exact few_iff.2 (by rw[hlen];simp only[List.length_append,List.length_singleton];omega)
 ·rw[hlen]at hi
  obtain ⟨c1,c2,c3,c4,c5,c6,c7,c8⟩:=portB_iff.1 (h.port i hi)
  refine portB_iff.2 ⟨by rw[sd];exact c1,by rw[sn];exact c2,by rw[st];exact c3,by rw[st,sn];exact c4,by rw[sn,st];exact c5,by rw[st,sd];exact c6,by rw[sn,sd];exact c7,?_⟩
  have nl:nth (n.links++[(⟨row,a,b⟩:Link)]) (n.links.length:Int)=⟨row,a,b⟩:=Da _ _
  by_cases x:i=a
  ·rw[hia i (by rw[Int.toNat_natCast];exact x)]
   refine .inr ⟨place_iff.2 (by simp;omega),.inl ?_⟩
   show (nth (n.links++[(⟨row,a,b⟩:Link)]) (n.links.length:Int)).a=_
   rw[nl,x]
  ·by_cases y:i=b
   ·rw[hib i (by rw[Int.toNat_natCast];exact y)]
    refine .inr ⟨place_iff.2 (by simp;omega),.inr ?_⟩
    show (nth (n.links++[(⟨row,a,b⟩:Link)]) (n.links.length:Int)).b=_
    rw[nl,y]
   ·rw[hi1 i (by rw[Int.toNat_natCast];exact x) (by rw[Int.toNat_natCast];exact y)]
    rcases c8 with c8 | ⟨d1,d2⟩
    ·exact .inl c8
    ·have pd:=place_iff.1 d1
     exact .inr ⟨C9 d1 y_,by rw[show nth (n.links++[(⟨row,a,b⟩:Link)]) (nth n.ports (i:Int)).link=nth n.links (nth n.ports (i:Int)).link from D2 _ _ q_];exact d2⟩
 ·simp only[List.length_append,List.length_singleton]at hi
  by_cases e:i<n.links.length
  ·rw[show nth (n.links++[(⟨row,a,b⟩:Link)]) (i:Int)=nth n.links (i:Int) from D2 _ _ e]
   obtain ⟨c1,c2,c3,c4,c5⟩:=linkB_iff.1 (h.link i e)
   have off:∀ k:Int,(nth n.ports k).link=(i:Int)→nth (Df (Df n.ports a n.links.length) b n.links.length) k=nth n.ports k:=fun k hk=>by
    refine hi1 k (fun x=>?_) (fun x=>?_)
    ·have:nth n.ports k=nth n.ports (a:Int):=Hp _ x
     rw[this]at hk;omega
    ·have:nth n.ports k=nth n.ports (b:Int):=Hp _ x
     rw[this]at hk;omega
   exact linkB_iff.2 ⟨by rw[hlen];exact c1,by rw[hlen];exact c2,by rw[sd,sd];exact c3,by rw[off _ c4];exact c4,by rw[off _ c5];exact c5⟩
  ·rw[show i=n.links.length by omega,Da]
   refine linkB_iff.2 ⟨by rw[hlen];exact place_iff.2 ⟨by show (0:Int)≤(a:Int);omega,by show (a:Int)<_;omega⟩,by rw[hlen];exact place_iff.2 ⟨by show (0:Int)≤(b:Int);omega,by show (b:Int)<_;omega⟩,by rw[sd,sd];exact hd,?_,?_⟩
   ·rw[hia (a:Int) (Int.toNat_natCast a)]
   ·rw[hib (b:Int) (Int.toNat_natCast b)]
 ·obtain ⟨c1,c2,c3,c4⟩:=staticB_iff.1 (h.static i hi)
  refine staticB_iff.2 ⟨c1,by rw[hlen];exact c2,by rw[sd];exact c3,?_⟩
  have:=sm (nth n.statics (i:Int)).port
  exact(congrFun this _).trans c4
theorem J5 {n:Net} {l:LineM} {k:Int} (h:¬ fitsB n l k=false):l.kind=k∧(Av l).2=true∧NetR n:=by
 have h:fitsB n l k=true:=by simpa using h
 simp only[fitsB,Bk,Bool.and_eq_true,beq_iff_eq]at h
 exact⟨h.1,h.2.1.1,netR_iff.1 h.2.2⟩
theorem Is {n:Net} {l:LineM} {k:Int} (h:¬ (begT n l k).2≠0):l.kind=k∧(Av l).2=true∧NetR n∧0≤Bi n l.dev∧(Bi n l.dev).toNat<n.devices.length∧(begT n l k).1=Bi n l.dev:=by
 rw[begT]at h ⊢
 split at h
 ·simp at h
 ·rename_i h1
  rw[if_neg h1]
  split at h
  ·simp at h
  ·rename_i h2
   rw[if_neg h2]
   obtain ⟨a,b,c⟩:=J5 h1
   exact⟨a,b,c,by omega,(E0 (p:=fun d:Device=>d.name == l.dev) (by show 0≤Bi n l.dev;omega)).1,E⟩
theorem Aa1 {l:List Int} {v:Int}:inB l v=l.contains v:=by
 induction l with
 | nil=>rfl
 | cons x l ih =>
  rw[inB,List.any_cons,List.contains_cons]
  rw[inB]at ih
  rw[ih]
  congr 1
  exact Bool.beq_comm
theorem Aaq {n:Net} {l:LineM} (h:(putT n l).2=0):NetR (putT n l).1:=by
 rw[putT]at h ⊢
 by_cases k1:l.kind=1
 ·rw[if_pos k1]at h ⊢
  rw[putDevice]at h ⊢
  repeat' split at h
  all_goals (try (simp at h;done))
  rename_i h1 h2 h3
  rw[if_neg h1,if_neg h2,if_neg h3]
  obtain ⟨_,_,hr⟩:=J5 h1
  have:=few_iff.1 hr.few
  exact Vg hr _ q_
 rw[if_neg k1]at h ⊢
 by_cases k2:l.kind=2
 ·rw[if_pos k2]at h ⊢
  rw[putPort]at h ⊢
  repeat' split at h
  all_goals (try (simp at h;done))
  rename_i h1 h2 h3 h4 h5
  rw[if_neg h1,if_neg h2,if_neg h3,if_neg h4,if_neg h5]
  obtain ⟨_,hu,hr⟩:=J5 h1
  have hf:=few_iff.1 hr.few
  simp only[Av,if_neg k1,if_pos k2,Bool.and_eq_true]at hu
  obtain ⟨u1,u2,u3,u4,u5⟩:=hu
  have hv:=within_iff.1 u3
  have hp:=(E0 (p:=fun d:Device=>d.name == l.dev) (l:=n.devices) (by show 0≤Bi n l.dev;omega)).1
  have hpl:Al (Bi n l.dev) n.devices.length=true:=place_iff.2 ⟨by omega,by have:(Bi n l.dev).toNat<n.devices.length:=hp;omega⟩
  have htag:∀ v∈l.tagged,1≤v∧v≤4094:=fun v hv=>by
   rcases listOK_iff.1 u4 with e | e
   ·rw[e]at hv;cases hv
   ·exact(rising_iff.1 e).2.1 v hv
  obtain ⟨r1,r2⟩:=K7 (l.vlan::l.tagged) n hr hpl (fun v hv=>by
   rcases List.mem_cons.1 hv with rfl | hv
   ·omega
   ·exact(htag v hv).2) q_
  refine Yk r1 _ (portB_iff.2 ⟨hpl,hv,u4,?_,?_,fun v hv=>r2 v (by simp[hv]) (by have:=htag v hv;omega),fun h0=>r2 _ y_ h0,.inl E⟩) (by show n.ports.length<40;omega)
  ·simp only[membersB,Bool.and_eq_true,Bool.not_eq_eq_eq_not,Bool.not_true]at u5
   rw[Aa1];exact u5.2
  ·rintro ⟨e1,e2⟩
   dsimp only at e1 e2
   simp[membersB,e1,e2]at u5
 rw[if_neg k2]at h ⊢
 by_cases k3:l.kind=3
 ·rw[if_pos k3]at h ⊢
  rw[putLink]at h ⊢
  dsimp only at h ⊢
  repeat' split at h
  all_goals (try (simp at h;done))
  rename_i h1 h2 h3 h4
  rw[if_neg h1,if_neg h2,if_neg h3,if_neg h4]
  obtain ⟨_,hu,hr⟩:=J5 h1
  have hf:=few_iff.1 hr.few
  have hend:∀ d p,0≤endI n d p→(endI n d p).toNat<n.ports.length:=fun d p h=>by
   rw[endI]at h ⊢
   split at h
   ·omega
   ·rename_i hx
    rw[if_neg hx]
    exact(E0 h).1
  have ha:=hend l.dev l.port q_
  have hb:=hend l.peer l.far q_
  generalize endI n l.dev l.port=a at *
  generalize endI n l.peer l.far=b at *
  obtain ⟨a,rfl⟩:∃ k:Nat,a=k:=⟨a.toNat,by omega⟩
  obtain ⟨b,rfl⟩:∃ k:Nat,b=k:=⟨b.toNat,by omega⟩
  rw[Int.toNat_natCast]at ha hb
  simp only[not_or]at h3
  exact Yu hr a b ha hb h3.1 q_ q_ l.row q_
 rw[if_neg k3]at h ⊢
 by_cases k4:l.kind=4
 ·rw[if_pos k4]at h ⊢
  rw[putStatic]at h ⊢
  dsimp only at h ⊢
  repeat' split at h
  all_goals (try (simp at h;done))
  rename_i h1 h2 h3 h4 h5
  rw[if_neg h1,if_neg h2,if_neg h3,if_neg h4,if_neg h5]
  obtain ⟨_,hu,hr⟩:=J5 h1
  have hf:=few_iff.1 hr.few
  simp only[not_or]at h2 h3
  have p1:=E0 (p:=fun p:Port=>p.dev == Bi n l.dev && p.name == l.port) (l:=n.ports) (by show 0≤La n (Bi n l.dev) l.port;omega)
  have p2:=E0 (p:=fun d:Domain=>d.dev == Bi n l.dev && d.vlan == l.vlan) (l:=n.domains) (by show 0≤B7 n (Bi n l.dev) l.vlan;omega)
  obtain ⟨a1,a2⟩:=p1
  obtain ⟨b1,b2⟩:=p2
  have a1:(La n (Bi n l.dev) l.port).toNat<n.ports.length:=a1
  have b1:(B7 n (Bi n l.dev) l.vlan).toNat<n.domains.length:=b1
  simp only[Bool.and_eq_true,beq_iff_eq]at a2 b2
  have a2:(nth n.ports (La n (Bi n l.dev) l.port)).dev=Bi n l.dev:=a2.1
  have b2:(nth n.domains (B7 n (Bi n l.dev) l.vlan)).dev=Bi n l.dev∧(nth n.domains (B7 n (Bi n l.dev) l.vlan)).vlan=l.vlan:=b2
  refine Uj hr _ (staticB_iff.2 ⟨place_iff.2 ⟨?_,?_⟩,place_iff.2 ⟨?_,?_⟩,?_,?_⟩) q_
  ·show 0≤B7 n (Bi n l.dev) l.vlan;omega
  ·show B7 n (Bi n l.dev) l.vlan<_;omega
  ·show 0≤La n (Bi n l.dev) l.port;omega
  ·show La n (Bi n l.dev) l.port<_;omega
  ·exact a2.trans b2.1.symm
  ·show Cs _ (nth n.domains (B7 n (Bi n l.dev) l.vlan)).vlan=true
   rw[b2.2]
   simpa using h3.2
 rw[if_neg k4]at h ⊢
 by_cases k5:l.kind=5
 ·rw[if_pos k5]at h ⊢
  rw[putVtep]at h ⊢
  dsimp only at h ⊢
  by_cases h1:(begT n l 5).2≠0
  ·rw[if_pos h1]at h;exact absurd h h1
  rw[if_neg h1]at h ⊢
  split at h
  ·simp at h
  rename_i h2
  rw[if_neg h2]
  obtain ⟨_,hu,hr,d0,d1,d2⟩:=Is h1
  simp only[Av,if_neg k1,if_neg k2,if_neg k3,if_neg k4,if_pos k5,decide_eq_true_eq]at hu
  rw[d2]
  have:=Xk hr (Bi n l.dev).toNat l.addr hu
  rw[Int.toNat_of_nonneg d0]at this
  exact this
 rw[if_neg k5]at h ⊢
 by_cases k6:l.kind=6
 ·rw[if_pos k6]at h ⊢
  rw[putVni]at h ⊢
  dsimp only at h ⊢
  by_cases h1:(begT n l 6).2≠0
  ·rw[if_pos h1]at h;exact absurd h h1
  rw[if_neg h1]at h ⊢
  obtain ⟨_,hu,hr,d0,d1,d2⟩:=Is h1
  rw[d2]at h ⊢
  repeat' split at h
  all_goals (try (simp at h;done))
  rename_i h2 h3 h4
  rw[if_neg h2,if_neg h3,if_neg h4]
  simp only[Av,if_neg k1,if_neg k2,if_neg k3,if_neg k4,if_neg k5,if_pos k6,Bool.and_eq_true]at hu
  have hv:=within_iff.1 hu.2
  have b1:(B7 n (Bi n l.dev) l.vlan).toNat<n.domains.length:=(E0 (p:=fun d:Domain=>d.dev == Bi n l.dev && d.vlan == l.vlan) (l:=n.domains) (by show 0≤B7 n (Bi n l.dev) l.vlan;omega)).1
  simp only[not_or,Decidable.not_not]at h4
  generalize B7 n (Bi n l.dev) l.vlan=j at *
  obtain ⟨j,rfl⟩:∃ k:Nat,j=k:=⟨j.toNat,by omega⟩
  rw[Int.toNat_natCast]at b1 ⊢
  exact Aaa hr j b1 h4.1 l.num l.row ⟨by omega,hv.2⟩
 rw[if_neg k6]at h ⊢
 by_cases k7:l.kind=7
 ·rw[if_pos k7]at h ⊢
  rw[putFlood]at h ⊢
  dsimp only at h ⊢
  by_cases h1:(begT n l 7).2≠0
  ·rw[if_pos h1]at h;exact absurd h h1
  rw[if_neg h1]at h ⊢
  obtain ⟨_,hu,hr,d0,d1,d2⟩:=Is h1
  rw[d2]at h ⊢
  repeat' split at h
  all_goals (try (simp at h;done))
  rename_i h2 h3 h4 h5
  rw[if_neg h2,if_neg h3,if_neg h4,if_neg h5]
  have hf:=few_iff.1 hr.few
  simp only[Av,if_neg k1,if_neg k2,if_neg k3,if_neg k4,if_neg k5,if_neg k6,if_pos k7,Bool.and_eq_true,Ej,decide_eq_true_eq]at hu
  exact Wt hr _ (floodB_iff.2 ⟨place_iff.2 ⟨d0,by show Bi n l.dev<_;omega⟩,hu.2.2.2⟩) q_
 rw[if_neg k7]at h ⊢
 by_cases k8:l.kind=8
 ·rw[if_pos k8]at h ⊢
  rw[putVrf]at h ⊢
  dsimp only at h ⊢
  by_cases h1:(begT n l 8).2≠0
  ·rw[if_pos h1]at h;exact absurd h h1
  rw[if_neg h1]at h ⊢
  obtain ⟨_,hu,hr,d0,d1,d2⟩:=Is h1
  rw[d2]at h ⊢
  repeat' split at h
  all_goals (try (simp at h;done))
  rename_i h2 h3
  rw[if_neg h2,if_neg h3]
  have hf:=few_iff.1 hr.few
  simp only[Av,if_neg k1,if_neg k2,if_neg k3,if_neg k4,if_neg k5,if_neg k6,if_neg k7,if_pos k8,Bool.and_eq_true]at hu
  exact Z9 hr _ (vrfB_iff.2 ⟨place_iff.2 ⟨d0,by show Bi n l.dev<_;omega⟩,hu.2.1,hu.2.2⟩) q_
 rw[if_neg k8]at h ⊢
 by_cases k9:l.kind=9
 ·rw[if_pos k9]at h ⊢
  rw[putIrb]at h ⊢
  dsimp only at h ⊢
  by_cases h1:(begT n l 9).2≠0
  ·rw[if_pos h1]at h;exact absurd h h1
  rw[if_neg h1]at h ⊢
  obtain ⟨_,hu,hr,d0,d1,d2⟩:=Is h1
  rw[d2]at h ⊢
  repeat' split at h
  all_goals (try (simp at h;done))
  rename_i h2 h3 h4
  rw[if_neg h2,if_neg h3,if_neg h4]
  simp only[Av,if_neg k1,if_neg k2,if_neg k3,if_neg k4,if_neg k5,if_neg k6,if_neg k7,if_neg k8,if_pos k9,Bool.and_eq_true]at hu
  have hb:=Jl hu.2.2
  have p1:=E0 (p:=fun v:Vrf=>v.dev == Bi n l.dev && v.name == l.name) (l:=n.vrfs) (by show 0≤Uf n (Bi n l.dev) l.name;omega)
  have p2:=E0 (p:=fun d:Domain=>d.dev == Bi n l.dev && d.vlan == l.vlan) (l:=n.domains) (by show 0≤B7 n (Bi n l.dev) l.vlan;omega)
  have a1:(Uf n (Bi n l.dev) l.name).toNat<n.vrfs.length:=p1.1
  have a2:(nth n.vrfs (Uf n (Bi n l.dev) l.name)).dev=Bi n l.dev:=by
   have:=p1.2
   simp only[Bool.and_eq_true,beq_iff_eq]at this
   exact this.1
  have b1:(B7 n (Bi n l.dev) l.vlan).toNat<n.domains.length:=p2.1
  have b2:(nth n.domains (B7 n (Bi n l.dev) l.vlan)).dev=Bi n l.dev:=by
   have:=p2.2
   simp only[Bool.and_eq_true,beq_iff_eq]at this
   exact this.1
  simp only[not_or]at h4
  generalize B7 n (Bi n l.dev) l.vlan=j at *
  obtain ⟨j,rfl⟩:∃ k:Nat,j=k:=⟨j.toNat,by omega⟩
  rw[Int.toNat_natCast]at b1 ⊢
  exact Aa9 hr j b1 q_ ⟨l.row,j,Uf n (Bi n l.dev) l.name,l.addr,l.bits⟩ E (place_iff.2 ⟨by dsimp only;omega,by dsimp only;omega⟩) (b2.trans a2.symm) hb
 ·rw[if_neg k9]at h
  simp at h
theorem Wy:NetR emptyN:=netR_iff.1 (by decide +kernel)
theorem Oq:∀ (l:List LineM) (n:Net) (more:List LineM),NetR n→(Cm n l).2.2≠0→(Cm n l).2.2≠36→(Cm n l).2.2≠38→Cm n (l++more)=Cm n l
 | [],n,more,hr,h0,h36,h38=>by
  exfalso
  rw[Cm,finishT]at h0 h36 h38
  have hm:(meshNT n).2.2=0∨(meshNT n).2.2=36:=by
   rw[meshNT,if_neg (by rw[netR_iff.2 hr];simp)]
   split
   ·exact .inr E
   ·split
    ·exact .inr E
    ·exact .inl E
  rcases hm with hm | hm
  ·rw[if_neg (by simp[hm])]at h0 h36 h38
   split at h0
   ·rename_i hx
    rw[if_pos hx]at h38
    exact h38 E
   ·exact h0 E
  ·rw[if_pos (by rw[hm];decide)]at h36
   exact h36 hm
 | x::l,n,more,hr,h0,h36,h38=>by
  rw[List.cons_append,Cm,Cm]
  rw[Cm]at h0 h36 h38
  by_cases hp:(putT n x).2≠0
  ·rw[if_pos hp,if_pos hp]
  ·rw[if_neg hp]at h0 h36 h38
   rw[if_neg hp,if_neg hp]
   exact Oq l _ more (Aaq q_) h0 h36 h38
end Go.Sy.YtjenpnjajjplkaaGreatDoor
namespace Go.Sy.YtjenpnjajjplkaaGreatDoor
open Go.Proofs
attribute [local irreducible] Go.Sy.G Go.Sy.DR
set_option maxRecDepth 100000
set_option maxHeartbeats 4000000
theorem Zx {l:List LineM} (h:linesGreat l=false):∀ x∈l,LineOK x→LineW x:=by
 intro x hx ho
 refine⟨Abb h x hx,ho,?_,?_,?_,?_,?_⟩
 all_goals
  rw[linesGreat]at h
  split at h
  ·cases h
  ·have:=J0 l 0 h x hx
   simp only[K1,List.forall_mem_cons]at this
   omega
theorem Uu (M K:List LineM) (hM:∀ z∈M,LineOK z) (hK:∀ z∈K,LineOK z):Sy.Spec Tryz.prog 6 [.sl 17 Aj M,.sl 17 Aj K] [] (Ab true) []:=cT F6 Tryz.ntmps6 fun F hF=>by
 have qw:=Abt
 by_cases c0:100<M.length
 ·have f0:decide ((M.length:Int)>100)=true:=decide_eq_true q_
  refine T ?_
  refine C qw F17 ?_
  refine T ?_
  exact D
 have f0:decide ((M.length:Int)>100)=false:=decide_eq_false q_
 by_cases c1:100<K.length
 ·have f1:decide ((K.length:Int)>100)=true:=decide_eq_true q_
  refine T ?_
  refine C qw F17 ?_
  refine T ?_
  exact D
 have f1:decide ((K.length:Int)>100)=false:=decide_eq_false q_
 have qg:=Og M q_
 have qh:=Og K q_
 cases hg:linesGreat M with
 | true =>
  rw[hg]at qg
  refine T ?_
  refine C qw F17 ?_
  refine T ?_
  refine C qg F11 ?_
  refine T ?_
  exact D
 | false =>
 rw[hg]at qg
 cases hh:linesGreat K with
 | true =>
  rw[hh]at qh
  refine T ?_
  refine C qw F17 ?_
  refine T ?_
  refine C qg F11 ?_
  refine T ?_
  refine C qh F11 ?_
  refine T ?_
  exact D
 | false =>
 rw[hh]at qh
 have wM:∀ z∈M,LineW z:=fun z hz=>Zx hg z hz (hM z hz)
 have wK:∀ z∈K,LineW z:=fun z hz=>Zx hh z hz (hK z hz)
 have q1:=Mt M wM q_
 have q2:=Mt (M++K) (fun z hz=>(List.mem_append.1 hz).elim (wM z) (wK z)) (by rw[List.length_append];omega)
 have hbf:=Oq M emptyN K Wy
 clear hg hh hM hK
 have hb1:Bu M=Cm emptyN M:=rfl
 have hb2:Bu (M++K)=Cm emptyN (M++K):=rfl
 rw[← hb1,← hb2]at hbf
 generalize Bu M=r at *
 generalize Bu (M++K)=r2 at *
 obtain ⟨n,row,e⟩:=r
 dsimp only at hbf q1
 refine T ?_
 refine C qw F17 ?_
 refine T ?_
 refine C qg F11 ?_
 refine T ?_
 refine C qh F11 ?_
 refine T ?_
 refine C q1 F13 ?_
 by_cases e0:e=0
 ·have g0:(e == 0)=true:=beq_iff_eq.2 e0
  refine T ?_
  exact D
 have g0:(e == 0)=false:=beq_eq_false_iff_ne.2 e0
 by_cases e1:e=36
 ·have g1:(e == 36)=true:=beq_iff_eq.2 e1
  refine T ?_
  exact D
 have g1:(e == 36)=false:=beq_eq_false_iff_ne.2 e1
 by_cases e2:e=38
 ·have g2:(e == 38)=true:=beq_iff_eq.2 e2
  refine T ?_
  exact D
 have g2:(e == 38)=false:=beq_eq_false_iff_ne.2 e2
 have hr2:r2=(n,row,e):=hbf e0 e1 e2
 subst hr2
 dsimp only at q2
 have g3:(e == e)=true:=by simp
 have g4:(row == row)=true:=by simp
 refine T ?_
 refine X (Ak Γ.toTy 48 E E E E E (.lit (e:=Aj) (l:=[]) E E) .sl y_ (by simp;omega) (by simp;omega)) ?_
 refine T ?_
 refine X (Ak Γ.toTy 50 E E E E E (.row E) .sl y_ (by simp;omega) (by simp;omega)) ?_
 refine Ag 50 E ?_
 refine C q2 F13 ?_
 refine T ?_
 exact Ar E (.cons .tmp .nil) (congrArg Ab g4.symm) E
end Go.Sy.YtjenpnjajjplkaaGreatDoor
