/-
  RB9 RB11 E20 E22 E23 E24 NB14 RL1 RL2 NB15 I22 I23 RL3 E16 E17 E18 E25 E26 E27 E28 E30 E31 D3 D4 RB10 RB12 NB17 Sy36 Sy37: parts of a proof, joined by program.
-/
import Derived.Test.YtjenpnjajjplkaaGreatDoorXN7
import Derived.Test.YtjenpnjajjplkaaGreatDoorXN4
import Derived.Test.YtjenpnjajjplkaaGreatDoorXN5
import Derived.Test.YtjenpnjajjplkaaGreatDoorXN6
import Derived.Test.YtjenpnjajjplkaaGreatDoorXN3
import Derived.Laws.LoneSync
set_option linter.all false
set_option linter.unusedVariables false
set_option linter.unusedSimpArgs false
set_option linter.deprecated false
namespace Go.Sy.YtjenpnjajjplkaaGreatDoor
open Go.Proofs
attribute [local irreducible] Go.Sy.G Go.Sy.DR
set_option maxRecDepth 100000
set_option maxHeartbeats 4000000
theorem Agd (n:Net) (hn:n.Fin) (hr:Ai n=true) (f:Flood) (hf:f∈n.floods):Sy.Spec Tryz.prog 136 [Aj n,A1 f] [] (Ab (agreesB n f)) []:=cT F136 Tryz.ntmps136 fun F hF=>by
 have hfd:0≤f.dev∧f.dev.toNat<n.devices.length:=by
  obtain ⟨j,hj,rfl⟩:=List.getElem_of_mem hf
  have:=Abw hr hj
  simp only[Ip,Ap,Bool.and_eq_true,decide_eq_true_eq]at this
  omega
 have hfa:f.addrs.length<2147483648:=hn.addrs f hf
 have hown:(nth n.devices f.dev).vtep=(n.devices[f.dev.toNat]'hfd.2).vtep:=by rw[Ar hfd.2]
 have q1:=M0 n f.dev f.vni hn.domains
 have hres:=agreesB.eq_1 n f
 have hag:∀ a,agreeA n f a=_:=agreeA.eq_1 n f
 generalize agreesB n f=res at *
 generalize H6 n f.dev f.vni=v0 at *
 by_cases kv:v0<0
 ·have g0:decide (v0<0)=true:=decide_eq_true kv
  have hr0:res=false:=by rw[hres,decide_eq_false (by omega:¬ 0≤v0)];rfl
  subst hr0
  refine T ?_
  refine A4 2 8 (Aj n) Y Y Y ?_
  refine A4 3 4 (A1 f) Y Y Y ?_
  refine C q1 F139 ?_
  exact D
 have g0:decide (v0<0)=false:=decide_eq_false kv
 rw[decide_eq_true (by omega:0≤v0),Bool.true_and]at hres
 refine T ?_
 refine A4 2 8 (Aj n) Y Y Y ?_
 refine A4 3 4 (A1 f) Y Y Y ?_
 refine C q1 F139 ?_
 refine At (fun j:Nat=>j≤f.addrs.length∧(f.addrs.take j).all (agreeA n f)=true) (fun j=>[(2,.ref 8 (Aj n) 0),(3,.ref 4 (A1 f) 0),(5,Aa j)]) (fun _=>[]) (fun j=>f.addrs.length-j) 0 [] ⟨by omega,by simp⟩ U ?_
 rintro j ⟨hj,hI⟩
 refine T ?_
 refine⟨fun h=>?_,fun h=>?_⟩
 ·have hlt:j<f.addrs.length:=qA h
  have hj0:((j:Nat):Int).toNat<f.addrs.length:=hlt
  clear h
  have qo:=Ue n (f.addrs[((j:Nat):Int).toNat]'hj0) hn.devices
  have hA:=hag (f.addrs[((j:Nat):Int).toNat]'hj0)
  have hsn:(f.addrs.take (j+1)).all (agreeA n f)=agreeA n f (f.addrs[((j:Nat):Int).toNat]'hj0):=by
   rw[List.take_succ_eq_append_getElem hlt,List.all_append,hI,Bool.true_and]
   simp only[List.all_cons,List.all_nil,Bool.and_true]
   rfl
  have hwhole:agreeA n f (f.addrs[((j:Nat):Int).toNat]'hj0)=false→res=false:=fun h=>by
   rw[hres,List.all_eq_false]
   exact⟨_,List.getElem_mem hj0,by rw[h];simp⟩
  have qf:=M0 n (Cw n (f.addrs[((j:Nat):Int).toNat]'hj0)) f.vni hn.domains
  have ql:=W4 n (Cw n (f.addrs[((j:Nat):Int).toNat]'hj0)) f.vni hn.floods
  have hlr:Ec n (Cw n (f.addrs[((j:Nat):Int).toNat]'hj0)) f.vni<0∨∃ k:Nat,Ec n (Cw n (f.addrs[((j:Nat):Int).toNat]'hj0)) f.vni=k∧k<n.floods.length:=by
   by_cases h:Ec n (Cw n (f.addrs[((j:Nat):Int).toNat]'hj0)) f.vni<0
   ·exact .inl h
   ·exact .inr (Dx h)
  generalize H6 n (Cw n (f.addrs[((j:Nat):Int).toNat]'hj0)) f.vni=fv at *
  generalize Ec n (Cw n (f.addrs[((j:Nat):Int).toNat]'hj0)) f.vni=lv at *
  generalize Cw n (f.addrs[((j:Nat):Int).toNat]'hj0)=dv at *
  by_cases k2:(f.addrs[((j:Nat):Int).toNat]'hj0)=0
  ·have g2:((f.addrs[((j:Nat):Int).toNat]'hj0) == 0)=true:=by rw[beq_iff_eq];exact k2
   have g2':((f.addrs[((j:Nat):Int).toNat]'hj0) != 0)=false:=by rw[bne_eq_false_iff_eq];exact k2
   have hr0:res=false:=hwhole (by rw[hA,g2',Bool.false_and,Bool.and_false])
   subst hr0
   refine T ?_
   refine C qo F140 ?_
   exact D
  have g2:((f.addrs[((j:Nat):Int).toNat]'hj0) == 0)=false:=by rw[beq_eq_false_iff_ne];exact k2
  have g2':((f.addrs[((j:Nat):Int).toNat]'hj0) != 0)=true:=by rw[bne_iff_ne];exact k2
  rw[g2',Bool.true_and]at hA
  by_cases k1:dv<0
  ·have g1:decide (dv<0)=true:=decide_eq_true k1
   have hr0:res=false:=hwhole (by rw[hA,decide_eq_false (by omega:¬ 0≤dv)];rfl)
   subst hr0
   refine T ?_
   refine C qo F140 ?_
   exact D
  have g1:decide (dv<0)=false:=decide_eq_false k1
  rw[decide_eq_true (by omega:0≤dv),Bool.true_and]at hA
  by_cases k3:fv<0
  ·have g3:decide (fv<0)=true:=decide_eq_true k3
   have hr0:res=false:=hwhole (by rw[hA,decide_eq_false (by omega:¬ 0≤fv)];rfl)
   subst hr0
   refine T ?_
   refine C qo F140 ?_
   refine C qf F139 ?_
   exact D
  have g3:decide (fv<0)=false:=decide_eq_false k3
  rw[decide_eq_true (by omega:0≤fv),Bool.true_and]at hA
  by_cases k4:lv<0
  ·have g4:decide (lv<0)=true:=decide_eq_true k4
   have hr0:res=false:=hwhole (by rw[hA,decide_eq_false (by omega:¬ 0≤lv)];rfl)
   subst hr0
   refine T ?_
   refine C qo F140 ?_
   refine C qf F139 ?_
   refine C ql F138 ?_
   exact D
  have g4:decide (lv<0)=false:=decide_eq_false k4
  rw[decide_eq_true (by omega:0≤lv),Bool.true_and]at hA
  obtain ⟨m,hm,hml⟩:=hlr.resolve_left k4
  subst hm
  have hm0:((m:Nat):Int).toNat<n.floods.length:=hml
  rw[Ar hm0,hown]at hA
  have hfar:=hn.addrs _ (List.getElem_mem hm0)
  have qc:=Aau (n.floods[((m:Nat):Int).toNat]'hm0).addrs (n.devices[f.dev.toNat]'hfd.2).vtep hfar
  have qcb:=fun b=>Aau (n.floods[((m:Nat):Int).toNat]'hm0).addrs b hfar
  cases hc:inB (n.floods[((m:Nat):Int).toNat]'hm0).addrs (n.devices[f.dev.toNat]'hfd.2).vtep with
  | false =>
   rw[hc]at qc
   rw[hc,Bool.false_and]at hA
   have hr0:res=false:=hwhole hA
   subst hr0
   refine T ?_
   refine C qo F140 ?_
   refine C qf F139 ?_
   refine C ql F138 ?_
   refine C ql F138 ?_
   refine C qc F218 ?_
   exact D
  | true =>
  rw[hc]at qc
  rw[hc,Bool.true_and]at hA
  refine T ?_
  refine C qo F140 ?_
  refine C qf F139 ?_
  refine C ql F138 ?_
  refine C ql F138 ?_
  refine C qc F218 ?_
  refine At (fun k:Nat=>k≤f.addrs.length∧(f.addrs.take k).all (fun b=>b == (f.addrs[((j:Nat):Int).toNat]'hj0) || inB (n.floods[((m:Nat):Int).toNat]'hm0).addrs b)=true) (fun k=>[(2,.ref 8 (Aj n) 0),(3,.ref 4 (A1 f) 0),(5,Aa j),(7,.sl 1 A3 (n.floods[((m:Nat):Int).toNat]'hm0).addrs),(8,Aa k)]) (fun _=>[]) (fun k=>f.addrs.length-k) 0 [] ⟨by omega,by simp⟩ U ?_
  rintro k ⟨hk,hI2⟩
  refine T ?_
  refine⟨fun h=>?_,fun h=>?_⟩
  ·have hlt2:k<f.addrs.length:=qA h
   have hk0:((k:Nat):Int).toNat<f.addrs.length:=hlt2
   clear h
   have qb:=qcb (f.addrs[((k:Nat):Int).toNat]'hk0)
   have hnx:(f.addrs.take (k+1)).all (fun b=>b == (f.addrs[((j:Nat):Int).toNat]'hj0) || inB (n.floods[((m:Nat):Int).toNat]'hm0).addrs b)=((f.addrs[((k:Nat):Int).toNat]'hk0) == (f.addrs[((j:Nat):Int).toNat]'hj0) || inB (n.floods[((m:Nat):Int).toNat]'hm0).addrs (f.addrs[((k:Nat):Int).toNat]'hk0)):=by
    rw[List.take_succ_eq_append_getElem hlt2,List.all_append,hI2,Bool.true_and]
    simp only[List.all_cons,List.all_nil,Bool.and_true]
    rfl
   cases he:((f.addrs[((k:Nat):Int).toNat]'hk0) != (f.addrs[((j:Nat):Int).toNat]'hj0)) with
   | false =>
    have he2:((f.addrs[((k:Nat):Int).toNat]'hk0) == (f.addrs[((j:Nat):Int).toNat]'hj0))=true:=by rw[beq_iff_eq];exact(bne_eq_false_iff_eq.1 he)
    rw[he2,Bool.true_or]at hnx
    refine T ?_
    exact Ad (k+1) [] ⟨hlt2,hnx⟩ z_ U
   | true =>
    have he2:((f.addrs[((k:Nat):Int).toNat]'hk0) == (f.addrs[((j:Nat):Int).toNat]'hj0))=false:=by rw[beq_eq_false_iff_ne];exact(bne_iff_ne.1 he)
    rw[he2,Bool.false_or]at hnx
    cases hb:inB (n.floods[((m:Nat):Int).toNat]'hm0).addrs (f.addrs[((k:Nat):Int).toNat]'hk0) with
    | true =>
     rw[hb]at qb hnx
     refine T ?_
     refine C qb F218 ?_
     exact Ad (k+1) [] ⟨hlt2,hnx⟩ z_ U
    | false =>
     rw[hb]at qb
     have hr0:res=false:=hwhole (by
      rw[hA,List.all_eq_false]
      exact⟨_,List.getElem_mem hk0,by rw[he2,hb];simp⟩)
     subst hr0
     refine T ?_
     refine C qb F218 ?_
     exact D
  ·have hke:k=f.addrs.length:=qB h
   clear h
   rw[hke,List.take_length]at hI2
   rw[hI2]at hA
   rw[hA]at hsn
   refine T ?_
   exact Ad (j+1) [] ⟨hlt,hsn⟩ z_ U
 ·have hje:j=f.addrs.length:=qB h
  clear h
  subst hje
  rw[List.take_length,← hres]at hI
  subst hI
  refine T ?_
  exact D
theorem Amd (n:Net) (hn:n.Fin):Sy.Spec Tryz.prog 39 [Aj n] [] (.tup [Aj (meshNT n).1,Aa (meshNT n).2.1,Aa (meshNT n).2.2]) []:=cT F39 Tryz.ntmps39 fun F hF=>by
 have qn:=Mz n hn
 have qcopy:=Hk n hn
 have hres:=meshNT.eq_1 n
 generalize meshNT n=res at *
 cases hr:Ai n with
 | false =>
  rw[hr]at qn
  rw[hr,if_pos rfl]at hres
  subst hres
  refine T ?_
  refine C qn F135 ?_
  refine Ah 2 (Bi emptyN) Y (.cons .nil (.cons .nil (.cons .nil (.cons .nil (.cons .nil (.cons .nil (.cons .nil (.cons .nil .nil)))))))) ?_
  refine T ?_
  exact D
 | true =>
 rw[hr]at qn
 rw[hr,if_neg qe]at hres
 have hff:n.floods.length<2147483648:=hn.floods
 have hdd:n.domains.length<2147483648:=hn.domains
 refine T ?_
 refine C qn F135 ?_
 refine A4 1 8 (Aj n) Y Y Y ?_
 refine At (fun j:Nat=>j≤n.floods.length∧∀ k (hk:k<n.floods.length),k<j→agreesB n n.floods[k]=true) (fun j=>[(1,.ref 8 (Aj n) 0),(2,.ptr 1001 0),(5,Aa j)]) (fun _=>[(1001,.box [.val (.slice none 0 0),.val (.slice none 0 0),.val (.slice none 0 0),.val (.slice none 0 0),.val (.slice none 0 0),.val (.slice none 0 0),.val (.slice none 0 0),.val (.slice none 0 0)])]) (fun j=>n.floods.length-j) 0 [(1001,2)] ⟨by omega,fun k hk h=>by omega⟩ U ?_
 rintro j ⟨hj,hI⟩
 refine T ?_
 refine⟨fun h=>?_,fun h=>?_⟩
 ·have hlt:j<n.floods.length:=qA h
  have hj0:((j:Nat):Int).toNat<n.floods.length:=hlt
  clear h
  have q:=Agd n hn hr (n.floods[((j:Nat):Int).toNat]'hj0) (List.getElem_mem hj0)
  cases ha:agreesB n (n.floods[((j:Nat):Int).toNat]'hj0) with
  | false =>
   rw[ha]at q
   rw[Sg (p:=fun f=>!(agreesB n f)) hlt (fun k hk hkj=>by simp only[hI k hk hkj];rfl) (by show (!(agreesB n (n.floods[((j:Nat):Int).toNat]'hj0)))=true;rw[ha];rfl)]at hres
   dsimp only at hres
   subst hres
   refine T ?_
   refine C q F136 ?_
   refine Ah 1001 (Bi emptyN) Y (.cons .nil (.cons .nil (.cons .nil (.cons .nil (.cons .nil (.cons .nil (.cons .nil (.cons .nil .nil)))))))) ?_
   refine T ?_
   exact D
  | true =>
   rw[ha]at q
   refine T ?_
   refine C q F136 ?_
   refine Ad (j+1) [] ⟨hlt,fun k hk hkj=>?_⟩ z_ U
   by_cases e:k=j
   ·subst e;exact ha
   ·exact hI k hk z_
 ·have hje:j=n.floods.length:=qB h
  clear h
  have hnone:n.floods.find? (fun f=>!(agreesB n f))=none:=by
   rw[List.find?_eq_none]
   intro x hx
   obtain ⟨k,hk,rfl⟩:=List.getElem_of_mem hx
   rw[hI k hk z_];simp
  rw[hnone]at hres
  dsimp only at hres
  clear hI hj hje hnone
  refine T ?_
  refine X (Ag [(0,901),(1,902),(2,903),(3,904),(4,905),(5,906),(6,907),(7,908)] Y F137 qcopy Y W Y V) ?_
  refine At (fun j:Nat=>j≤n.domains.length) (fun j=>[(1,.ref 8 (Aj n) 0),(2,.ptr 1001 0),(6,.ptr 1006 0),(7,Aa j)]) (fun j=>[(1001,.box [.val (.slice none 0 0),.val (.slice none 0 0),.val (.slice none 0 0),.val (.slice none 0 0),.val (.slice none 0 0),.val (.slice none 0 0),.val (.slice none 0 0),.val (.slice none 0 0)]),(1006,.box [.osl 901,.osl 902,.osl 903,.osl 1004,.osl 905,.osl 906,.osl 907,.osl 908]),(901,.row 5 Ax n.devices),(902,.row 7 A9 n.ports),(903,.row 3 B1 n.links),(1004,.row 6 Al (Kn n j)),(905,.row 4 A6 n.statics),(906,.row 4 A1 n.floods),(907,.row 5 Ca n.vrfs),(908,.row 5 Cc n.irbs)]) (fun j=>n.domains.length-j) 0 [(1004,904),(1006,6)] z_ ⟨⟨Y,Y,Y,Y,Y,Y,Y,Y,q_⟩,⟨.inl Y,Y,.inl Y,Y,.inl Y,Y,.inl Y,Y,.inl Y,Y,.inl (congrArg (Ob.row 6 Al) (Zp n)),Y,.inl Y,Y,.inl Y,Y,.inl Y,Y,.inl Y,Y,q_⟩,Y,Y⟩ ?_
  intro j hj
  have hml:=Adq n hj
  by_cases hlt:j<n.domains.length
  ·have hj0:((j:Nat):Int).toNat<n.domains.length:=hlt
   have g0:decide ((j:Int)<(Kn n j).length)=true:=decide_eq_true z_
   have hjm:((j:Nat):Int).toNat<(Kn n j).length:=by rw[hml];exact hj0
   obtain ⟨m1,m2⟩:=Zq n hlt hjm
   have hDj:n.domains[j]=(n.domains[((j:Nat):Int).toNat]'hj0):=rfl
   rw[hDj]at m1 m2
   have ql:=W4 n (n.domains[((j:Nat):Int).toNat]'hj0).dev (n.domains[((j:Nat):Int).toNat]'hj0).vni hn.floods
   have hpt:=peersT.eq_1 n (n.domains[((j:Nat):Int).toNat]'hj0)
   have hlr:Ec n (n.domains[((j:Nat):Int).toNat]'hj0).dev (n.domains[((j:Nat):Int).toNat]'hj0).vni<0∨∃ k:Nat,Ec n (n.domains[((j:Nat):Int).toNat]'hj0).dev (n.domains[((j:Nat):Int).toNat]'hj0).vni=k∧k<n.floods.length:=by
    by_cases h:Ec n (n.domains[((j:Nat):Int).toNat]'hj0).dev (n.domains[((j:Nat):Int).toNat]'hj0).vni<0
    ·exact .inl h
    ·exact .inr (Dx h)
   generalize Ec n (n.domains[((j:Nat):Int).toNat]'hj0).dev (n.domains[((j:Nat):Int).toNat]'hj0).vni=lv at *
   generalize hpT:peersT n (n.domains[((j:Nat):Int).toNat]'hj0)=ps at *
   refine G_rown 1004 ((j:Nat):Int).toNat (cl:=[Aa (n.domains[((j:Nat):Int).toNat]'hj0).dev,Aa (n.domains[((j:Nat):Int).toNat]'hj0).vlan,Aa (n.domains[((j:Nat):Int).toNat]'hj0).vni,Aa (n.domains[((j:Nat):Int).toNat]'hj0).irb,Aa (n.domains[((j:Nat):Int).toNat]'hj0).row,.sl 1 Aa (n.domains[((j:Nat):Int).toNat]'hj0).peers]) Y hjm Y (by rw[m1];rfl) ?_
   refine T ?_
   refine X (Oj Γ.toTy Y Y Y Y Y) ?_
   refine X (Hi Γ.toTy Y Y Y Y y_ Y Y) ?_
   refine X (Me Γ.toTy Y Y Y Y Y Y y_ Y) ?_
   by_cases k1:(n.domains[((j:Nat):Int).toNat]'hj0).vni=0
   ·have g1:((n.domains[((j:Nat):Int).toNat]'hj0).vni == 0)=true:=by rw[beq_iff_eq];exact k1
    rw[if_neg (fun h=>h.1 k1)]at hpt
    subst hpt
    refine C ql F138 ?_
    refine Aot 1004 5 1 Aa Y Y Y ?_
    refine Yh 1004 Y (⟨(n.domains[((j:Nat):Int).toNat]'hj0).dev,(n.domains[((j:Nat):Int).toNat]'hj0).vlan,(n.domains[((j:Nat):Int).toNat]'hj0).vni,(n.domains[((j:Nat):Int).toNat]'hj0).irb,(n.domains[((j:Nat):Int).toNat]'hj0).row,[]⟩:Domain) Y Y Y ?_
    exact Ad (j+1) [] hlt z_ ⟨⟨Y,Y,Y,Y,Y,Y,Y,Y,q_⟩,⟨.inl Y,Y,.inl Y,Y,.inl Y,Y,.inl Y,Y,.inl Y,Y,.inl (congrArg (Ob.row 6 Al) m2.symm),Y,.inl Y,Y,.inl Y,Y,.inl Y,Y,.inl Y,Y,q_⟩,Y,Y⟩
   have g1:((n.domains[((j:Nat):Int).toNat]'hj0).vni == 0)=false:=by rw[beq_eq_false_iff_ne];exact k1
   by_cases k2:lv<0
   ·have g2:decide (lv<0)=true:=decide_eq_true k2
    rw[if_neg (fun h=>by have:=h.2;omega)]at hpt
    subst hpt
    refine C ql F138 ?_
    refine Aot 1004 5 1 Aa Y Y Y ?_
    refine Yh 1004 Y (⟨(n.domains[((j:Nat):Int).toNat]'hj0).dev,(n.domains[((j:Nat):Int).toNat]'hj0).vlan,(n.domains[((j:Nat):Int).toNat]'hj0).vni,(n.domains[((j:Nat):Int).toNat]'hj0).irb,(n.domains[((j:Nat):Int).toNat]'hj0).row,[]⟩:Domain) Y Y Y ?_
    exact Ad (j+1) [] hlt z_ ⟨⟨Y,Y,Y,Y,Y,Y,Y,Y,q_⟩,⟨.inl Y,Y,.inl Y,Y,.inl Y,Y,.inl Y,Y,.inl Y,Y,.inl (congrArg (Ob.row 6 Al) m2.symm),Y,.inl Y,Y,.inl Y,Y,.inl Y,Y,.inl Y,Y,q_⟩,Y,Y⟩
   have g2:decide (lv<0)=false:=decide_eq_false k2
   obtain ⟨m,hm,hmf⟩:=hlr.resolve_left k2
   subst hm
   clear hlr
   have hm0:((m:Nat):Int).toNat<n.floods.length:=hmf
   rw[if_pos ⟨k1,by omega⟩,Ar hm0]at hpt
   have hfa:=Ahs n hr _ (List.getElem_mem hm0)
   refine C ql F138 ?_
   refine Aou 1004 5 1200 1 Aa Y Y Y Y Y ?_
   refine A4 8 6 (Al (n.domains[((j:Nat):Int).toNat]'hj0)) Y Y Y ?_
   refine At (fun k:Nat=>k≤(n.floods[((m:Nat):Int).toNat]'hm0).addrs.length) (fun k=>[(1,.ref 8 (Aj n) 0),(2,.ptr 1001 0),(6,.ptr 1006 0),(7,Aa j),(8,.ref 6 (Al (n.domains[((j:Nat):Int).toNat]'hj0)) 0),(9,Aa m),(10,Aa k)]) (fun k=>[(1001,.box [.val (.slice none 0 0),.val (.slice none 0 0),.val (.slice none 0 0),.val (.slice none 0 0),.val (.slice none 0 0),.val (.slice none 0 0),.val (.slice none 0 0),.val (.slice none 0 0)]),(1006,.box [.osl 901,.osl 902,.osl 903,.osl 1004,.osl 905,.osl 906,.osl 907,.osl 908]),(901,.row 5 Ax n.devices),(902,.row 7 A9 n.ports),(903,.row 3 B1 n.links),(1004,.rown 6 Al (Kn n j) ((j:Nat):Int).toNat [Aa (n.domains[((j:Nat):Int).toNat]'hj0).dev,Aa (n.domains[((j:Nat):Int).toNat]'hj0).vlan,Aa (n.domains[((j:Nat):Int).toNat]'hj0).vni,Aa (n.domains[((j:Nat):Int).toNat]'hj0).irb,Aa (n.domains[((j:Nat):Int).toNat]'hj0).row,.osl 1200]),(905,.row 4 A6 n.statics),(906,.row 4 A1 n.floods),(907,.row 5 Ca n.vrfs),(908,.row 5 Cc n.irbs),(1200,.row 1 Aa (((n.floods[((m:Nat):Int).toNat]'hm0).addrs.take k).map (fun a=>H6 n (Cw n a) (n.domains[((j:Nat):Int).toNat]'hj0).vni)))]) (fun k=>(n.floods[((m:Nat):Int).toNat]'hm0).addrs.length-k) 0 [] z_ U ?_
   intro k hk
   refine T ?_
   refine⟨fun h=>?_,fun h=>?_⟩
   ·have hlt2:k<(n.floods[((m:Nat):Int).toNat]'hm0).addrs.length:=qA h
    have hk0:((k:Nat):Int).toNat<(n.floods[((m:Nat):Int).toNat]'hm0).addrs.length:=hlt2
    clear h
    have qo:=Ue n ((n.floods[((m:Nat):Int).toNat]'hm0).addrs[((k:Nat):Int).toNat]'hk0) hn.devices
    have qf:=M0 n (Cw n ((n.floods[((m:Nat):Int).toNat]'hm0).addrs[((k:Nat):Int).toNat]'hk0)) (n.domains[((j:Nat):Int).toNat]'hj0).vni hn.domains
    have hsn:((n.floods[((m:Nat):Int).toNat]'hm0).addrs.take (k+1)).map (fun a=>H6 n (Cw n a) (n.domains[((j:Nat):Int).toNat]'hj0).vni)=((n.floods[((m:Nat):Int).toNat]'hm0).addrs.take k).map (fun a=>H6 n (Cw n a) (n.domains[((j:Nat):Int).toNat]'hj0).vni)++[H6 n (Cw n ((n.floods[((m:Nat):Int).toNat]'hm0).addrs[((k:Nat):Int).toNat]'hk0)) (n.domains[((j:Nat):Int).toNat]'hj0).vni]:=by
     rw[List.take_succ_eq_append_getElem hlt2,List.map_append];rfl
    have hrl:(((n.floods[((m:Nat):Int).toNat]'hm0).addrs.take k).map (fun a=>H6 n (Cw n a) (n.domains[((j:Nat):Int).toNat]'hj0).vni)).length≤16:=by rw[List.length_map,List.length_take];omega
    refine T ?_
    refine Xd (Hi Γ.toTy Y Y Y Y y_ Y Y) ?_
    refine Xd (Oj Γ.toTy Y Y Y Y Y) ?_
    refine C qo F140 ?_
    refine C qf F139 ?_
    refine Xd (Ak Γ.toTy 105 Y Y Y Y Y (.row Y) (.lit (e:=Aa) (l:=[H6 n (Cw n ((n.floods[((m:Nat):Int).toNat]'hm0).addrs[((k:Nat):Int).toNat]'hk0)) (n.domains[((j:Nat):Int).toNat]'hj0).vni]) Y Y) y_ (by simp only[List.length_singleton];omega) (by simp only[List.length_singleton];omega)) ?_
    refine Xd (Hi Γ.toTy Y Y Y Y y_ Y Y) ?_
    refine stepDX (Us Γ.toTy Y Y Y Y Y Y y_ Y) j_ Y ?_
    refine T ?_
    exact Ad (k+1) [(1200,105)] hlt2 z_ ⟨⟨Y,Y,Y,Y,Y,Y,Y,Y,Y,Y,Y,Y,Y,Y,q_⟩,⟨.inl Y,Y,.inl Y,Y,.inl Y,Y,.inl Y,Y,.inl Y,Y,.inl Y,Y,.inl Y,Y,.inl Y,Y,.inl Y,Y,.inl Y,Y,.inl (congrArg (Ob.row 1 Aa) hsn),Y,q_⟩,Y,Y⟩
   ·have hke:k=(n.floods[((m:Nat):Int).toNat]'hm0).addrs.length:=qB h
    clear h
    rw[hke,List.take_length,← hpt]
    refine Ac 1200 Y ?_
    refine Yh 1004 Y (⟨(n.domains[((j:Nat):Int).toNat]'hj0).dev,(n.domains[((j:Nat):Int).toNat]'hj0).vlan,(n.domains[((j:Nat):Int).toNat]'hj0).vni,(n.domains[((j:Nat):Int).toNat]'hj0).irb,(n.domains[((j:Nat):Int).toNat]'hj0).row,ps⟩:Domain) Y Y Y ?_
    refine T ?_
    exact Ad (j+1) [] hlt z_ ⟨⟨Y,Y,Y,Y,Y,Y,Y,Y,q_⟩,⟨.inl Y,Y,.inl Y,Y,.inl Y,Y,.inl Y,Y,.inl Y,Y,.inl (congrArg (Ob.row 6 Al) m2.symm),Y,.inl Y,Y,.inl Y,Y,.inl Y,Y,.inl Y,Y,q_⟩,Y,Y⟩
  ·have hje:j=n.domains.length:=by omega
   clear hlt
   subst hje
   rw[Adr]
   have hmd:(D5 n).domains.length=n.domains.length:=by simp[D5]
   have g0:decide (((n.domains.length:Nat):Int)<(D5 n).domains.length)=false:=decide_eq_false z_
   have qm:=Mz (D5 n) (Q7 hn hr)
   refine T ?_
   refine Ac 901 Y ?_
   refine Ac 902 Y ?_
   refine Ac 903 Y ?_
   refine Ac 1004 Y ?_
   refine Ac 905 Y ?_
   refine Ac 906 Y ?_
   refine Ac 907 Y ?_
   refine Ac 908 Y ?_
   cases hb:Ai (D5 n) with
   | false =>
    rw[hb]at qm
    rw[hb,if_pos rfl]at hres
    subst hres
    refine C qm F135 ?_
    refine Ah 1001 (Bi emptyN) Y (.cons .nil (.cons .nil (.cons .nil (.cons .nil (.cons .nil (.cons .nil (.cons .nil (.cons .nil .nil)))))))) ?_
    refine T ?_
    exact D
   | true =>
    rw[hb]at qm
    rw[hb,if_neg qe]at hres
    subst hres
    refine C qm F135 ?_
    exact D
end Go.Sy.YtjenpnjajjplkaaGreatDoor
namespace Go.Sy.YtjenpnjajjplkaaGreatDoor
open Go.Proofs
attribute [local irreducible] Go.Sy.G Go.Sy.DR
set_option maxRecDepth 20000
set_option maxHeartbeats 4000000
structure Hop where
 (kind port domain addr:Int)
instance:Inhabited Hop:=⟨⟨0,0,0,0⟩⟩
def Aqo (n:Net) (d:Int):Prop:=(0≤d∧d<n.domains.length)∧Ai n=true
instance (n:Net) (d:Int):Decidable (Aqo n d):=inferInstanceAs (Decidable (_∧_))
def Abd (n:Net) (d p:Int):Option Hop:=if (linkDomT n p (nth n.domains d).vlan).2=true then some ⟨1,p,(linkDomT n p (nth n.domains d).vlan).1,0⟩ else none
def Aa6 (p:Int):Hop:=⟨2,0,p,0⟩
def Aqn (n:Net) (d:Int):List Hop:=(E0 n d).filterMap (Abd n d)++(nth n.domains d).peers.map Aa6
def Xy (n:Net) (d:Int):List Hop:=if Aqo n d then Aqn n d else []
structure Lead where
 (to domain addr:Int)
instance:Inhabited Lead:=⟨⟨0,0,0⟩⟩
def Ani (n:Net) (irb:Int) (i:Nat):Option Lead:=if (Aex n irb i).2=true then some ⟨i,(nth n.irbs i).domain,(Aex n irb i).1⟩ else none
def leadsL (n:Net) (irb:Int) (j:Nat):List Lead:=(List.range j).filterMap (Ani n irb)
def Oz (n:Net) (d:Int):List Lead:=if (0≤d∧d<n.domains.length)∧0≤(nth n.domains d).irb∧Ai n=true then leadsL n (nth n.domains d).irb n.irbs.length else []
structure Fnd where
 (domain kind:Int) (hop:Hop) (ahead:Int)
instance:Inhabited Fnd:=⟨⟨0,0,default,0⟩⟩
structure Srch where
 (m0 m1:List Bool) (list:List Fnd)
def metB (S:Srch) (d k:Int):Bool:=if k=0 then nth S.m0 d else nth S.m1 d
def Adt (S:Srch) (d k:Int) (h:Hop) (ahead:Int):Srch :=
 if k=0 then ⟨S.m0.set d.toNat true,S.m1,S.list++[⟨d,k,h,ahead⟩]⟩ else ⟨S.m0,S.m1.set d.toNat true,S.list++[⟨d,k,h,ahead⟩]⟩
def Td (S:Srch) (d k:Int) (h:Hop) (ahead:Int):Srch:=if metB S d k=true then S else Adt S d k h ahead
structure Srch.OK (n:Net) (S:Srch):Prop where
 l0:S.m0.length=n.domains.length
 l1:S.m1.length=n.domains.length
 at_:∀ f∈S.list,(0≤f.domain∧f.domain.toNat<n.domains.length)∧(f.kind=0∨f.kind=1)
 len:S.list.length≤S.m0.count true+S.m1.count true
theorem count_set {l:List Bool} {i:Nat} (h:i<l.length) (hi:l[i]=false):(l.set i true).count true=l.count true+1:=by
 rw[List.count_set h,hi]
 simp
theorem Srch.OK.meet {n:Net} {S:Srch} (h:S.OK n) {d k:Int} (hd:0≤d∧d.toNat<n.domains.length) (hk:k=0∨k=1) (hp:Hop) (a:Int):(Td S d k hp a).OK n:=by
 rw[Td]
 split
 ·exact h
 rename_i hmt
 have h0:d.toNat<S.m0.length:=by rw[h.l0];exact hd.2
 have h1:d.toNat<S.m1.length:=by rw[h.l1];exact hd.2
 rcases hk with rfl | rfl
 ·rw[metB,if_pos rfl,Ar h0]at hmt
  rw[Adt,if_pos rfl]
  refine⟨by simp[h.l0],h.l1,fun f hf=>?_,?_⟩
  ·rcases List.mem_append.1 hf with hf | hf
   ·exact h.at_ f hf
   ·rw[List.mem_singleton]at hf
    subst hf
    exact⟨hd,.inl Y⟩
  ·rw[count_set h0 (by simpa using hmt),List.length_append,List.length_singleton]
   have:=h.len
   show _≤_+S.m1.count true
   omega
 ·rw[metB,if_neg y_,Ar h1]at hmt
  rw[Adt,if_neg y_]
  refine⟨h.l0,by simp[h.l1],fun f hf=>?_,?_⟩
  ·rcases List.mem_append.1 hf with hf | hf
   ·exact h.at_ f hf
   ·rw[List.mem_singleton]at hf
    subst hf
    exact⟨hd,.inr Y⟩
  ·rw[count_set h1 (by simpa using hmt),List.length_append,List.length_singleton]
   have:=h.len
   show _≤S.m0.count true+_
   omega
theorem Lb {n:Net} (h:Ai n=true) {i:Nat} (hi:i<n.ports.length) {v:Int} (hv:C6 n.ports[i] v=true):0≤Dp n n.ports[i].dev v∧(Dp n n.ports[i].dev v).toNat<n.domains.length:=by
 have hp:=Abv h hi
 simp only[Jd,Bool.and_eq_true,Bool.not_eq_true']at hp
 simp only[C6,Bool.and_eq_true,bne_iff_ne,Bool.or_eq_true,beq_iff_eq]at hv
 have h0:0≤Dp n n.ports[i].dev v:=by
  rcases hv.2 with h1 | h1
  ·have h2:=hp.1.2
   have h3:=hp.1.1.1.1.1.1.1.2
   rw[h1]at hv ⊢
   have h4:decide (0<n.ports[i].native)=true:=by
    simp only[decide_eq_true_eq]at h3 ⊢
    omega
   rw[h4]at h2
   simpa [Cs] using h2
  ·have h2:=hp.1.1.2
   obtain ⟨x,hx,e⟩:=List.any_eq_true.1 h1
   obtain ⟨j,hj,rfl⟩:=List.mem_iff_getElem.1 hx
   have h3:=allB_iff.1 h2 j hj
   simp only[beq_iff_eq]at e
   rw[e]at h3
   simpa [Cs] using h3
 refine⟨h0,?_⟩
 have:=Abj (fun d:Domain=>d.dev == n.ports[i].dev && d.vlan == v) n.domains
 have e:Dp n n.ports[i].dev v=Dh (fun d:Domain=>d.dev == n.ports[i].dev && d.vlan == v) n.domains:=rfl
 omega
theorem Jf {n:Net} {i v:Int} (h:(linkDomT n i v).2=true):0≤(linkDomT n i v).1∧(linkDomT n i v).1.toNat<n.domains.length:=by
 unfold linkDomT at h ⊢
 split at h
 ·rename_i hc
  rw[if_pos hc]
  have hth:=L2 hc
  unfold crossT at hc hth ⊢
  split at hc
  ·rename_i h1
   rw[if_pos h1]at hth ⊢
   have hb:=(J3 h1.1).2.1
   have h2:=h1.2.2
   rw[Tt]at h2 ⊢
   rw[Tq,if_pos hb]
   dsimp only at hth ⊢
   rw[Ar hth.2]at h2 ⊢
   refine Lb hb hth.2 ?_
   simp only[C6,Bool.and_eq_true,bne_iff_ne,Bool.or_eq_true,beq_iff_eq]
   refine⟨h2,?_⟩
   split
   ·exact .inl Y
   ·rename_i h3
    rw[if_neg h3]at h2
    split
    ·rename_i h4
     exact .inr h4
    ·rename_i h4
     rw[if_neg h4]at h2
     exact absurd Y h2
  ·cases hc
 ·cases h
theorem Ahr {n:Net} (h:Ai n=true) {i:Nat} (hi:i<n.domains.length) {p:Int} (hp:p∈n.domains[i].peers):0≤p∧p.toNat<n.domains.length:=by
 simp only[Ai,Bool.and_eq_true]at h
 have h1:=allB_iff.1 h.1.1.1.1.1.1.2 i hi
 obtain ⟨j,hj,rfl⟩:=List.mem_iff_getElem.1 hp
 have h2:=allB_iff.1 h1 j hj
 simp only[M5,Ap,Bool.and_eq_true,decide_eq_true_eq]at h2
 omega
theorem Xx {n:Net} {d:Int} {h:Hop} (hh:h∈Xy n d):0≤h.domain∧h.domain.toNat<n.domains.length:=by
 rw[Xy]at hh
 split at hh
 ·rename_i hd
  have hk:d.toNat<n.domains.length:=by have:=hd.1;omega
  rw[Aqn,Ar hk]at hh
  rcases List.mem_append.1 hh with hh | hh
  ·obtain ⟨p,_,hp⟩:=List.mem_filterMap.1 hh
   rw[Abd]at hp
   split at hp
   ·rename_i hl
    simp only[Option.some.injEq]at hp
    subst hp
    exact Jf hl
   ·cases hp
  ·obtain ⟨p,hp,rfl⟩:=List.mem_map.1 hh
   exact Ahr hd.2 hk hp
 ·cases hh
theorem Wr {n:Net} {d:Int} {q:Lead} (hq:q∈Oz n d):0≤q.domain∧q.domain.toNat<n.domains.length:=by
 rw[Oz]at hq
 split at hq
 ·rename_i hc
  obtain ⟨i,hi,hp⟩:=List.mem_filterMap.1 hq
  rw[Ani]at hp
  split at hp
  ·simp only[Option.some.injEq]at hp
   subst hp
   have hi':((i:Nat):Int).toNat<n.irbs.length:=by simpa using hi
   show 0≤(nth n.irbs i).domain∧_
   rw[Ar hi']
   exact(Aem hc.2.2 hi').1
  ·cases hp
 ·cases hq
end Go.Sy.YtjenpnjajjplkaaGreatDoor
namespace Go.Sy
theorem Anx {P:Program} {o:Oper} {s:SS} {x y:Operand} {at_:Array TypeId} {k k':IntKind} {m n:Int} (h:o.op=.call ⟨.builtin .max,#[x,y],at_⟩)
  (hx:ev s x=.val (.int k m)) (hy:ev s y=.val (.int k' n)):Good P o s ⟨.val (.int k (if n>m then n else m)),[],[]⟩ :=
 Good.pure fun κ a w _ hr ho=>by
  have h1:=hr x (by simp[h,Op.operands,Call.operands])
  have h2:=hr y (by simp[h,Op.operands,Call.operands])
  rw[hx]at h1
  rw[hy]at h2
  refine⟨.int k (if n>m then n else m),?_,by simp[Rd]⟩
  simp[execOp,h,resolve,invoke,builtin,Builtin.max_,Builtin.max2,h1.val,h2.val]
end Go.Sy
namespace Go.Sy.YtjenpnjajjplkaaGreatDoor
open Go.Proofs
attribute [local irreducible] Go.Sy.G Go.Sy.DR
set_option maxRecDepth 100000
set_option maxHeartbeats 4000000
theorem B9 {f:List Int} (hf:B2 f) {i:Int} (h0:0≤i) (hi:i.toNat<f.length):0≤nth f i∧nth f i≤i:=by
 rw[Ar hi]
 have:=hf i.toNat hi
 omega
theorem E6 {f:List Int} (hf:B2 f) {i:Nat} (_hi:i<f.length) {x:Int} (h0:0≤x) (hx:x≤i):B2 (f.set i x):=by
 intro k hk
 rw[List.length_set]at hk
 rw[List.getElem_set]
 split
 ·rename_i e;subst e;exact⟨h0,hx⟩
 ·exact hf k hk
theorem Zc:∀ (m k k':Nat) (f:List Int) (i:Int),B2 f→0≤i→i.toNat<f.length→i.toNat≤m→i.toNat+1≤k→i.toNat+1≤k'→Acg k f i=Acg k' f i
 | m,0,_,_,_,_,_,_,_,h,_=>by omega
 | m,_+1,0,_,_,_,_,_,_,_,h=>by omega
 | m,k+1,k'+1,f,i,hf,h0,hi,hm,h1,h2=>by
  rw[Acg,Acg]
  by_cases e:nth f i=i
  ·rw[if_pos e,if_pos e]
  ·rw[if_neg e,if_neg e]
   obtain ⟨a1,a2⟩:=B9 hf h0 hi
   obtain ⟨b1,b2⟩:=B9 hf a1 (by omega:(nth f i).toNat<f.length)
   match m with
   | 0=>omega
   | m+1 =>
    exact Zc m k k' _ _ (E6 hf hi b1 z_) b1 (by rw[List.length_set];omega) z_ z_ z_
theorem Aaj {f:List Int} {i:Int} (h:nth f i=i):Ex f i=(f,i):=by rw[Ex,Acg,if_pos h]
theorem Wk {f:List Int} {i:Int} (hf:B2 f) (h0:0≤i) (hi:i.toNat<f.length) (h:nth f i≠i):Ex f i=Ex (f.set i.toNat (nth f (nth f i))) (nth f (nth f i)):=by
 obtain ⟨a1,a2⟩:=B9 hf h0 hi
 obtain ⟨b1,b2⟩:=B9 hf a1 (by omega:(nth f i).toNat<f.length)
 rw[Ex,Acg,if_neg h,Ex]
 exact Zc i.toNat _ _ _ _ (E6 hf hi b1 z_) b1 (by rw[List.length_set];omega) z_ z_ z_
theorem Iu:∀ (m:Nat) (f:List Int) (i:Int),B2 f→0≤i→i.toNat<f.length→i.toNat≤m→B2 (Ex f i).1∧(Ex f i).1.length=f.length∧0≤(Ex f i).2∧(Ex f i).2≤i
 | m,f,i,hf,h0,hi,hm=>by
  by_cases e:nth f i=i
  ·rw[Aaj e];exact⟨hf,rfl,h0,Int.le_refl _⟩
  ·obtain ⟨a1,a2⟩:=B9 hf h0 hi
   obtain ⟨b1,b2⟩:=B9 hf a1 (by omega:(nth f i).toNat<f.length)
   rw[Wk hf h0 hi e]
   match m with
   | 0=>omega
   | m+1 =>
    obtain ⟨c1,c2,c3,c4⟩:=Iu m _ _ (E6 hf hi b1 z_) b1 (by rw[List.length_set];omega:(nth f (nth f i)).toNat<(f.set i.toNat (nth f (nth f i))).length) z_
    exact⟨c1,by rw[c2,List.length_set],c3,by omega⟩
theorem Sa {f:List Int} {a b:Int} (hf:B2 f) (ha:0≤a∧a.toNat<f.length) (hb:0≤b∧b.toNat<f.length):B2 (Is f a b).1∧(Is f a b).1.length=f.length:=by
 obtain ⟨a1,a2,a3,a4⟩:=Iu a.toNat f a hf ha.1 ha.2 (Nat.le_refl _)
 obtain ⟨b1,b2,b3,b4⟩:=Iu b.toNat (Ex f a).1 b a1 hb.1 z_ (Nat.le_refl _)
 unfold Is
 dsimp only
 generalize Ex (Ex f a).1 b=y at *
 generalize Ex f a=x at *
 refine⟨E6 b1 z_ z_ z_,by rw[List.length_set];omega⟩
theorem Dt (k:Nat):B2 (B6 k)∧(B6 k).length=k:=by
 refine⟨fun i hi=>?_,by simp[B6]⟩
 simp[B6]
def alJ (k j:Nat):List Int:=(List.range j).map (fun i:Nat=>(i:Int))++List.replicate (k-j) 0
theorem Aol (k:Nat):alJ k 0=List.replicate k 0:=by simp[alJ]
theorem Aqa (k j:Nat) (h:j≤k):(alJ k j).length=k:=by simp[alJ];omega
theorem Aom (k j:Nat) (h:j<k):(alJ k j).set ((j:Nat):Int).toNat (j:Int)=alJ k (j+1):=by
 have hl:((List.range j).map (fun i:Nat=>(i:Int))).length=j:=by simp
 rw[Int.toNat_natCast,alJ,alJ,List.set_append_right _ _ z_,hl,Nat.sub_self,show k-j=(k-(j+1))+1 by omega,List.replicate_succ,List.set_cons_zero,List.range_succ,List.map_append,List.append_assoc]
 rfl
theorem aloneS (k:Nat) (hk:k≤100000):Sy.Spec Tryz.prog 65 [Aa k] [] (.osl 900) [(900,.row 1 Aa (B6 k))]:=cT F65 Tryz.ntmps65 fun F hF=>by
 have hfull:alJ k k=B6 k:=by simp[alJ,B6]
 refine T ?_
 refine X (X2 Γ.toTy (d:=6) (n:=k) Aa 0 Y Y Y Y Y Y Y Y z_ z_ Y Y Y) ?_
 refine T ?_
 refine At (fun j:Nat=>j≤k) (fun j=>[(3,.osl 1000),(8,Aa k),(9,Aa j)]) (fun j=>[(1000,.row 1 Aa (alJ k j))]) (fun j=>k-j) 0 [(1000,6)] z_ ⟨⟨Y,Y,congrArg Aa (by rw[List.length_replicate]),Y,Y,Y,q_⟩,⟨.inl (congrArg (Ob.row 1 Aa) (Aol k)),Y,q_⟩,Y,Y⟩ ?_
 intro j hj
 have hl:=Aqa k j hj
 refine T ?_
 refine⟨fun h=>?_,fun h=>?_⟩
 ·have hlt:j<k:=qA h
  clear h
  have hne:alJ k j≠[]:=fun e=>by rw[e]at hl;simp at hl;omega
  have hnx:=Aom k j hlt
  refine T ?_
  refine⟨(j:Int),Y,Y,?_⟩
  refine T ?_
  exact Ad (j+1) [] hlt z_ ⟨⟨Y,Y,Y,Y,Y,Y,q_⟩,⟨.inl (congrArg (Ob.row 1 Aa) hnx.symm),Y,q_⟩,Y,Y⟩
 ·have hje:j=k:=qB h
  clear h
  subst hje
  rw[hfull]
  refine T ?_
  exact done Y (.cons .tmp .nil) [(900,1000)] [(900,.row 1 Aa (B6 j))] (fun _ h=>h) Y Y U
theorem Aje (l:List Int) (h0:0<l.length) (hl:l.length<2147483648):Sy.Spec Tryz.prog 67 [.sl 1 Aa l] [] (Aa (Yy l)) []:=cT F67 Tryz.ntmps67 fun F hF=>by
 have f0:decide ((l.length:Int)<1)=false:=decide_eq_false z_
 have hz:(0:Int).toNat<l.length:=h0
 have hst:Yy l=E9 (l[(0:Int).toNat]'hz) (l.drop 1):=by rw[Yy,Ar hz]
 refine T ?_
 refine At (fun x:Nat × Int=>1≤x.1∧x.1≤l.length∧Yy l=E9 x.2 (l.drop x.1)) (fun x=>[(0,.sl 1 Aa l),(3,Aa x.2),(4,Aa x.1)]) (fun _=>[]) (fun x=>l.length-x.1) (1,l[(0:Int).toNat]'hz) [] ⟨by omega,by omega,hst⟩ U ?_
 rintro ⟨i,m⟩ ⟨h1,h2,hI⟩
 dsimp only at h1 h2 hI ⊢
 refine T ?_
 refine⟨fun h=>?_,fun h=>?_⟩
 ·have hlt:i<l.length:=qA h
  have hlt0:((i:Nat):Int).toNat<l.length:=hlt
  clear h
  rw[List.drop_eq_getElem_cons hlt,E9]at hI
  refine T ?_
  refine X (X1 Y Y Y) ?_
  exact Ad (i+1,min m l[i]) [] ⟨by dsimp only;omega,hlt,hI⟩ (by dsimp only;omega) ⟨⟨Y,Y,congrArg Aa (by dsimp only;show min m l[i]=if l[i]<m then l[i] else m;omega),Y,Y,Y,q_⟩,q_,Y,Y⟩
 ·have hie:i=l.length:=qB h
  clear h
  rw[hie,List.drop_length,E9]at hI
  rw[hI]
  refine T ?_
  exact D
theorem topS (f:List Int) (i:Int) (hf:B2 f) (h0:0≤i) (hi:i.toNat<f.length) (hl:f.length≤100000):Sy.Spec Tryz.prog 169 [.osl 900,Aa i] [(900,.row 1 Aa f)] (Aa (Ex f i).2) [(900,.row 1 Aa (Ex f i).1)]:=cT F169 Tryz.ntmps169 fun F hF=>by
 refine T ?_
 refine At (fun x:List Int × Int=>B2 x.1∧x.1.length=f.length∧0≤x.2∧x.2.toNat<f.length∧Ex f i=Ex x.1 x.2) (fun x=>[(0,.osl 900),(1,Aa x.2)]) (fun x=>[(900,.row 1 Aa x.1)]) (fun x=>x.2.toNat) (f,i) [] ⟨hf,Y,h0,hi,Y⟩ U ?_
 rintro ⟨g,k⟩ ⟨h1,h2,h3,h4,hI⟩
 dsimp only at h1 h2 h3 h4 hI ⊢
 have hk0:k.toNat<g.length:=by omega
 have hn:=Ar hk0
 by_cases e:nth g k=k
 ·have hb:(g[k.toNat] == k)=true:=by rw[← hn];exact beq_iff_eq.mpr e
  have hb':(!(g[k.toNat] == k))=false:=by rw[hb];rfl
  rw[hI,Aaj e]
  refine T ?_
  exact done Y (.cons .tmp .nil) [(900,900)] [(900,.row 1 Aa g)] (fun _ h=>h) Y Y U
 ·obtain ⟨a1,a2⟩:=B9 h1 h3 hk0
  obtain ⟨b1,b2⟩:=B9 h1 a1 (by omega:(nth g k).toNat<g.length)
  have hk1:(g[k.toNat]'hk0).toNat<g.length:=by omega
  have hn1:nth g (nth g k)=g[(g[k.toNat]'hk0).toNat]'hk1:=by rw[hn];exact Ar hk1
  have hs:=Wk h1 h3 hk0 e
  have hb:(g[k.toNat] == k)=false:=by rw[← hn];exact beq_eq_false_iff_ne.mpr e
  have hb':(!(g[k.toNat] == k))=true:=by rw[hb];rfl
  refine T ?_
  refine⟨nth g (nth g k),congrArg (fun x=>cellsOf (Aa x)) hn1,Y,?_⟩
  have hk2:k.toNat<(g.set k.toNat (nth g (nth g k))).length:=by rw[List.length_set];exact hk0
  have hn2:(g.set k.toNat (nth g (nth g k)))[k.toNat]'hk2=nth g (nth g k):=List.getElem_set_self _
  refine T ?_
  refine Ad (g.set k.toNat (nth g (nth g k)),nth g (nth g k)) [] ⟨E6 h1 hk0 b1 z_,by dsimp only;rw[List.length_set];exact h2,b1,by dsimp only;omega,by dsimp only;rw[hI,hs]⟩ (by dsimp only;omega) ⟨⟨Y,Y,congrArg Aa hn2.symm,Y,q_⟩,⟨.inl Y,Y,q_⟩,Y,Y⟩
theorem Aqm (f:List Int) (a b:Int) (hf:B2 f) (ha:0≤a∧a.toNat<f.length) (hb:0≤b∧b.toNat<f.length) (hl:f.length≤100000):Sy.Spec Tryz.prog 68 [.osl 900,Aa a,Aa b] [(900,.row 1 Aa f)] (Ab (Is f a b).2) [(900,.row 1 Aa (Is f a b).1)]:=cT F68 Tryz.ntmps68 fun F hF=>by
 obtain ⟨a1,a2,a3,a4⟩:=Iu a.toNat f a hf ha.1 ha.2 (Nat.le_refl _)
 obtain ⟨b1,b2,b3,b4⟩:=Iu b.toNat (Ex f a).1 b a1 hb.1 z_ (Nat.le_refl _)
 have F1:=topS f a hf ha.1 ha.2 hl
 have F2:=topS (Ex f a).1 b a1 hb.1 z_ z_
 rw[Is]
 dsimp only
 generalize hy:Ex (Ex f a).1 b=y at *
 generalize hx:Ex f a=x at *
 have hm:(if y.2>x.2 then y.2 else x.2).toNat<y.1.length:=by split<;>omega
 have hm0:0≤(if y.2>x.2 then y.2 else x.2):=by split<;>omega
 have e1:(max x.2 y.2).toNat=(if y.2>x.2 then y.2 else x.2).toNat:=by rw[Int.max_def];split<;>split<;>omega
 have e2:(min x.2 y.2)=(if y.2<x.2 then y.2 else x.2):=by rw[Int.min_def];split<;>split<;>omega
 rw[e1,e2]
 refine T ?_
 refine X (Ag [(900,900)] Y F169 F1 Y W Y V) ?_
 refine T ?_
 refine X (Ag [(900,900)] Y F169 F2 Y W Y V) ?_
 refine T ?_
 refine X (Anx Y Y Y) ?_
 refine T ?_
 refine X (X1 Y Y Y) ?_
 refine T ?_
 refine⟨_,Y,Y,?_⟩
 refine T ?_
 exact done Y (.cons .tmp .nil) [(900,900)] [(900,.row 1 Aa (y.1.set (if y.2>x.2 then y.2 else x.2).toNat (if y.2<x.2 then y.2 else x.2)))] (fun _ h=>h) Y Y U
theorem Ij {n:Net} {i:Nat} {v:Int} (h:(linkDomT n i v).2=true) (hi:i<n.ports.length):C6 n.ports[i] v=true:=by
 have e:nth n.ports ((i:Nat):Int)=n.ports[i]:=Ar (l:=n.ports) (i:=((i:Nat):Int)) hi
 unfold linkDomT at h
 split at h
 ·rename_i h3
  unfold crossT at h3
  split at h3
  ·rename_i h4
   rw[e]at h4
   exact h4.2.1
  ·cases h3
 ·cases h
theorem Qq {n:Net} (hr:Ai n=true) {f:List Int} {i:Nat} (hi:i<n.ports.length) {v:Int} (hf:B2 f) (hl:n.domains.length≤f.length):B2 (Dd n f i v)∧(Dd n f i v).length=f.length:=by
 unfold Dd
 split
 ·rename_i h
  have h2:=Jf h
  have hm:C6 n.ports[i] v=true:=Ij h hi
  have h3:=Lb hr hi hm
  have e:nth n.ports ((i:Nat):Int)=n.ports[i]:=Ar (l:=n.ports) (i:=((i:Nat):Int)) hi
  rw[e]
  exact Sa hf ⟨h3.1,by omega⟩ ⟨h2.1,by omega⟩
 ·exact⟨hf,Y⟩
theorem Jj {α:Type} {g:List Int→α→List Int} {k:Nat}:∀ {l:List α} {f:List Int},(∀ a∈l,∀ f,B2 f→k≤f.length→B2 (g f a)∧(g f a).length=f.length)→B2 f→k≤f.length→B2 (l.foldl g f)∧(l.foldl g f).length=f.length
 | [],_,_,h,_=>⟨h,rfl⟩
 | a::l,f,hg,h,hk=>by
  obtain ⟨h1,h2⟩:=hg a qe f h hk
  obtain ⟨h3,h4⟩:=Jj (l:=l) (fun b hb=>hg b (by simp[hb])) h1 (by omega:k≤(g f a).length)
  exact⟨h3,by rw[List.foldl_cons,h4,h2]⟩
theorem Od {n:Net} (hr:Ai n=true) {f:List Int} {i:Nat} (hi:i<n.ports.length) (hf:B2 f) (hl:n.domains.length≤f.length):B2 (E1 n f i)∧(E1 n f i).length=f.length :=
 Jj (fun _ _ _ h1 h2=>Qq hr hi h1 h2) hf hl
theorem Abc {n:Net} (hr:Ai n=true) {f:List Int} (hf:B2 f) (hl:n.domains.length≤f.length):B2 (Kw n f)∧(Kw n f).length=f.length :=
 Jj (fun i hi _ h1 h2=>Od hr (by simpa using hi) h1 h2) hf hl
theorem Ab2 (l:List Int) (hl:l.length<2147483648):Sy.Spec Tryz.prog 159 [.sl 1 Aa l] [] (.osl 0) [(0,.row 1 Aa l)]:=cT F159 Tryz.ntmps159 fun F hF=>by
 ((conv=>whnf);repeat((first|refine aF ?_|refine aT ?_);(first|refine rG Γ hm ?_|refine rD Γ hm j_ ?_);conv=>whnf))
 refine H8 Y (.inl Y) Y Y Y .sl Y Y ?_
 intro b hb
 cases b
 ·((first|refine rG Γ hm ?_|refine rD Γ hm j_ ?_);(conv=>whnf);repeat((first|refine aF ?_|refine aT ?_);(first|refine rG Γ hm ?_|refine rD Γ hm j_ ?_);conv=>whnf))
  refine C5 (Ak Γ.toTy 7 Y Y Y Y Y (.lit (e:=Aa) (l:=[]) Y Y) .sl qe (by simp;omega) (by simp;omega)) Y Y ?_
  ((first|refine rG Γ hm ?_|refine rD Γ hm j_ ?_);(conv=>whnf);repeat((first|refine aF ?_|refine aT ?_);(first|refine rG Γ hm ?_|refine rD Γ hm j_ ?_);conv=>whnf))
  exact done Y (.cons .tmp .nil) [(0,7)] [(0,.row 1 Aa l)] (fun _ h=>h) Y Y ⟨q_,⟨.inl Y,Y,q_⟩,Y,Y⟩
 ·have h0:l=[]:=List.eq_nil_of_length_eq_zero (hb rfl)
  subst h0
  ((first|refine rG Γ hm ?_|refine rD Γ hm j_ ?_);(conv=>whnf);repeat((first|refine aF ?_|refine aT ?_);(first|refine rG Γ hm ?_|refine rD Γ hm j_ ?_);conv=>whnf))
  refine Cm 2 1000 1 Aa Y Y ?_
  exact done Y (.cons .tmp .nil) [(0,1000)] [(0,.row 1 Aa [])] (fun _ h=>h) Y Y ⟨q_,⟨.inl Y,Y,q_⟩,Y,Y⟩
theorem Aps (n:Net) (f:List Int) (hn:n.Fin) (hr:Ai n=true) (hf:B2 f) (hl:n.domains.length≤f.length) (hl2:f.length≤100000):Sy.Spec Tryz.prog 66 [Aj n,.osl 900] [(900,.row 1 Aa f)] (.tup []) [(900,.row 1 Aa (Kw n f))]:=cT F66 Tryz.ntmps66 fun F hF=>by
 have hp:n.ports.length<2147483648:=hn.ports
 refine T ?_
 refine A4 2 8 (Aj n) Y Y Y ?_
 refine T ?_
 refine Du n.ports.length (fun j=>[(1,.osl 900),(2,.ref 8 (Aj n) 0),(11,.sl 7 A9 n.ports),(12,Aa n.ports.length),(13,Aa j)]) (fun j=>[(900,.row 1 Aa ((List.range j).foldl (E1 n) f))]) [] U ?_
 intro j hj
 refine T ?_
 refine⟨fun h=>?_,fun h=>?_⟩
 ·have hlt:j<n.ports.length:=qA h
  have hj0:((j:Nat):Int).toNat<n.ports.length:=hlt
  clear h
  have htag:n.ports[((j:Nat):Int).toNat].tagged.length<2147483648:=hn.tagged _ (List.getElem_mem hj0)
  have htag2:n.ports[j].tagged.length<2147483648:=htag
  have hnp:nth n.ports ((j:Nat):Int)=n.ports[((j:Nat):Int).toNat]:=Ar hj0
  obtain ⟨g1,g2⟩:B2 ((List.range j).foldl (E1 n) f)∧((List.range j).foldl (E1 n) f).length=f.length:=Jj (fun i hi _ h1 h2=>Od hr (by have:=List.mem_range.1 hi;omega) h1 h2) hf hl
  refine T ?_
  refine Xd (Ag [(0,60)] Y F159 (Ab2 n.ports[((j:Nat):Int).toNat].tagged htag) Y q_ Y ⟨.inr Y,q_⟩) ?_
  refine T ?_
  refine Xd (Ak Γ.toTy 61 rfl rfl rfl rfl rfl (.row rfl) (.lit (e:=Aa) (l:=[n.ports[((j:Nat):Int).toNat].native]) rfl rfl) (by intro k hk;cases hk;decide) (by simp;omega) (by simp;omega)) ?_
  refine T ?_
  refine A4 5 7 (A9 n.ports[((j:Nat):Int).toNat]) Y Y Y ?_
  have hlen:(n.ports[((j:Nat):Int).toNat].tagged++[n.ports[((j:Nat):Int).toNat].native]).length=n.ports[((j:Nat):Int).toNat].tagged.length+1:=by simp
  refine T ?_
  obtain ⟨vl,hvl⟩:∃ vl,n.ports[((j:Nat):Int).toNat].tagged++[n.ports[((j:Nat):Int).toNat].native]=vl:=⟨_,rfl⟩
  have hvlen:vl.length<2147483649:=by rw[← hvl,hlen];omega
  obtain ⟨fj,hfj⟩:∃ fj,(List.range j).foldl (E1 n) f=fj:=⟨_,rfl⟩
  rw[hfj]at g1 g2
  refine Du vl.length (fun i=>[(1,.osl 900),(2,.ref 8 (Aj n) 0),(4,Aa j),(5,.ref 7 (A9 n.ports[((j:Nat):Int).toNat]) 0),(11,.sl 7 A9 n.ports),(12,Aa n.ports.length),(13,Aa j),(24,.osl 1000),(25,Aa vl.length),(26,Aa i)])
   (fun i=>[(900,.row 1 Aa ((vl.take i).foldl (fun f v=>Dd n f j v) fj)),(1000,.row 1 Aa vl)]) [(1000,61)] ⟨⟨rfl,rfl,rfl,rfl,rfl,rfl,rfl,rfl,rfl,rfl,rfl,rfl,rfl,rfl,rfl,rfl,congrArg (fun l:List Int=>Aa l.length) hvl.symm,rfl,rfl,rfl,trivial⟩,⟨.inl (congrArg (Ob.row 1 Aa) hfj.symm),rfl,.inl (congrArg (Ob.row 1 Aa) hvl.symm),rfl,trivial⟩,rfl,rfl⟩ ?_
  intro i hi
  refine T ?_
  refine⟨fun h=>?_,fun h=>?_⟩
  ·have hit:i<vl.length:=qA h
   have hi0:((i:Nat):Int).toNat<vl.length:=hit
   clear h
   obtain ⟨e1,e2⟩:B2 ((vl.take i).foldl (fun f v=>Dd n f j v) fj)∧((vl.take i).foldl (fun f v=>Dd n f j v) fj).length=fj.length:=Jj (fun _ _ _ h1 h2=>Qq hr hlt h1 h2) g1 z_
   have hnx:(vl.take (i+1)).foldl (fun f v=>Dd n f j v) fj=Dd n ((vl.take i).foldl (fun f v=>Dd n f j v) fj) j (vl[((i:Nat):Int).toNat]'hi0):=by
    rw[List.take_succ_eq_append_getElem hit,List.foldl_append];rfl
   have q:=Abb n hn j (vl[((i:Nat):Int).toNat]'hi0)
   refine T ?_
   refine C q F167 ?_
   cases hb:(linkDomT n j (vl[((i:Nat):Int).toNat]'hi0)).2
   ·have hz:Dd n ((vl.take i).foldl (fun f v=>Dd n f j v) fj) j (vl[((i:Nat):Int).toNat]'hi0)=(vl.take i).foldl (fun f v=>Dd n f j v) fj:=by rw[Dd,if_neg (by rw[hb];decide)]
    rw[hz]at hnx
    refine T ?_
    exact D0 [] z_ ⟨⟨Y,Y,Y,Y,Y,Y,Y,Y,Y,Y,Y,Y,Y,Y,Y,Y,Y,Y,Y,Y,q_⟩,⟨.inl (congrArg (Ob.row 1 Aa) hnx),Y,.inl Y,Y,q_⟩,Y,Y⟩
   ·have hin:=Jf hb
    have hm:C6 (n.ports[((j:Nat):Int).toNat]'hj0) (vl[((i:Nat):Int).toNat]'hi0)=true:=Ij hb hlt
    have hdm:=Lb hr hlt hm
    have q2:=I7 n hn hr (n.ports[((j:Nat):Int).toNat]'hj0).dev (vl[((i:Nat):Int).toNat]'hi0)
    have hz:Dd n ((vl.take i).foldl (fun f v=>Dd n f j v) fj) j (vl[((i:Nat):Int).toNat]'hi0)=(Is ((vl.take i).foldl (fun f v=>Dd n f j v) fj) (Dp n (n.ports[((j:Nat):Int).toNat]'hj0).dev (vl[((i:Nat):Int).toNat]'hi0)) (linkDomT n j (vl[((i:Nat):Int).toNat]'hi0)).1).1:=by rw[Dd,if_pos hb,hnp]
    rw[hz]at hnx
    have q3:=Aqm ((vl.take i).foldl (fun f v=>Dd n f j v) fj) (Dp n (n.ports[((j:Nat):Int).toNat]'hj0).dev (vl[((i:Nat):Int).toNat]'hi0)) (linkDomT n j (vl[((i:Nat):Int).toNat]'hi0)).1 e1 ⟨hdm.1,Nat.lt_of_lt_of_le hdm.2 z_⟩ ⟨hin.1,by omega⟩ z_
    refine T ?_
    refine C q2 F168 ?_
    refine T ?_
    refine X (Ag [(900,900)] Y F68 q3 Y W Y V) ?_
    refine T ?_
    exact D0 [] z_ ⟨⟨Y,Y,Y,Y,Y,Y,Y,Y,Y,Y,Y,Y,Y,Y,Y,Y,Y,Y,Y,Y,q_⟩,⟨.inl (congrArg (Ob.row 1 Aa) hnx),Y,.inl Y,Y,q_⟩,Y,Y⟩
  ·have hie:i=vl.length:=qB h
   clear h
   subst hie
   have hnx:(List.range (j+1)).foldl (E1 n) f=(vl.take vl.length).foldl (fun f v=>Dd n f j v) fj:=by
    rw[List.range_succ,List.foldl_append,hfj,List.take_length,← hvl]
    show E1 n fj j=_
    rw[E1,hnp]
   refine T ?_
   exact D0 [] z_ ⟨⟨Y,Y,Y,Y,Y,Y,Y,Y,Y,Y,q_⟩,⟨.inl (congrArg (Ob.row 1 Aa) hnx),Y,q_⟩,Y,Y⟩
 ·have hje:j=n.ports.length:=qB h
  clear h
  subst hje
  refine T ?_
  exact C0 Y .nil [(900,900)] [(900,.row 1 Aa (Kw n f))] (fun _ h=>h) Y Y U
end Go.Sy.YtjenpnjajjplkaaGreatDoor
namespace Go.Sy.YtjenpnjajjplkaaGreatDoor
open Go.Proofs
inductive Conn (E:Int→Int→Prop):Int→Int→Prop
 | refl (a:Int):Conn E a a
 | edge {a b:Int}:E a b→Conn E a b
 | symm {a b:Int}:Conn E a b→Conn E b a
 | trans {a b c:Int}:Conn E a b→Conn E b c→Conn E a c
theorem Conn.lift {E:Int→Int→Prop} {R:Int→Int→Prop} (h1:∀ a,R a a) (h2:∀ a b,R a b→R b a) (h3:∀ a b c,R a b→R b c→R a c) (h4:∀ a b,E a b→R a b) {a b:Int} (h:Conn E a b):R a b:=by
 induction h with
 | refl a=>exact h1 a
 | edge h=>exact h4 _ _ h
 | symm _ ih=>exact h2 _ _ ih
 | trans _ _ ih1 ih2=>exact h3 _ _ _ ih1 ih2
theorem Conn.sub {E F:Int→Int→Prop} (h:∀ a b,E a b→Conn F a b) {a b:Int} (hc:Conn E a b):Conn F a b:=Conn.lift (R:=Conn F) .refl (fun _ _=>.symm) (fun _ _ _=>.trans) h hc
theorem Conn.mono {E F:Int→Int→Prop} (h:∀ a b,E a b→F a b) {a b:Int} (hc:Conn E a b):Conn F a b:=Conn.sub (fun _ _ he=>.edge (h _ _ he)) hc
theorem Conn.keeps {E:Int→Int→Prop} {Z:Int→Prop} (h:∀ a b,E a b→(Z a↔Z b)) {a b:Int} (hc:Conn E a b):Z a↔Z b:=Conn.lift (R:=fun a b=>Z a↔Z b) (fun _=>Iff.rfl) (fun _ _ h=>h.symm) (fun _ _ _ h1 h2=>h1.trans h2) h hc
theorem Ta {l:List Int} {a b v:Int} (h0:0≤a) (h1:a.toNat<l.length) (hb:0≤b):nth (l.set a.toNat v) b=if b=a then v else nth l b:=by
 unfold nth
 by_cases e:b=a
 ·subst e
  rw[if_pos rfl,List.getElem?_set_self h1]
  rfl
 ·rw[if_neg e,List.getElem?_set_ne z_]
def rtF:Nat→List Int→Int→Int
 | 0,_,i=>i
 | k+1,f,i=>if nth f i=i then i else rtF k f (nth f i)
def rt (f:List Int) (i:Int):Int:=rtF (i.toNat+1) f i
def InR (f:List Int) (i:Int):Prop:=0≤i∧i.toNat<f.length
theorem Acl {f:List Int} (hf:B2 f):∀ (m k k':Nat) (i:Int),InR f i→i.toNat≤m→i.toNat+1≤k→i.toNat+1≤k'→rtF k f i=rtF k' f i
 | m,0,_,_,_,_,h,_=>by omega
 | m,_+1,0,_,_,_,_,h=>by omega
 | m,k+1,k'+1,i,hi,hm,h1,h2=>by
  rw[rtF,rtF]
  by_cases e:nth f i=i
  ·rw[if_pos e,if_pos e]
  ·rw[if_neg e,if_neg e]
   obtain ⟨a1,a2⟩:=B9 hf hi.1 hi.2
   have:=hi.1
   have:=hi.2
   match m with
   | 0=>omega
   | m+1=>exact Acl hf m k k' _ ⟨a1,by omega⟩ z_ z_ z_
theorem Kd {f:List Int} {i:Int} (h:nth f i=i):rt f i=i:=by rw[rt,rtF,if_pos h]
theorem Se {f:List Int} (hf:B2 f) {i:Int} (hi:InR f i):InR f (nth f i):=by
 obtain ⟨a1,a2⟩:=B9 hf hi.1 hi.2
 have:=hi.2
 exact⟨a1,by omega⟩
theorem Ic {f:List Int} (hf:B2 f) {i:Int} (hi:InR f i):rt f (nth f i)=rt f i:=by
 by_cases e:nth f i=i
 ·rw[e]
 ·obtain ⟨a1,a2⟩:=B9 hf hi.1 hi.2
  have h2:=hi.2
  rw[rt,rt,rtF.eq_2 _ _ (i.toNat),if_neg e]
  exact Acl hf _ _ _ _ ⟨a1,by omega⟩ (Nat.le_refl _) z_ z_
theorem Ack {f:List Int} (hf:B2 f):∀ (m:Nat) (i:Int),InR f i→i.toNat≤m→0≤rt f i∧rt f i≤i∧nth f (rt f i)=rt f i
 | m,i,hi,hm=>by
  by_cases e:nth f i=i
  ·rw[Kd e]
   exact⟨hi.1,Int.le_refl _,e⟩
  ·obtain ⟨a1,a2⟩:=B9 hf hi.1 hi.2
   have h2:=hi.2
   rw[← Ic hf hi]
   match m with
   | 0=>omega
   | m+1 =>
    obtain ⟨b1,b2,b3⟩:=Ack hf m (nth f i) (Se hf hi) z_
    exact⟨b1,by omega,b3⟩
theorem Alz {f:List Int} (hf:B2 f) {i:Int} (hi:InR f i):InR f (rt f i)∧rt f i≤i∧nth f (rt f i)=rt f i:=by
 obtain ⟨b1,b2,b3⟩:=Ack hf i.toNat i hi (Nat.le_refl _)
 have:=hi.2
 exact⟨⟨b1,by omega⟩,b2,b3⟩
theorem Sv {f:List Int} (hf:B2 f) {i:Int} (hi:InR f i) (hne:nth f i≠i):∀ (m:Nat) (j:Int),InR f j→j.toNat≤m→rt (f.set i.toNat (nth f (nth f i))) j=rt f j
 | m,j,hj,hm=>by
  have ha:=Se hf hi
  have hb:=Se hf ha
  obtain ⟨a1,a2⟩:=B9 hf hi.1 hi.2
  obtain ⟨b1,b2⟩:=B9 hf ha.1 ha.2
  have hi1:=hi.1
  have hi2:=hi.2
  have hj1:=hj.1
  have hj2:=hj.2
  have hf':B2 (f.set i.toNat (nth f (nth f i))):=E6 hf hi2 b1 z_
  have hj':InR (f.set i.toNat (nth f (nth f i))) j:=⟨hj1,by rw[List.length_set];exact hj2⟩
  have hput:=Ta (l:=f) (v:=nth f (nth f i)) hi1 hi2 hj1
  by_cases e:j=i
  ·rw[if_pos e]at hput
   rw[← Ic hf' hj',hput]
   have:rt f j=rt f (nth f (nth f i)):=by rw[Ic hf ha,Ic hf hi,e]
   rw[this]
   match m with
   | 0=>omega
   | m+1=>exact Sv hf hi hne m _ hb z_
  ·rw[if_neg e]at hput
   by_cases e2:nth f j=j
   ·rw[Kd e2,Kd (hput.trans e2)]
   ·obtain ⟨c1,c2⟩:=B9 hf hj1 hj2
    rw[← Ic hf' hj',hput,← Ic hf hj]
    match m with
    | 0=>omega
    | m+1=>exact Sv hf hi hne m _ (Se hf hj) z_
theorem Af2:∀ (m:Nat) (f:List Int) (i:Int),B2 f→InR f i→i.toNat≤m→(Ex f i).2=rt f i∧∀ j,InR f j→rt (Ex f i).1 j=rt f j
 | m,f,i,hf,hi,hm=>by
  by_cases e:nth f i=i
  ·rw[Aaj e,Kd e];exact⟨rfl,fun _ _=>rfl⟩
  ·have ha:=Se hf hi
   have hb:=Se hf ha
   obtain ⟨a1,a2⟩:=B9 hf hi.1 hi.2
   obtain ⟨b1,b2⟩:=B9 hf ha.1 ha.2
   have hi2:=hi.2
   rw[Wk hf hi.1 hi.2 e]
   have hf':B2 (f.set i.toNat (nth f (nth f i))):=E6 hf hi2 b1 z_
   match m with
   | 0=>omega
   | m+1 =>
    obtain ⟨c1,c2⟩:=Af2 m _ (nth f (nth f i)) hf' ⟨b1,by rw[List.length_set];exact hb.2⟩ z_
    refine⟨?_,fun j hj=>?_⟩
    ·rw[c1,Sv hf hi e _ _ hb (Nat.le_refl _),Ic hf ha,Ic hf hi]
    ·rw[c2 j ⟨hj.1,by rw[List.length_set];exact hj.2⟩,Sv hf hi e _ _ hj (Nat.le_refl _)]
theorem Aie {f:List Int} (hf:B2 f) {a b:Int} (ha:InR f a) (hb:0≤b) (hba:b≤a) (ra:nth f a=a) (rb:nth f b=b):∀ (m:Nat) (j:Int),InR f j→j.toNat≤m→rt (f.set a.toNat b) j=if rt f j=a then b else rt f j
 | m,j,hj,hm=>by
  have ha1:=ha.1
  have ha2:=ha.2
  have hf':B2 (f.set a.toNat b):=E6 hf ha2 hb z_
  have hj':InR (f.set a.toNat b) j:=⟨hj.1,by rw[List.length_set];exact hj.2⟩
  have hput:=Ta (l:=f) (v:=b) ha1 ha2 hj.1
  by_cases e:j=a
  ·rw[if_pos e]at hput
   subst e
   rw[Kd ra,if_pos rfl]
   by_cases e3:b=j
   ·rw[Kd (by rw[hput,e3]),e3]
   ·rw[← Ic hf' hj',hput]
    have hpb:=Ta (l:=f) (v:=b) ha1 ha2 hb
    rw[if_neg e3]at hpb
    exact Kd (hpb.trans rb)
  ·rw[if_neg e]at hput
   by_cases e2:nth f j=j
   ·rw[Kd e2,Kd (hput.trans e2),if_neg e]
   ·obtain ⟨c1,c2⟩:=B9 hf hj.1 hj.2
    rw[← Ic hf' hj',hput,← Ic hf hj]
    match m with
    | 0=>omega
    | m+1=>exact Aie hf ha hb hba ra rb m _ (Se hf hj) z_
theorem Ao2 {f:List Int} (hf:B2 f) {a b:Int} (ha:InR f a) (hb:InR f b):(Is f a b).2=(rt f a != rt f b)∧∀ j,InR f j→rt (Is f a b).1 j=if rt f j=max (rt f a) (rt f b) then min (rt f a) (rt f b) else rt f j:=by
 obtain ⟨a1,a2,a3,a4⟩:=Iu a.toNat f a hf ha.1 ha.2 (Nat.le_refl _)
 obtain ⟨t1,t2⟩:=Af2 a.toNat f a hf ha (Nat.le_refl _)
 have hb':InR (Ex f a).1 b:=⟨hb.1,by rw[a2];exact hb.2⟩
 obtain ⟨b1,b2,b3,b4⟩:=Iu b.toNat (Ex f a).1 b a1 hb'.1 hb'.2 (Nat.le_refl _)
 obtain ⟨u1,u2⟩:=Af2 b.toNat (Ex f a).1 b a1 hb' (Nat.le_refl _)
 obtain ⟨ra1,ra2,ra3⟩:=Alz hf ha
 obtain ⟨rb1,rb2,rb3⟩:=Alz hf hb
 rw[t2 b hb]at u1
 have hrt:∀ j,InR f j→rt (Ex (Ex f a).1 b).1 j=rt f j:=fun j hj=>by rw[u2 j ⟨hj.1,by rw[a2];exact hj.2⟩,t2 j hj]
 have hin:∀ j,InR f j→InR (Ex (Ex f a).1 b).1 j:=fun j hj=>⟨hj.1,by rw[b2,a2];exact hj.2⟩
 have htop:∀ j,InR f j→nth f j=j→nth (Ex (Ex f a).1 b).1 j=j:=fun j hj e=>by
  have h1:=hrt j hj
  rw[Kd e]at h1
  have h2:=(Alz b1 (hin j hj)).2.2
  rw[h1]at h2
  exact h2
 unfold Is
 dsimp only
 rw[t1,u1]
 refine⟨Y,fun j hj=>?_⟩
 have hmax:InR f (max (rt f a) (rt f b))∧nth f (max (rt f a) (rt f b))=max (rt f a) (rt f b):=by
  rw[Int.max_def];split
  ·exact⟨rb1,rb3⟩
  ·exact⟨ra1,ra3⟩
 have hmin:InR f (min (rt f a) (rt f b))∧nth f (min (rt f a) (rt f b))=min (rt f a) (rt f b):=by
  rw[Int.min_def];split
  ·exact⟨ra1,ra3⟩
  ·exact⟨rb1,rb3⟩
 rw[Aie b1 (hin _ hmax.1) hmin.1.1 z_ (htop _ hmax.1 hmax.2) (htop _ hmin.1 hmin.2) j.toNat j (hin j hj) (Nat.le_refl _),hrt j hj]
structure Joins (f:List Int) (E:Int→Int→Prop):Prop where
 tree:B2 f
 inr:∀ a b,E a b→InR f a∧InR f b
 iff:∀ a b,InR f a→InR f b→(rt f a=rt f b↔Conn E a b)
theorem Joins.congr {f:List Int} {E F:Int→Int→Prop} (h:Joins f E) (he:∀ a b,E a b↔F a b):Joins f F:=by
 have:E=F:=funext fun a=>funext fun b=>propext (he a b)
 rwa [this]at h
theorem Ad3 (k:Nat):Joins (B6 k) (fun _ _=>False):=by
 have hk:=(Dt k).2
 have h1:∀ a,InR (B6 k) a→rt (B6 k) a=a:=fun a ha=>by
  refine Kd ?_
  rw[Ar ha.2]
  have:=ha.1
  simp[B6]
  omega
 refine⟨(Dt k).1,fun _ _ h=>h.elim,fun a b ha hb=>?_⟩
 rw[h1 a ha,h1 b hb]
 constructor
 ·rintro rfl
  exact .refl a
 ·intro h
  exact Conn.lift (R:=fun a b=>a=b) (fun _=>rfl) (fun _ _ h=>h.symm) (fun _ _ _ h1 h2=>h1.trans h2) (fun _ _ h=>h.elim) h
theorem Xs {f:List Int} {E:Int→Int→Prop} (h:Joins f E) {a b:Int} (ha:InR f a) (hb:InR f b) :
  Joins (Is f a b).1 (fun x y=>E x y∨(x=a∧y=b))∧(Is f a b).1.length=f.length∧((Is f a b).2=false↔Conn E a b):=by
 obtain ⟨j1,j2⟩:=Sa h.tree ha hb
 obtain ⟨r1,r2⟩:=Ao2 h.tree ha hb
 have hin:∀ x,InR (Is f a b).1 x↔InR f x:=fun x=>by unfold InR;rw[j2]
 have hE:∀ {x y},Conn E x y→Conn (fun x y=>E x y∨(x=a∧y=b)) x y:=fun h=>h.mono fun _ _=>.inl
 have hab:Conn (fun x y=>E x y∨(x=a∧y=b)) a b:=.edge (.inr ⟨rfl,rfl⟩)
 refine⟨⟨j1,?_,fun x y hx hy=>?_⟩,j2,?_⟩
 ·rintro x y (he | ⟨rfl,rfl⟩)
  ·have:=h.inr x y he
   exact⟨(hin x).2 this.1,(hin y).2 this.2⟩
  ·exact⟨(hin _).2 ha,(hin _).2 hb⟩
 ·have hx':=(hin x).1 hx
  have hy':=(hin y).1 hy
  rw[r2 x hx',r2 y hy']
  constructor
  ·intro he
   have key:rt f x=rt f y∨(rt f x=rt f a∧rt f y=rt f b)∨(rt f x=rt f b∧rt f y=rt f a):=by
    split at he<;>split at he<;>omega
   rcases key with k | ⟨k1,k2⟩ | ⟨k1,k2⟩
   ·exact hE ((h.iff x y hx' hy').1 k)
   ·exact((hE ((h.iff x a hx' ha).1 k1)).trans hab).trans (hE ((h.iff y b hy' hb).1 k2)).symm
   ·exact((hE ((h.iff x b hx' hb).1 k1)).trans hab.symm).trans (hE ((h.iff y a hy' ha).1 k2)).symm
  ·intro hc
   have key:x=y∨(InR f x∧InR f y∧(if rt f x=max (rt f a) (rt f b) then min (rt f a) (rt f b) else rt f x)=(if rt f y=max (rt f a) (rt f b) then min (rt f a) (rt f b) else rt f y)):=by
    refine Conn.lift (R:=fun x y=>x=y∨(InR f x∧InR f y∧(if rt f x=max (rt f a) (rt f b) then min (rt f a) (rt f b) else rt f x)=(if rt f y=max (rt f a) (rt f b) then min (rt f a) (rt f b) else rt f y)))
     (fun _=>.inl rfl) ?_ ?_ ?_ hc
    ·rintro x y (h | ⟨h1,h2,h3⟩)
     ·exact .inl h.symm
     ·exact .inr ⟨h2,h1,h3.symm⟩
    ·rintro x y z (rfl | ⟨h1,h2,h3⟩) h4
     ·exact h4
     ·rcases h4 with rfl | ⟨h5,h6,h7⟩
      ·exact .inr ⟨h1,h2,h3⟩
      ·exact .inr ⟨h1,h6,h3.trans h7⟩
    ·rintro x y (he | ⟨rfl,rfl⟩)
     ·obtain ⟨i1,i2⟩:=h.inr x y he
      exact .inr ⟨i1,i2,by rw[(h.iff x y i1 i2).2 (.edge he)]⟩
     ·refine .inr ⟨ha,hb,?_⟩
      split<;>split<;>omega
   rcases key with rfl | ⟨_,_,k⟩
   ·rfl
   ·exact k
 ·rw[r1,← h.iff a b ha hb]
  simp
theorem Q9 {α:Type} {g:List Int→α→List Int} {R:α→Int→Int→Prop} {K:Nat}:∀ (l:List α) {f:List Int} {E:Int→Int→Prop},
  (∀ x∈l,∀ (f:List Int) (E:Int→Int→Prop),f.length=K→Joins f E→Joins (g f x) (fun a b=>E a b∨R x a b)∧(g f x).length=K)→f.length=K→Joins f E →
  Joins (l.foldl g f) (fun a b=>E a b∨∃ x∈l,R x a b)∧(l.foldl g f).length=K
 | [],f,E,_,hK,h=>⟨h.congr (fun a b=>by simp),hK⟩
 | x::l,f,E,hg,hK,h=>by
  obtain ⟨h1,h2⟩:=hg x qe f E hK h
  obtain ⟨h3,h4⟩:=Q9 l (f:=g f x) (fun y hy=>hg y (by simp[hy])) h2 h1
  exact⟨h3.congr (fun a b=>by simp[or_assoc]),h4⟩
theorem Lf {p q:Nat→Bool}:∀ {l:List Nat},(∀ x∈l,p x=true→q x=true)→(∃ x∈l,q x=true∧p x=false)→l.countP p<l.countP q
 | [],_,h=>by
  obtain ⟨x,hx,_⟩:=h
  cases hx
 | y::l,h1,h2=>by
  rw[List.countP_cons,List.countP_cons]
  have hm:l.countP p≤l.countP q:=List.countP_mono_left (fun x hx=>h1 x (by simp[hx]))
  have hy:=h1 y qe
  obtain ⟨x,hx,hq,hp⟩:=h2
  rcases List.mem_cons.1 hx with rfl | hx
  ·rw[if_neg (by simp[hp]),if_pos hq];omega
  ·have:=Lf (l:=l) (fun x hx=>h1 x (by simp[hx])) ⟨x,hx,hq,hp⟩
   split<;>split<;>first | omega | (rename_i a b;exact absurd (hy a) b)
def D9 (l:List Int) (a b:Int):List Int :=
 let x:=if nth l b<nth l a then nth l b else nth l a
 (l.set a.toNat x).set b.toNat x
def InD (D:Nat) (i:Int):Prop:=0≤i∧i.toNat<D
structure Lab (D:Nat) (E:Int→Int→Prop) (l:List Int):Prop where
 len:l.length=D
 own:∀ a,InD D a→InD D (nth l a)∧nth l a≤a∧Conn E a (nth l a)
theorem Af7 {l:List Int} {D:Nat} (hl:l.length=D) {a b c:Int} (ha:InD D a) (hb:InD D b) (hc:InD D c) :
  nth (D9 l a b) c=if c=a∨c=b then (if nth l b<nth l a then nth l b else nth l a) else nth l c:=by
 unfold D9
 dsimp only
 generalize (if nth l b<nth l a then nth l b else nth l a)=v
 rw[Ta hb.1 (by rw[List.length_set,hl];exact hb.2) hc.1]
 by_cases e:c=b
 ·rw[if_pos e,if_pos (.inr e)]
 ·rw[if_neg e,Ta ha.1 (by rw[hl];exact ha.2) hc.1]
  by_cases e2:c=a
  ·rw[if_pos e2,if_pos (.inl e2)]
  ·rw[if_neg e2,if_neg (by rintro (h | h)<;>contradiction)]
theorem Wv (l:List Int) (a b:Int):(D9 l a b).length=l.length:=by simp[D9]
theorem Wt {D:Nat} {E:Int→Int→Prop}:∀ (es:List (Int × Int)) (l:List Int),(∀ e∈es,InD D e.1∧InD D e.2∧E e.1 e.2)→Lab D E l →
  Lab D E (es.foldl (fun l e=>D9 l e.1 e.2) l)∧(∀ c,InD D c→nth (es.foldl (fun l e=>D9 l e.1 e.2) l) c≤nth l c) ∧
  ∀ e∈es,nth (es.foldl (fun l e=>D9 l e.1 e.2) l) e.1≤nth l e.2∧nth (es.foldl (fun l e=>D9 l e.1 e.2) l) e.2≤nth l e.1
 | [],l,_,h=>⟨h,fun _ _=>Int.le_refl _,fun e he=>(by cases he)⟩
 | x::es,l,hE,h=>by
  obtain ⟨xa,xb,xe⟩:=hE x qe
  have hn:=fun c hc=>Af7 (c:=c) h.len xa xb hc
  have hmin:(if nth l x.2<nth l x.1 then nth l x.2 else nth l x.1)≤nth l x.1∧(if nth l x.2<nth l x.1 then nth l x.2 else nth l x.1)≤nth l x.2:=by split<;>omega
  have hle:∀ c,InD D c→nth (D9 l x.1 x.2) c≤nth l c:=fun c hc=>by
   rw[hn c hc]
   split
   ·rename_i e
    rcases e with rfl | rfl
    ·exact hmin.1
    ·exact hmin.2
   ·exact Int.le_refl _
  have hL:Lab D E (D9 l x.1 x.2):=by
   refine⟨by rw[Wv,h.len],fun c hc=>?_⟩
   obtain ⟨o1,o2,o3⟩:=h.own c hc
   refine⟨?_,Int.le_trans (hle c hc) o2,?_⟩
   ·rw[hn c hc]
    split
    ·split
     ·exact(h.own x.2 xb).1
     ·exact(h.own x.1 xa).1
    ·exact o1
   ·rw[hn c hc]
    split
    ·rename_i e
     have c1:Conn E c x.1:=by
      rcases e with rfl | rfl
      ·exact .refl _
      ·exact(Conn.edge xe).symm
     split
     ·exact(c1.trans (.edge xe)).trans (h.own x.2 xb).2.2
     ·exact c1.trans (h.own x.1 xa).2.2
    ·exact o3
  obtain ⟨i1,i2,i3⟩:=Wt es (D9 l x.1 x.2) (fun e he=>hE e (by simp[he])) hL
  rw[List.foldl_cons]
  refine⟨i1,fun c hc=>Int.le_trans (i2 c hc) (hle c hc),fun e he=>?_⟩
  rcases List.mem_cons.1 he with rfl | he
  ·have q1:=i2 e.1 xa
   have q2:=i2 e.2 xb
   rw[hn e.1 xa,if_pos (.inl rfl)]at q1
   rw[hn e.2 xb,if_pos (.inr rfl)]at q2
   exact⟨Int.le_trans q1 hmin.2,Int.le_trans q2 hmin.1⟩
  ·obtain ⟨ea,eb,_⟩:=hE e (by simp[he])
   obtain ⟨q1,q2⟩:=i3 e he
   exact⟨Int.le_trans q1 (hle _ eb),Int.le_trans q2 (hle _ ea)⟩
def Jq (D:Nat) (E:Int→Int→Prop) (l:List Int) (a:Int):Prop:=∀ c,InD D c→Conn E a c→nth l a≤c
def Abl (D:Nat) (E:Int→Int→Prop) (l:List Int) (k:Nat):Prop:=∃ p:Nat→Bool,(∀ i:Nat,p i=true↔Jq D E l (i:Int))∧k≤(List.range D).countP p
theorem Ad0 {D:Nat} {E:Int→Int→Prop}:∀ (m:Nat) (a:Int),InD D a→a.toNat≤m→∃ c,InD D c∧Conn E a c∧∀ x,InD D x→Conn E a x→c≤x
 | m,a,ha,hm=>by
  by_cases h:∃ x,InD D x∧Conn E a x∧x<a
  ·obtain ⟨x,h1,h2,h3⟩:=h
   have:=h1.1
   match m with
   | 0=>omega
   | m+1 =>
    obtain ⟨c,c1,c2,c3⟩:=Ad0 (E:=E) m x h1 z_
    exact⟨c,c1,h2.trans c2,fun y y1 y2=>c3 y y1 (h2.symm.trans y2)⟩
  ·refine⟨a,ha,.refl a,fun x x1 x2=>?_⟩
   by_cases hx:x<a
   ·exact absurd ⟨x,x1,x2,hx⟩ h
   ·omega
theorem Aea {D:Nat} {E:Int→Int→Prop} {es:List (Int × Int)} (hE:∀ a b,E a b↔(a,b)∈es) (hes:∀ e∈es,InD D e.1∧InD D e.2) {l:List Int} (h:Lab D E l) :
  Lab D E (es.foldl (fun l e=>D9 l e.1 e.2) l)∧((∀ a,InD D a→Jq D E l a)→∀ a,InD D a→Jq D E (es.foldl (fun l e=>D9 l e.1 e.2) l) a) ∧
  ((∀ a,InD D a→Jq D E l a)∨∀ k,Abl D E l k→Abl D E (es.foldl (fun l e=>D9 l e.1 e.2) l) (k+1)):=by
 obtain ⟨i1,i2,i3⟩:=Wt es l (fun e he=>⟨(hes e he).1,(hes e he).2,(hE e.1 e.2).2 he⟩) h
 generalize es.foldl (fun l e=>D9 l e.1 e.2) l=l' at *
 have hup:∀ a,InD D a→Jq D E l a→Jq D E l' a:=fun a ha hg c hc hac=>Int.le_trans (i2 a ha) (hg c hc hac)
 refine⟨i1,fun hg a ha=>hup a ha (hg a ha),?_⟩
 by_cases hall:∀ a,InD D a→Jq D E l a
 ·exact .inl hall
 refine .inr ?_
 have hnew:∃ v,InD D v∧Jq D E l' v∧¬ Jq D E l v:=by
  refine Classical.byContradiction fun hno=>hall fun a ha=>?_
  have hno:∀ v,InD D v→Jq D E l' v→Jq D E l v:=fun v h1 h2=>Classical.byContradiction fun h3=>hno ⟨v,h1,h2,h3⟩
  obtain ⟨c,c1,c2,c3⟩:=Ad0 (E:=E) a.toNat a ha (Nat.le_refl _)
  have hc:Jq D E l c:=fun x hx hcx=>Int.le_trans (h.own c c1).2.1 (c3 x hx (c2.trans hcx))
  refine(Conn.keeps (Z:=Jq D E l) (fun u v huv=>?_) c2).2 hc
  have huv':=(hE u v).1 huv
  obtain ⟨d1,d2⟩:=hes _ huv'
  obtain ⟨k1,k2⟩:=i3 _ huv'
  exact⟨fun hu=>hno v d2 (fun x hx hvx=>Int.le_trans k2 (hu x hx ((Conn.edge huv).trans hvx))),fun hv=>hno u d1 (fun x hx hux=>Int.le_trans k1 (hv x hx ((Conn.edge huv).symm.trans hux)))⟩
 obtain ⟨v,v1,v2,v3⟩:=hnew
 rintro k ⟨p,hp,hk⟩
 refine⟨fun i=>@decide (Jq D E l' (i:Int)) (Classical.propDecidable _),fun i=>@decide_eq_true_iff _ (Classical.propDecidable _),Nat.lt_of_le_of_lt hk (Lf (fun x hx hg=>?_) ⟨v.toNat,by simpa using v1.2,?_,?_⟩)⟩
 ·have hx:x<D:=by simpa using hx
  exact(@decide_eq_true_iff _ (Classical.propDecidable _)).2 (hup x ⟨by omega,by simpa using hx⟩ ((hp x).1 hg))
 ·rw[Int.toNat_of_nonneg v1.1];exact(@decide_eq_true_iff _ (Classical.propDecidable _)).2 v2
 ·have:¬ p v.toNat=true:=fun h=>v3 (by have:=(hp _).1 h;rwa [Int.toNat_of_nonneg v1.1]at this)
  simpa using this
def Ej (es:List (Int × Int)) (k:Nat) (l:List Int):List Int:=(List.range k).foldl (fun l _=>es.foldl (fun l e=>D9 l e.1 e.2) l) l
theorem Mu (es:List (Int × Int)) (k:Nat) (l:List Int):Ej es (k+1) l=es.foldl (fun l e=>D9 l e.1 e.2) (Ej es k l):=by
 rw[Ej,List.range_succ,List.foldl_append];rfl
theorem U8 {D:Nat} {E:Int→Int→Prop} {es:List (Int × Int)} (hE:∀ a b,E a b↔(a,b)∈es) (hes:∀ e∈es,InD D e.1∧InD D e.2):∀ (k:Nat),Lab D E (Ej es k (B6 D))∧((∀ a,InD D a→Jq D E (Ej es k (B6 D)) a)∨Abl D E (Ej es k (B6 D)) k)
 | 0=>by
  refine⟨⟨(Dt D).2,fun a ha=>?_⟩,.inr ⟨fun i=>@decide (Jq D E (Ej es 0 (B6 D)) (i:Int)) (Classical.propDecidable _),fun i=>@decide_eq_true_iff _ (Classical.propDecidable _),Nat.zero_le _⟩⟩
  have h1:nth (Ej es 0 (B6 D)) a=a:=by
   show nth (B6 D) a=a
   rw[Ar (by rw[(Dt D).2];exact ha.2)]
   have:=ha.1
   simp[B6]
   omega
  rw[h1]
  exact⟨ha,Int.le_refl _,.refl a⟩
 | k+1=>by
  obtain ⟨h1,h2⟩:=U8 hE hes k
  obtain ⟨g1,g2,g3⟩:=Aea hE hes h1
  rw[Mu]
  refine⟨g1,?_⟩
  rcases h2 with h2 | h2
  ·exact .inl (g2 h2)
  ·rcases g3 with g3 | g3
   ·exact .inl (g2 g3)
   ·exact .inr (g3 k h2)
theorem Aao {D:Nat} {E:Int→Int→Prop} {es:List (Int × Int)} (hE:∀ a b,E a b↔(a,b)∈es) (hes:∀ e∈es,InD D e.1∧InD D e.2) :
  (∀ a,InD D a→InD D (nth (Ej es D (B6 D)) a)∧Conn E a (nth (Ej es D (B6 D)) a))∧∀ a b,InD D a→InD D b→Conn E a b→nth (Ej es D (B6 D)) a=nth (Ej es D (B6 D)) b:=by
 obtain ⟨h1,h2⟩:=U8 hE hes D
 have hg:∀ a,InD D a→Jq D E (Ej es D (B6 D)) a:=by
  rcases h2 with h2 | h2
  ·exact h2
  ·intro a ha
   refine Classical.byContradiction fun hn=>?_
   obtain ⟨q,hq,hk⟩:=h2
   have hle:=List.countP_le_length (p:=fun _:Nat=>true) (l:=List.range D)
   have hlt:=Lf (p:=q) (q:=fun _=>true) (l:=List.range D) (fun _ _ _=>rfl) ⟨a.toNat,by simpa using ha.2,rfl,by
    have:¬ q a.toNat=true:=fun h=>hn (by have:=(hq _).1 h;rwa [Int.toNat_of_nonneg ha.1]at this)
    simpa using this⟩
   rw[List.length_range]at hle
   omega
 generalize Ej es D (B6 D)=l at *
 refine⟨fun a ha=>⟨(h1.own a ha).1,(h1.own a ha).2.2⟩,fun a b ha hb hab=>?_⟩
 have k1:=hg a ha _ (h1.own b hb).1 (hab.trans (h1.own b hb).2.2)
 have k2:=hg b hb _ (h1.own a ha).1 (hab.symm.trans (h1.own a ha).2.2)
 omega
def B7 (s:List Int × List Int) (e:Int × Int):List Int × List Int :=
 let m:=if inB s.1 e.1=true∧inB s.2 e.2=false then s.2++[e.2] else s.2
 (if inB m e.2=true∧inB s.1 e.1=false then s.1++[e.1] else s.1,m)
def Bv (ab:List (Int × Int)) (s:List Int × List Int):List Int × List Int:=ab.foldl B7 s
def Bz (ab:List (Int × Int)) (k:Nat) (s:List Int × List Int):List Int × List Int:=(List.range k).foldl (fun s _=>Bv ab s) s
def wayJ (ab:List (Int × Int)) (part mesh:Int):Bool:=inB (Bz ab (2 * ab.length+1) ([part],[])).2 mesh
theorem in_iff {l:List Int} {x:Int}:inB l x=true↔x∈l:=by
 simp[inB]
theorem Aip {l:List Int} {x y:Int}:inB (l++[y]) x=true↔inB l x=true∨x=y:=by
 rw[in_iff,in_iff];simp
theorem Qh (s:List Int × List Int) (e:Int × Int):(∀ x,inB s.1 x=true→inB (B7 s e).1 x=true)∧(∀ y,inB s.2 y=true→inB (B7 s e).2 y=true) ∧
  (inB s.1 e.1=true→inB (B7 s e).2 e.2=true)∧(inB s.2 e.2=true→inB (B7 s e).1 e.1=true) ∧
  (∀ x,inB (B7 s e).1 x=true→inB s.1 x=true∨(x=e.1∧inB s.2 e.2=true))∧(∀ y,inB (B7 s e).2 y=true→inB s.2 y=true∨(y=e.2∧inB s.1 e.1=true)):=by
 unfold B7
 dsimp only
 cases h1:inB s.1 e.1<;>cases h2:inB s.2 e.2<;>simp[h1,h2,Aip]<;>grind
theorem J6:∀ (ab:List (Int × Int)) (s:List Int × List Int),(∀ x,inB s.1 x=true→inB (Bv ab s).1 x=true)∧(∀ y,inB s.2 y=true→inB (Bv ab s).2 y=true) ∧
  ∀ e∈ab,(inB s.1 e.1=true→inB (Bv ab s).2 e.2=true)∧(inB s.2 e.2=true→inB (Bv ab s).1 e.1=true)
 | [],s=>⟨fun _ h=>h,fun _ h=>h,fun e he=>(by cases he)⟩
 | x::ab,s=>by
  obtain ⟨a1,a2,a3,a4,_,_⟩:=Qh s x
  obtain ⟨b1,b2,b3⟩:=J6 ab (B7 s x)
  rw[Bv,List.foldl_cons]
  refine⟨fun y h=>b1 y (a1 y h),fun y h=>b2 y (a2 y h),fun e he=>?_⟩
  rcases List.mem_cons.1 he with rfl | he
  ·exact⟨fun h=>b2 _ (a3 h),fun h=>b1 _ (a4 h)⟩
  ·exact⟨fun h=>(b3 e he).1 (a1 _ h),fun h=>(b3 e he).2 (a2 _ h)⟩
def Ab5 (ab:List (Int × Int)) (s:List Int × List Int):Prop:=∀ e∈ab,(inB s.1 e.1=true↔inB s.2 e.2=true)
theorem L6 {ab:List (Int × Int)} {s:List Int × List Int}:∀ (l:List (Int × Int)),(∀ e∈l,(inB s.1 e.1=true↔inB s.2 e.2=true))→Bv l s=s
 | [],_=>rfl
 | e::l,h=>by
  have he:=h e qe
  have:B7 s e=s:=by
   unfold B7
   dsimp only
   cases h1:inB s.1 e.1<;>cases h2:inB s.2 e.2<;>simp[h1,h2]at he ⊢
  rw[Bv,List.foldl_cons,this]
  exact L6 (ab:=ab) l (fun e he=>h e (by simp[he]))
def Anr (ab:List (Int × Int)) (s:List Int × List Int):Nat:=(List.range ab.length).countP (fun i:Nat=>inB s.1 (nth (ab.map (·.1)) (i:Int)))+(List.range ab.length).countP (fun i:Nat=>inB s.2 (nth (ab.map (·.2)) (i:Int)))
theorem Ahe {ab:List (Int × Int)} {s:List Int × List Int} (h:¬ Ab5 ab s):Anr ab s<Anr ab (Bv ab s):=by
 obtain ⟨b1,b2,b3⟩:=J6 ab s
 have hn1:∀ i (hi:i<ab.length),nth (ab.map (·.1)) (i:Int)=(ab[i]).1:=fun i hi=>by rw[Ar (by simpa using hi)];simp
 have hn2:∀ i (hi:i<ab.length),nth (ab.map (·.2)) (i:Int)=(ab[i]).2:=fun i hi=>by rw[Ar (by simpa using hi)];simp
 have m1:(List.range ab.length).countP (fun i:Nat=>inB s.1 (nth (ab.map (·.1)) (i:Int)))≤(List.range ab.length).countP (fun i:Nat=>inB (Bv ab s).1 (nth (ab.map (·.1)) (i:Int))):=List.countP_mono_left (fun x _=>b1 _)
 have m2:(List.range ab.length).countP (fun i:Nat=>inB s.2 (nth (ab.map (·.2)) (i:Int)))≤(List.range ab.length).countP (fun i:Nat=>inB (Bv ab s).2 (nth (ab.map (·.2)) (i:Int))):=List.countP_mono_left (fun x _=>b2 _)
 unfold Anr
 have:∃ e∈ab,(inB s.1 e.1=true∧inB s.2 e.2=false)∨(inB s.1 e.1=false∧inB s.2 e.2=true):=by
  refine Classical.byContradiction fun hno=>h fun e he=>?_
  cases h1:inB s.1 e.1<;>cases h2:inB s.2 e.2
  ·simp
  ·exact absurd ⟨e,he,.inr ⟨h1,h2⟩⟩ hno
  ·exact absurd ⟨e,he,.inl ⟨h1,h2⟩⟩ hno
  ·simp
 obtain ⟨e,he,hc⟩:=this
 obtain ⟨i,hi,rfl⟩:=List.getElem_of_mem he
 obtain ⟨c1,c2⟩:=b3 _ he
 rcases hc with ⟨d1,d2⟩ | ⟨d1,d2⟩
 ·have:=Lf (p:=fun i:Nat=>inB s.2 (nth (ab.map (·.2)) (i:Int))) (q:=fun i:Nat=>inB (Bv ab s).2 (nth (ab.map (·.2)) (i:Int))) (l:=List.range ab.length) (fun x _=>b2 _) ⟨i,by simpa using hi,by rw[hn2 i hi];exact c1 d1,by rw[hn2 i hi];exact d2⟩
  omega
 ·have:=Lf (p:=fun i:Nat=>inB s.1 (nth (ab.map (·.1)) (i:Int))) (q:=fun i:Nat=>inB (Bv ab s).1 (nth (ab.map (·.1)) (i:Int))) (l:=List.range ab.length) (fun x _=>b1 _) ⟨i,by simpa using hi,by rw[hn1 i hi];exact c2 d2,by rw[hn1 i hi];exact d1⟩
  omega
theorem Ey (ab:List (Int × Int)) (k:Nat) (s:List Int × List Int):Bz ab (k+1) s=Bv ab (Bz ab k s):=by
 rw[Bz,List.range_succ,List.foldl_append];rfl
theorem K6 (ab:List (Int × Int)) (s:List Int × List Int):∀ k,Ab5 ab (Bz ab k s)∨k≤Anr ab (Bz ab k s)
 | 0=>.inr (Nat.zero_le _)
 | k+1=>by
  rw[Ey]
  rcases K6 ab s k with h | h
  ·rw[L6 (ab:=ab) ab h];exact .inl h
  ·by_cases hc:Ab5 ab (Bz ab k s)
   ·rw[L6 (ab:=ab) ab hc];exact .inl hc
   ·have:=Ahe hc
    exact .inr z_
theorem Yj (ab:List (Int × Int)) (s:List Int × List Int):Ab5 ab (Bz ab (2 * ab.length+1) s):=by
 rcases K6 ab s (2 * ab.length+1) with h | h
 ·exact h
 ·unfold Anr at h
  have h1:=List.countP_le_length (p:=fun i:Nat=>inB (Bz ab (2 * ab.length+1) s).1 (nth (ab.map (·.1)) (i:Int))) (l:=List.range ab.length)
  have h2:=List.countP_le_length (p:=fun i:Nat=>inB (Bz ab (2 * ab.length+1) s).2 (nth (ab.map (·.2)) (i:Int))) (l:=List.range ab.length)
  rw[List.length_range]at h1 h2
  omega
theorem Jr {ab:List (Int × Int)} {SP SM:Int→Prop} (h:∀ e∈ab,(SP e.1↔SM e.2)) (s:List Int × List Int) (h1:∀ x,inB s.1 x=true→SP x) (h2:∀ y,inB s.2 y=true→SM y):∀ k,(∀ x,inB (Bz ab k s).1 x=true→SP x)∧(∀ y,inB (Bz ab k s).2 y=true→SM y)
 | 0=>⟨h1,h2⟩
 | k+1=>by
  have round:∀ (l:List (Int × Int)) (s:List Int × List Int),(∀ e∈l,(SP e.1↔SM e.2))→(∀ x,inB s.1 x=true→SP x)→(∀ y,inB s.2 y=true→SM y)→(∀ x,inB (Bv l s).1 x=true→SP x)∧(∀ y,inB (Bv l s).2 y=true→SM y):=by
   intro l
   induction l with
   | nil=>intro s _ h1 h2;exact⟨h1,h2⟩
   | cons e l ih =>
    intro s h h1 h2
    obtain ⟨_,_,_,_,a5,a6⟩:=Qh s e
    have he:=h e qe
    rw[Bv,List.foldl_cons]
    refine ih (B7 s e) (fun e he=>h e (by simp[he])) (fun x hx=>?_) (fun y hy=>?_)
    ·rcases a5 x hx with k | ⟨rfl,k⟩
     ·exact h1 x k
     ·exact he.2 (h2 _ k)
    ·rcases a6 y hy with k | ⟨rfl,k⟩
     ·exact h2 y k
     ·exact he.1 (h1 _ k)
  rw[Ey]
  obtain ⟨i1,i2⟩:=Jr h s h1 h2 k
  exact round ab _ h i1 i2
theorem Md (ab:List (Int × Int)) (s:List Int × List Int):∀ k,(∀ x,inB s.1 x=true→inB (Bz ab k s).1 x=true)
 | 0=>fun _ h=>h
 | k+1=>fun x h=>by
  rw[Ey]
  exact(J6 ab _).1 x (Md ab s k x h)
end Go.Sy.YtjenpnjajjplkaaGreatDoor
namespace Go.Sy.YtjenpnjajjplkaaGreatDoor
open Go.Proofs
attribute [local irreducible] Go.Sy.G Go.Sy.DR
set_option maxRecDepth 100000
set_option maxHeartbeats 4000000
theorem Aim:∀ (l:List Int) (m:Int),E9 m l=m∨E9 m l∈l
 | [],_=>.inl rfl
 | x::l,m=>by
  rw[E9]
  rcases Aim l (min m x) with h | h
  ·rw[h,Int.min_def]
   split
   ·exact .inl Y
   ·exact .inr qe
  ·exact .inr (by simp[h])
theorem Ail {l:List Int} (h:l≠[]):Yy l∈l:=by
 match l,h with
 | x::l,_ =>
  show E9 (nth (x::l) 0) l∈x::l
  rw[show nth (x::l) 0=x from rfl]
  rcases Aim l x with h | h
  ·rw[h];simp
  ·simp[h]
theorem loopS (n:Net) (hn:n.Fin):Sy.Spec Tryz.prog 24 [Aj n] [] (.tup [Aa (loopT n).1,Ab (loopT n).2]) []:=cT F24 Tryz.ntmps24 fun F hF=>by
 have qn:=Cr n hn
 have hT:=loopT.eq_1 n
 generalize loopT n=res at *
 cases hr:Ai n with
 | false =>
  rw[hr]at qn
  rw[hr,if_pos rfl]at hT
  subst hT
  refine T ?_
  refine C qn F25 ?_
  refine T ?_
  exact D
 | true =>
 rw[hr]at qn
 rw[hr,if_neg qe]at hT
 obtain ⟨_,_,_,hmany,_⟩:=Aen hr
 obtain ⟨fa1,fa2⟩:=Dt (2 * n.domains.length)
 have fl:=Abc hr fa1 z_
 have q1:=aloneS (2 * n.domains.length) z_
 rw[show ((2 * n.domains.length:Nat):Int)=2 * (n.domains.length:Int) from by omega]at q1
 have q2:=Aps n (B6 (2 * n.domains.length)) hn hr fa1 z_ z_
 refine T ?_
 refine C qn F25 ?_
 refine A4 1 8 (Aj n) Y Y Y ?_
 refine T ?_
 refine X (Ag [(900,700)] Y F65 q1 Y W Y V) ?_
 refine T ?_
 refine X (Ag [(900,700)] Y F66 q2 Y W Y V) ?_
 refine T ?_
 refine At (fun x:Nat × List Int=>x.1≤n.domains.length∧B2 x.2∧x.2.length=2 * n.domains.length∧res=Oc n x.2 x.1 (n.domains.drop x.1)) (fun x=>[(1,.ref 8 (Aj n) 0),(4,Aa n.domains.length),(5,.osl 1000),(22,.sl 6 Al n.domains),(23,Aa n.domains.length),(24,Aa x.1)])
  (fun x=>[(1000,.row 1 Aa x.2)]) (fun x=>n.domains.length-x.1) (0,Kw n (B6 (2 * n.domains.length))) [(1000,700)] ⟨by omega,fl.1,by dsimp only;rw[fl.2,fa2],hT⟩ U ?_
 rintro ⟨i,f⟩ ⟨h1,h2,h3,hI⟩
 dsimp only at h1 h2 h3 hI ⊢
 refine T ?_
 refine⟨fun h=>?_,fun h=>?_⟩
 ·have hlt:i<n.domains.length:=qA h
  have hi0:((i:Nat):Int).toNat<n.domains.length:=hlt
  clear h
  rw[List.drop_eq_getElem_cons hlt,Oc]at hI
  have hpl:n.domains[((i:Nat):Int).toNat].peers.length<2147483648:=hn.peers _ (List.getElem_mem hi0)
  refine T ?_
  refine⟨fun h=>?_,fun h=>?_⟩
  ·have hpe:n.domains[i].peers=[]:=List.eq_nil_of_length_eq_zero (by have:=eq_of_beq h;have e:(n.domains[((i:Nat):Int).toNat]'hi0).peers.length=n.domains[i].peers.length:=rfl;omega)
   clear h
   rw[if_pos hpe]at hI
   refine T ?_
   exact Ad (i+1,f) [] ⟨hlt,h2,h3,hI⟩ (by dsimp only;omega) ⟨⟨Y,Y,Y,Y,Y,Y,Y,Y,Y,Y,Y,Y,q_⟩,⟨.inl Y,Y,q_⟩,Y,Y⟩
  have hpe:n.domains[i].peers≠[]:=fun e=>by
   have e2:(n.domains[((i:Nat):Int).toNat]'hi0).peers=[]:=e
   rw[e2]at h
   cases h
  clear h
  rw[if_neg hpe]at hI
  dsimp only at hI
  have hpm:=Ahr hr hlt (Ail hpe)
  have qm:=Aje (n.domains[((i:Nat):Int).toNat]'hi0).peers (by have:=List.length_pos_iff.2 hpe;exact this) hpl
  obtain ⟨m,hm⟩:∃ m,Yy (n.domains[((i:Nat):Int).toNat]'hi0).peers=m:=⟨_,rfl⟩
  have hm':Yy n.domains[i].peers=m:=hm
  have emin:min (i:Int) m=if m<(i:Int) then m else (i:Int):=by rw[Int.min_def];split<;>split<;>omega
  rw[hm]at qm
  rw[hm']at hI hpm
  rw[emin]at hI
  have hmb:0≤(if m<(i:Int) then m else (i:Int))∧(if m<(i:Int) then m else (i:Int))<n.domains.length:=by split<;>omega
  have q3:=Aqm f i ((n.domains.length:Int)+(if m<(i:Int) then m else (i:Int))) h2 ⟨by omega,by omega⟩ ⟨by omega,by omega⟩ z_
  have q3f:=Sa h2 (⟨by omega,by omega⟩:0≤(i:Int)∧(i:Int).toNat<f.length) (⟨by omega,by omega⟩:0≤(n.domains.length:Int)+(if m<(i:Int) then m else (i:Int))∧((n.domains.length:Int)+(if m<(i:Int) then m else (i:Int))).toNat<f.length)
  have hb48:(n.domains.length:Int)+(if m<(i:Int) then m else (i:Int))<100:=by omega
  generalize (Is f i ((n.domains.length:Int)+(if m<(i:Int) then m else (i:Int))))=r at *
  obtain ⟨g,ok⟩:=r
  dsimp only at hI q3f
  refine T ?_
  refine C qm F67 ?_
  refine T ?_
  refine X (X1 Y Y Y) ?_
  refine T ?_
  refine X (Ag [(900,1000)] Y F68 q3 Y W Y V) ?_
  cases ok with
  | false =>
   rw[if_pos rfl]at hI
   rw[hI]
   refine T ?_
   exact D
  | true =>
   rw[if_neg y_]at hI
   refine T ?_
   exact Ad (i+1,g) [] ⟨hlt,q3f.1,by dsimp only;omega,hI⟩ (by dsimp only;omega) ⟨⟨Y,Y,Y,Y,Y,Y,Y,Y,Y,Y,Y,Y,q_⟩,⟨.inl Y,Y,q_⟩,Y,Y⟩
 ·have hie:i=n.domains.length:=qB h
  clear h
  rw[hie,List.drop_length,Oc]at hI
  rw[hI]
  refine T ?_
  exact D
end Go.Sy.YtjenpnjajjplkaaGreatDoor
namespace Go.Sy.YtjenpnjajjplkaaGreatDoor
open Go.Proofs
theorem Aee {α:Type} [Inhabited α] (l:List α) (i:Nat) (h:i<l.length):l[i]=nth l (i:Int):=(Ar (i:=(i:Int)) h).symm
theorem bareB_iff {n:Net} {i:Nat} {d:Domain}:It n i d=true↔Ap d.dev n.devices.length=true∧(1≤d.vlan∧d.vlan≤4094)∧(0≤d.vni∧d.vni≤16777215)∧(d.irb=-1∨Ap d.irb n.irbs.length=true∧(nth n.irbs d.irb).domain=i)∧Dp n d.dev d.vlan=i:=by
 simp only[It,Bool.and_eq_true,Bool.or_eq_true,decide_eq_true_eq,beq_iff_eq]
 constructor
 ·rintro ⟨⟨⟨⟨⟨⟨a,b⟩,c⟩,d⟩,e⟩,f⟩,g⟩
  exact⟨a,⟨b,c⟩,⟨d,e⟩,f,g⟩
 ·rintro ⟨a,⟨b,c⟩,⟨d,e⟩,f,g⟩
  exact⟨⟨⟨⟨⟨⟨a,b⟩,c⟩,d⟩,e⟩,f⟩,g⟩
theorem Ann {α:Type} [Inhabited α] {p:α→Bool} {l:List α} (h:0≤Dh p l):(Dh p l).toNat<l.length∧p (nth l (Dh p l))=true:=by
 cases hf:l.findIdx? p with
 | none=>simp only[Dh,hf]at h;omega
 | some i =>
  have e:Dh p l=i:=by simp only[Dh,hf]
  rw[List.findIdx?_eq_some_iff_getElem]at hf
  obtain ⟨h1,h2,_⟩:=hf
  rw[e,Int.toNat_natCast]
  refine⟨h1,?_⟩
  rw[← Aee l i h1];exact h2
def crossedL (n:Net) (i:Int):List Int:=(E0 n i).filterMap (fun p=>if (linkDomT n p (nth n.domains i).vlan).2=true then some (linkDomT n p (nth n.domains i).vlan).1 else none)
def L1 (n:Net):List (Int × Int):=(List.range n.domains.length).flatMap (fun i:Nat=>(crossedL n (i:Int)).map (fun b=>((i:Int),b)))
def Un (n:Net):List Int:=Ej (L1 n) n.domains.length (B6 n.domains.length)
def Mj (n:Net) (a b:Int):Prop:=∃ p:Nat,p<n.ports.length∧∃ v∈(nth n.ports (p:Int)).tagged++[(nth n.ports (p:Int)).native],(linkDomT n (p:Int) v).2=true∧a=Dp n (nth n.ports (p:Int)).dev v∧b=(linkDomT n (p:Int) v).1
theorem Te {n:Net} (hr:Ai n=true) {a b:Int} (h:Mj n a b):InD n.domains.length a∧InD n.domains.length b:=by
 obtain ⟨p,hp,v,hv,h1,rfl,rfl⟩:=h
 have e:nth n.ports (p:Int)=n.ports[p]:=Ar (l:=n.ports) (i:=((p:Nat):Int)) hp
 have hm:=Ij h1 hp
 rw[e]
 exact⟨Lb hr hp hm,Jf h1⟩
theorem Abh {n:Net} (hr:Ai n=true) {f:List Int} {E:Int→Int→Prop} (hl:n.domains.length≤f.length) (h:Joins f E):Joins (Kw n f) (fun a b=>E a b∨Mj n a b)∧(Kw n f).length=f.length:=by
 obtain ⟨h1,h2⟩:=Q9 (g:=E1 n) (K:=f.length) (R:=fun (p:Nat) a b=>∃ v∈(nth n.ports (p:Int)).tagged++[(nth n.ports (p:Int)).native],(linkDomT n (p:Int) v).2=true∧a=Dp n (nth n.ports (p:Int)).dev v∧b=(linkDomT n (p:Int) v).1)
  (List.range n.ports.length) (fun p hp f' E' hf' hJ=>by
   have hp:p<n.ports.length:=by simpa using hp
   have e:nth n.ports (p:Int)=n.ports[p]:=Ar (l:=n.ports) (i:=((p:Nat):Int)) hp
   refine Q9 (g:=fun f v=>Dd n f (p:Int) v) (R:=fun v a b=>(linkDomT n (p:Int) v).2=true∧a=Dp n (nth n.ports (p:Int)).dev v∧b=(linkDomT n (p:Int) v).1) _ (fun v _ f2 E2 hf2 hJ2=>?_) hf' hJ
   unfold Dd
   cases hok:(linkDomT n (p:Int) v).2
   ·rw[if_neg qe]
    exact⟨hJ2.congr (fun a b=>by simp),hf2⟩
   ·rw[if_pos rfl]
    have hin:=Te hr (n:=n) (a:=Dp n (nth n.ports (p:Int)).dev v) (b:=(linkDomT n (p:Int) v).1)
    have hm:=Ij hok hp
    have d1:=Lb hr hp hm
    have d2:=Jf hok
    rw[e]
    obtain ⟨j1,j2,_⟩:=Xs hJ2 (a:=Dp n n.ports[p].dev v) (b:=(linkDomT n (p:Int) v).1) ⟨d1.1,by omega⟩ ⟨d2.1,by omega⟩
    exact⟨j1.congr (fun a b=>by simp),by omega⟩) Y h
 exact⟨h1.congr (fun a b=>by simp[Mj]),h2⟩
theorem Uu {n:Net} (hr:Ai n=true) (a b:Int):Mj n a b↔(a,b)∈L1 n:=by
 unfold L1 crossedL
 simp only[List.mem_flatMap,List.mem_range,List.mem_map,List.mem_filterMap,Prod.mk.injEq]
 constructor
 ·rintro ⟨p,hp,v,hv,h1,rfl,rfl⟩
  have e:nth n.ports (p:Int)=n.ports[p]:=Ar (l:=n.ports) (i:=((p:Nat):Int)) hp
  have hm:=Ij h1 hp
  obtain ⟨d1,d2⟩:=Lb hr hp hm
  rw[e]
  have h0:Dp n n.ports[p].dev v=Dh (fun d:Domain=>d.dev == n.ports[p].dev && d.vlan == v) n.domains:=rfl
  have hat:=(Ann (p:=fun d:Domain=>d.dev == n.ports[p].dev && d.vlan == v) (by rw[← h0];exact d1)).2
  rw[← h0]at hat
  simp only[Bool.and_eq_true,beq_iff_eq]at hat
  have hcast:(((Dp n n.ports[p].dev v).toNat:Nat):Int)=Dp n n.ports[p].dev v:=Int.toNat_of_nonneg d1
  refine⟨(Dp n n.ports[p].dev v).toNat,d2,(linkDomT n (p:Int) v).1,?_,hcast,Y⟩
  rw[hcast]
  refine⟨(p:Int),?_,?_⟩
  ·rw[E0,if_pos ⟨⟨d1,by omega⟩,hr⟩,M9,Z4]
   refine⟨by omega,by omega,?_⟩
   rw[Int.toNat_natCast]
   unfold Qr
   rw[e,hat.1,hat.2,hm]
   simp
  ·rw[hat.2,if_pos h1]
 ·rintro ⟨i,hi,b',⟨p,hp,hx⟩,rfl,rfl⟩
  rw[E0]at hp
  split at hp
  ·rw[M9,Z4]at hp
   obtain ⟨p0,p1,p2⟩:=hp
   have hk:p.toNat<n.ports.length:=by omega
   have e:nth n.ports ((p.toNat:Nat):Int)=n.ports[p.toNat]:=Ar (l:=n.ports) (i:=((p.toNat:Nat):Int)) hk
   have hc:((p.toNat:Nat):Int)=p:=Int.toNat_of_nonneg p0
   have hd:nth n.domains (i:Int)=n.domains[i]:=Ar (l:=n.domains) (i:=((i:Nat):Int)) hi
   unfold Qr at p2
   simp only[Bool.and_eq_true,beq_iff_eq]at p2
   split at hx
   ·rename_i hok
    cases hx
    refine⟨p.toNat,hk,(nth n.domains (i:Int)).vlan,?_,by rw[hc];exact hok,?_,by rw[hc]⟩
    ·have hm:=p2.2
     simp only[C6,Bool.and_eq_true,Bool.or_eq_true,beq_iff_eq]at hm
     rcases hm.2 with h | h
     ·rw[h];simp
     ·exact List.mem_append.2 (.inl (in_iff.1 h))
    ·rw[p2.1,hd]
     exact((bareB_iff.1 (e_dom hr hi)).2.2.2.2).symm
   ·cases hx
  ·cases hp
theorem Ads:∀ (l:List Int) (m x:Int),E9 (min m x) l=min m (E9 x l)
 | [],_,_=>rfl
 | y::l,m,x=>by
  rw[E9,E9,← Ads l m (min x y),Int.min_assoc]
theorem Apm {l:List Int} (h:l≠[]) (m:Int):E9 m l=min m (Yy l):=by
 match l,h with
 | x::l,_=>exact Ads l m x
def U9 (part:List Int):List (Int × Int)→Nat→List Domain→Int × Bool
 | _,_,[]=>(0,false)
 | ab,i,d::r=>if d.peers=[] then U9 part ab (i+1) r else
  if wayJ ab (nth part (i:Int)) (E9 (i:Int) d.peers)=true then (d.row,true) else U9 part (ab++[(nth part (i:Int),E9 (i:Int) d.peers)]) (i+1) r
theorem way_is {n:Net} (hr:Ai n=true) {part:List Int} (P1:∀ a,InD n.domains.length a→InD n.domains.length (nth part a)∧Conn (Mj n) a (nth part a)) (P2:∀ a b,InD n.domains.length a→InD n.domains.length b→Conn (Mj n) a b→nth part a=nth part b)
  {E:Int→Int→Prop} {es:List (Int × Int)} (hE:∀ a b,E a b↔Mj n a b∨∃ e∈es,a=e.1∧b=(n.domains.length:Int)+e.2) (hes:∀ e∈es,InD n.domains.length e.1∧InD n.domains.length e.2) {i m:Int} (hi:InD n.domains.length i) (hm:InD n.domains.length m) :
  wayJ (es.map (fun e=>(nth part e.1,e.2))) (nth part i) m=true↔Conn E i ((n.domains.length:Int)+m):=by
 have hL:∀ {a b},Conn (Mj n) a b→Conn E a b:=fun h=>h.mono (fun a b h=>(hE a b).2 (.inl h))
 have hM:∀ e∈es,Conn E e.1 ((n.domains.length:Int)+e.2):=fun e he=>.edge ((hE _ _).2 (.inr ⟨e,he,rfl,rfl⟩))
 unfold wayJ
 constructor
 ·intro h
  have:=(Jr (ab:=es.map (fun e=>(nth part e.1,e.2))) (SP:=fun x=>Conn E i x) (SM:=fun y=>Conn E i ((n.domains.length:Int)+y)) (fun e he=>by
   obtain ⟨x,hx,rfl⟩:=List.mem_map.1 he
   have c1:=(hL (P1 x.1 (hes x hx).1).2).symm.trans (hM x hx)
   exact⟨fun h=>h.trans c1,fun h=>h.trans c1.symm⟩) ([nth part i],[]) (fun x hx=>by
    have:x=nth part i:=by
     have h2:nth part i=x:=by simpa [inB] using hx
     exact h2.symm
    rw[this]
    exact hL (P1 i hi).2) (fun y hy=>by cases hy) (2 * (es.map (fun e=>(nth part e.1,e.2))).length+1)).2 m h
  exact this
 ·intro h
  have hcl:=Yj (es.map (fun e=>(nth part e.1,e.2))) ([nth part i],[])
  have hst:=Md (es.map (fun e=>(nth part e.1,e.2))) ([nth part i],[]) (2 * (es.map (fun e=>(nth part e.1,e.2))).length+1)
  have hge:=(Jr (ab:=es.map (fun e=>(nth part e.1,e.2))) (SP:=fun _=>True) (SM:=fun y=>True∧0≤y) (fun e he=>by
   obtain ⟨x,hx,rfl⟩:=List.mem_map.1 he
   exact⟨fun _=>⟨trivial,(hes x hx).2.1⟩,fun _=>trivial⟩) ([nth part i],[]) (fun _ _=>trivial) (fun y hy=>by cases hy) (2 * (es.map (fun e=>(nth part e.1,e.2))).length+1)).2
  generalize Bz (es.map (fun e=>(nth part e.1,e.2))) (2 * (es.map (fun e=>(nth part e.1,e.2))).length+1) ([nth part i],[])=s at *
  have hz:=Conn.keeps (Z:=fun z=>(InD n.domains.length z∧inB s.1 (nth part z)=true)∨∃ y,inB s.2 y=true∧z=(n.domains.length:Int)+y) (fun a b hab=>by
   rcases (hE a b).1 hab with hl | ⟨e,he,rfl,rfl⟩
   ·obtain ⟨da,db⟩:=Te hr hl
    have hp:=P2 a b da db (.edge hl)
    constructor
    ·rintro (⟨_,h1⟩ | ⟨y,h1,rfl⟩)
     ·exact .inl ⟨db,by rw[← hp];exact h1⟩
     ·have:=(hge y h1).2;have:=da.2;omega
    ·rintro (⟨_,h1⟩ | ⟨y,h1,rfl⟩)
     ·exact .inl ⟨da,by rw[hp];exact h1⟩
     ·have:=(hge y h1).2;have:=db.2;omega
   ·obtain ⟨d1,d2⟩:=hes e he
    have hc:=hcl (nth part e.1,e.2) (List.mem_map.2 ⟨e,he,rfl⟩)
    constructor
    ·rintro (⟨_,h1⟩ | ⟨y,h1,h2⟩)
     ·exact .inr ⟨e.2,hc.1 h1,Y⟩
     ·have:=(hge y h1).2;have:=d1.1;have:=d1.2;omega
    ·rintro (⟨h1,_⟩ | ⟨y,h1,h2⟩)
     ·have:=h1.2;have:=d2.1;omega
     ·have:y=e.2:=by omega
      rw[this]at h1
      exact .inl ⟨d1,hc.2 h1⟩) h
  rcases hz.1 (.inl ⟨hi,hst _ (by simp[inB])⟩) with ⟨h1,_⟩ | ⟨y,h1,h2⟩
  ·have:=h1.2;have:=hm.1;omega
  ·have:m=y:=by omega
   rw[this];exact h1
theorem Wy {n:Net} (hr:Ai n=true) {part:List Int} (P1:∀ a,InD n.domains.length a→InD n.domains.length (nth part a)∧Conn (Mj n) a (nth part a)) (P2:∀ a b,InD n.domains.length a→InD n.domains.length b→Conn (Mj n) a b→nth part a=nth part b) :
  ∀ (r:List Domain) (i:Nat) (f:List Int) (E:Int→Int→Prop) (es:List (Int × Int)),n.domains.drop i=r→Joins f E→f.length=2 * n.domains.length →
   (∀ a b,E a b↔Mj n a b∨∃ e∈es,a=e.1∧b=(n.domains.length:Int)+e.2)→(∀ e∈es,InD n.domains.length e.1∧InD n.domains.length e.2) →
   U9 part (es.map (fun e=>(nth part e.1,e.2))) i r=Oc n f i r
 | [],_,_,_,_,_,_,_,_,_=>rfl
 | d::r,i,f,E,es,hd,hJ,hf,hE,hes=>by
  have hi:i<n.domains.length:=by
   have:(n.domains.drop i).length=(d::r).length:=by rw[hd]
   rw[List.length_drop,List.length_cons]at this
   omega
  rw[List.drop_eq_getElem_cons hi]at hd
  obtain ⟨hd1,hd2⟩:=List.cons.inj hd
  rw[U9,Oc]
  by_cases hp:d.peers=[]
  ·rw[if_pos hp,if_pos hp]
   exact Wy hr P1 P2 r (i+1) f E es hd2 hJ hf hE hes
  ·rw[if_neg hp,if_neg hp]
   dsimp only
   have hmin:=Apm hp (i:Int)
   have hpm:=Ahr hr hi (p:=Yy d.peers) (by rw[hd1];exact Ail hp)
   have him:InD n.domains.length (E9 (i:Int) d.peers):=by
    rw[hmin,Int.min_def]
    split
    ·exact⟨by omega,by omega⟩
    ·exact hpm
   have hii:InD n.domains.length (i:Int):=⟨by omega,by omega⟩
   have hw:=way_is hr P1 P2 hE hes hii him
   rw[← hmin]
   obtain ⟨j1,j2,j3⟩:=Xs hJ (a:=(i:Int)) (b:=(n.domains.length:Int)+E9 (i:Int) d.peers) ⟨by omega,by omega⟩ ⟨by have:=him.1;omega,by have:=him.1;have:=him.2;omega⟩
   by_cases hc:Conn E (i:Int) ((n.domains.length:Int)+E9 (i:Int) d.peers)
   ·rw[if_pos (hw.2 hc),if_pos (j3.2 hc)]
   ·rw[if_neg (fun h=>hc (hw.1 h)),if_neg (fun h=>hc (j3.1 h))]
    have:=Wy hr P1 P2 r (i+1) (Is f (i:Int) ((n.domains.length:Int)+E9 (i:Int) d.peers)).1 _ (es++[((i:Int),E9 (i:Int) d.peers)]) hd2 j1 z_ (fun a b=>by
     rw[hE a b]
     simp only[List.mem_append,List.mem_singleton]
     constructor
     ·rintro ((h | ⟨e,he,h⟩) | ⟨rfl,rfl⟩)
      ·exact .inl h
      ·exact .inr ⟨e,.inl he,h⟩
      ·exact .inr ⟨_,.inr Y,Y,Y⟩
     ·rintro (h | ⟨e,he | rfl,h⟩)
      ·exact .inl (.inl h)
      ·exact .inl (.inr ⟨e,he,h⟩)
      ·exact .inr h) (fun e he=>by
     rcases List.mem_append.1 he with he | he
     ·exact hes e he
     ·rw[List.mem_singleton.1 he];exact⟨hii,him⟩)
    rw[List.map_append]at this
    exact this
theorem Af8 {n:Net} (hr:Ai n=true):U9 (Un n) [] 0 n.domains=loopT n:=by
 have hes:∀ e∈L1 n,InD n.domains.length e.1∧InD n.domains.length e.2:=fun e he=>Te hr ((Uu hr e.1 e.2).2 he)
 obtain ⟨P1,P2⟩:=Aao (E:=Mj n) (Uu hr) hes
 obtain ⟨j1,j2⟩:=Abh hr (by rw[(Dt (2 * n.domains.length)).2];omega) (Ad3 (2 * n.domains.length))
 rw[loopT,if_neg (by rw[hr];decide)]
 exact Wy hr P1 P2 n.domains 0 _ _ [] rfl j1 (by rw[j2,(Dt _).2]) (fun a b=>by simp) (fun e he=>by cases he)
end Go.Sy.YtjenpnjajjplkaaGreatDoor
namespace Go.Sy.YtjenpnjajjplkaaGreatDoor
open Go.Proofs
attribute [local irreducible] Go.Sy.G Go.Sy.DR
set_option maxRecDepth 20000
set_option maxHeartbeats 8000000
def ext1 (S:Srch) (k i:Int) (l:List Hop):Srch:=l.foldl (fun S h=>Td S h.domain k h i) S
def ext2 (S:Srch) (i:Int) (l:List Lead):Srch:=l.foldl (fun S q=>Td S q.domain 1 ⟨3,0,q.domain,q.addr⟩ i) S
def Ahm (n:Net) (S:Srch) (i:Int):Srch :=
 if (nth S.list i).kind=0 then ext2 (ext1 S 0 i (Xy n (nth S.list i).domain)) i (Oz n (nth S.list i).domain) else ext1 S 1 i (Xy n (nth S.list i).domain)
theorem Srch.OK.ext1 {n:Net} {k i:Int} (hk:k=0∨k=1):∀ {l:List Hop} {S:Srch},S.OK n→(∀ h∈l,0≤h.domain∧h.domain.toNat<n.domains.length)→(ext1 S k i l).OK n
 | [],S,h,_=>h
 | x::l,S,h,hl=>Srch.OK.ext1 hk (l:=l) (h.meet (hl x qe) hk x i) (fun y hy=>hl y (by simp[hy]))
theorem Srch.OK.ext2 {n:Net} {i:Int}:∀ {l:List Lead} {S:Srch},S.OK n→(∀ h∈l,0≤h.domain∧h.domain.toNat<n.domains.length)→(ext2 S i l).OK n
 | [],S,h,_=>h
 | x::l,S,h,hl=>Srch.OK.ext2 (l:=l) (h.meet (hl x qe) (.inr rfl) _ i) (fun y hy=>hl y (by simp[hy]))
theorem Srch.OK.ext {n:Net} {S:Srch} (h:S.OK n) (i:Int):(Ahm n S i).OK n:=by
 rw[Ahm]
 split
 ·exact(h.ext1 (.inl Y) (fun x hx=>Xx hx)).ext2 (fun x hx=>Wr hx)
 ·exact h.ext1 (.inr Y) (fun x hx=>Xx hx)
def Backs (l:List Fnd):Prop:=∀ i (h:i<l.length),-1≤l[i].ahead∧l[i].ahead<i
theorem Backs.snoc {l:List Fnd} (h:Backs l) {f:Fnd} (hf:-1≤f.ahead∧f.ahead<l.length):Backs (l++[f]):=fun i hi=>by
 by_cases hl:i<l.length
 ·rw[List.getElem_append_left hl]
  exact h i hl
 ·have:i=l.length:=by simp at hi;omega
  subst this
  simpa using hf
theorem Backs.meet {S:Srch} (h:Backs S.list) (d k:Int) (hp:Hop) {a:Int} (ha:-1≤a∧a<S.list.length):Backs (Td S d k hp a).list∧S.list.length≤(Td S d k hp a).list.length:=by
 rw[Td]
 split
 ·exact⟨h,Nat.le_refl _⟩
 ·rw[Adt]
  split
  ·exact⟨h.snoc ha,by simp⟩
  ·exact⟨h.snoc ha,by simp⟩
theorem Backs.ext1 {k i:Int}:∀ {l:List Hop} {S:Srch},Backs S.list→(-1≤i∧i<S.list.length)→Backs (ext1 S k i l).list∧S.list.length≤(ext1 S k i l).list.length
 | [],S,h,_=>⟨h,Nat.le_refl _⟩
 | x::l,S,h,hi=>by
  obtain ⟨h1,h2⟩:=h.meet x.domain k x hi
  obtain ⟨h3,h4⟩:=Backs.ext1 (k:=k) (i:=i) (l:=l) h1 ⟨hi.1,by omega⟩
  exact⟨h3,Nat.le_trans h2 h4⟩
theorem Backs.ext2 {i:Int}:∀ {l:List Lead} {S:Srch},Backs S.list→(-1≤i∧i<S.list.length)→Backs (ext2 S i l).list∧S.list.length≤(ext2 S i l).list.length
 | [],S,h,_=>⟨h,Nat.le_refl _⟩
 | x::l,S,h,hi=>by
  obtain ⟨h1,h2⟩:=h.meet x.domain 1 ⟨3,0,x.domain,x.addr⟩ hi
  obtain ⟨h3,h4⟩:=Backs.ext2 (i:=i) (l:=l) h1 ⟨hi.1,by omega⟩
  exact⟨h3,Nat.le_trans h2 h4⟩
theorem Backs.ext {n:Net} {S:Srch} (h:Backs S.list) {i:Int} (hi:0≤i∧i<S.list.length):Backs (Ahm n S i).list∧S.list.length≤(Ahm n S i).list.length:=by
 rw[Ahm]
 split
 ·obtain ⟨h1,h2⟩:=h.ext1 (k:=0) (i:=i) (l:=Xy n (nth S.list i).domain) ⟨by omega,hi.2⟩
  obtain ⟨h3,h4⟩:=h1.ext2 (i:=i) (l:=Oz n (nth S.list i).domain) ⟨by omega,by omega⟩
  exact⟨h3,Nat.le_trans h2 h4⟩
 ·exact h.ext1 ⟨by omega,hi.2⟩
end Go.Sy.YtjenpnjajjplkaaGreatDoor
namespace Go.Sy.YtjenpnjajjplkaaGreatDoor
open Go.Proofs
def Ae2 (n:Net) (h:Hop):Prop:=(0≤h.domain∧h.domain.toNat<n.domains.length)∧0≤h.addr∧h.addr<4294967296
theorem Ale {n:Net} {irb to e:Int} (he:e<4294967296):∀ {x:Int},0≤x→0≤(addrGo n irb to e x).1∧(addrGo n irb to e x).1<4294967296:=by
 intro x
 induction x using addrGo.induct n irb to e with
 | case1 x h1 h2=>intro h0;rw[addrGo,if_pos h1,if_pos h2];exact⟨h0,by simp only;omega⟩
 | case2 x h1 h2 h3=>intro h0;rw[addrGo,if_pos h1,if_neg h2,if_pos h3];decide
 | case3 x h1 h2 h3 h4 ih=>intro h0;rw[addrGo,if_pos h1,if_neg h2,if_neg h3,if_pos h4];exact ih z_
 | case4 x h1 h2 h3 h4=>intro h0;rw[addrGo,if_pos h1,if_neg h2,if_neg h3,if_neg h4];decide
 | case5 x h1=>intro h0;rw[addrGo,if_neg h1];decide
theorem Aoo {n:Net} (hu:E7 n) (irb to:Int):0≤(Aex n irb to).1∧(Aex n irb to).1<4294967296:=by
 rw[Aex]
 split
 ·rename_i hc
  have hk:to.toNat<n.irbs.length:=by omega
  rw[Ar hk]
  have hui:=hu _ (List.getElem_mem hk)
  exact Ale (Ad1 _ _ hui).2 (Z3 _ _ hui).1
 ·decide
theorem Ad9 {n:Net} {d:Int} {h:Hop} (hh:h∈Xy n d):Ae2 n h:=by
 refine⟨Xx hh,?_⟩
 rw[Xy]at hh
 split at hh
 ·rcases List.mem_append.1 hh with hh | hh
  ·obtain ⟨p,_,hp⟩:=List.mem_filterMap.1 hh
   rw[Abd]at hp
   split at hp
   ·simp only[Option.some.injEq]at hp
    subst hp
    exact⟨by simp,by simp⟩
   ·cases hp
  ·obtain ⟨p,hp,rfl⟩:=List.mem_map.1 hh
   exact⟨by simp[Aa6],by simp[Aa6]⟩
 ·cases hh
theorem Aan {n:Net} (hu:E7 n) {d:Int} {q:Lead} (hq:q∈Oz n d):0≤q.addr∧q.addr<4294967296:=by
 rw[Oz]at hq
 split at hq
 ·obtain ⟨i,hi,hp⟩:=List.mem_filterMap.1 hq
  rw[Ani]at hp
  split at hp
  ·simp only[Option.some.injEq]at hp
   subst hp
   exact Aoo hu _ _
  ·cases hp
 ·cases hq
def HopsOK (n:Net) (l:List Fnd):Prop:=∀ f∈l,Ae2 n f.hop
theorem HopsOK.meet {n:Net} {S:Srch} (h:HopsOK n S.list) (d k:Int) {hp:Hop} (hh:Ae2 n hp) (a:Int):HopsOK n (Td S d k hp a).list:=by
 rw[Td]
 split
 ·exact h
 ·rw[Adt]
  split<;>(intro f hf;rcases List.mem_append.1 hf with hf | hf;exact h f hf;rw[List.mem_singleton]at hf;subst hf;exact hh)
theorem HopsOK.ext1 {n:Net} {k i:Int}:∀ {l:List Hop} {S:Srch},HopsOK n S.list→(∀ h∈l,Ae2 n h)→HopsOK n (ext1 S k i l).list
 | [],S,h,_=>h
 | x::l,S,h,hl=>HopsOK.ext1 (l:=l) (h.meet x.domain k (hl x qe) i) (fun y hy=>hl y (by simp[hy]))
theorem HopsOK.ext2 {n:Net} {i:Int}:∀ {l:List Lead} {S:Srch},HopsOK n S.list→(∀ q∈l,Ae2 n ⟨3,0,q.domain,q.addr⟩)→HopsOK n (ext2 S i l).list
 | [],S,h,_=>h
 | x::l,S,h,hl=>HopsOK.ext2 (l:=l) (h.meet x.domain 1 (hl x qe) i) (fun y hy=>hl y (by simp[hy]))
theorem HopsOK.ext {n:Net} (hu:E7 n) {S:Srch} (h:HopsOK n S.list) (i:Int):HopsOK n (Ahm n S i).list:=by
 rw[Ahm]
 split
 ·exact(h.ext1 (fun x hx=>Ad9 hx)).ext2 (fun q hq=>⟨Wr hq,Aan hu hq⟩)
 ·exact h.ext1 (fun x hx=>Ad9 hx)
end Go.Sy.YtjenpnjajjplkaaGreatDoor
namespace Go.Sy.YtjenpnjajjplkaaGreatDoor
open Go.Proofs
attribute [local irreducible] Go.Sy.G Go.Sy.DR
set_option maxRecDepth 20000
set_option maxHeartbeats 8000000
theorem Alc (a:Nat):Cp a=Be (octN a 0:Nat)++⟨#[46]⟩++Be (octN a 1:Nat)++⟨#[46]⟩++Be (octN a 2:Nat)++⟨#[46]⟩++Be (octN a 3:Nat):=by
 have e:(⟨#[46]⟩:ByteArray)=mkT [46]:=rfl
 rw[Cp,Int.toNat_natCast,Dy,Dy,Dy,Dy,e]
 simp only[Ez]
 simp[Tz]
theorem Aiq (n:Nat) (h:n<1000000000000000000):IntKind.i64.wrap (n:Int)=n:=by rw[IntKind.wrap_i64];omega
theorem Alr (n k:Nat) (h:n<1000000000000000000):IntKind.i64.wrap ((n:Int).tdiv k)=((n / k:Nat):Int):=by
 rw[Int.tdiv_eq_ediv_of_nonneg z_,← Int.natCast_ediv]
 exact Aiq _ (Nat.lt_of_le_of_lt (Nat.div_le_self _ _) h)
theorem Alp (n k:Nat):(n:Int).tmod k=((n % k:Nat):Int):=by
 rw[Int.tmod_eq_emod_of_nonneg z_];omega
theorem Er {n:Nat} (h:n<1000000000000000000):(Be n).size≤19:=Akf ⟨by omega,by omega⟩
theorem Lr (a:Nat) (ha:a<4294967296):Sy.Spec Tryz.prog 418 [A3 a] [] (Ae (Cp a)) []:=cT F418 Tryz.ntmps418 fun F hF=>by
 have d0:=Alr a 16777216 z_
 have d1:=Alr a 65536 z_
 have d2:=Alr a 256 z_
 have m1:=Alp (a / 65536) 256
 have m2:=Alp (a / 256) 256
 have m3:=Alp a 256
 have o0:a / 16777216=octN a 0:=by unfold octN;omega
 have o1:a / 65536 % 256=octN a 1:=by unfold octN;omega
 have o2:a / 256 % 256=octN a 2:=by unfold octN;omega
 have o3:a % 256=octN a 3:=by unfold octN;omega
 have b:∀ j,octN a j<256:=fun j=>by unfold octN;omega
 have q0:=I0 (octN a 0) (by have:=b 0;omega)
 have q1:=I0 (octN a 1) (by have:=b 1;omega)
 have q2:=I0 (octN a 2) (by have:=b 2;omega)
 have q3:=I0 (octN a 3) (by have:=b 3;omega)
 have s0:=Er (n:=octN a 0) (by have:=b 0;omega)
 have s1:=Er (n:=octN a 1) (by have:=b 1;omega)
 have s2:=Er (n:=octN a 2) (by have:=b 2;omega)
 have s3:=Er (n:=octN a 3) (by have:=b 3;omega)
 rw[o0]at d0
 rw[o1]at m1
 rw[o2]at m2
 rw[o3]at m3
 rw[Alc a]
 generalize hz0:octN a 0=z0 at *
 generalize hz1:octN a 1=z1 at *
 generalize hz2:octN a 2=z2 at *
 generalize hz3:octN a 3=z3 at *
 generalize Be (z0:Nat)=t0 at *
 generalize Be (z1:Nat)=t1 at *
 generalize Be (z2:Nat)=t2 at *
 generalize Be (z3:Nat)=t3 at *
 ((conv=>whnf);repeat((first|refine aF ?_|refine aT ?_);(first|refine rG Γ hm ?_|refine rD Γ hm j_ ?_);conv=>whnf))
 rw[Aiq a z_]
 refine⟨by decide,?_⟩
 ((conv=>whnf);repeat((first|refine aF ?_|refine aT ?_);(first|refine rG Γ hm ?_|refine rD Γ hm j_ ?_);conv=>whnf))
 have d0':IntKind.i64.wrap ((a:Int).tdiv 16777216)=((z0:Nat):Int):=d0
 have d1':IntKind.i64.wrap ((a:Int).tdiv 65536)=((a / 65536:Nat):Int):=d1
 have d2':IntKind.i64.wrap ((a:Int).tdiv 256)=((a / 256:Nat):Int):=d2
 have m1':((a / 65536:Nat):Int).tmod 256=((z1:Nat):Int):=m1
 have m2':((a / 256:Nat):Int).tmod 256=((z2:Nat):Int):=m2
 have m3':(a:Int).tmod 256=((z3:Nat):Int):=m3
 rw[d0']
 refine c0 q0 F427 ?_
 ((first|refine rG Γ hm ?_|refine rD Γ hm j_ ?_);(conv=>whnf);repeat((first|refine aF ?_|refine aT ?_);(first|refine rG Γ hm ?_|refine rD Γ hm j_ ?_);conv=>whnf))
 refine⟨by show _+1≤_;omega,?_⟩
 ((conv=>whnf);repeat((first|refine aF ?_|refine aT ?_);(first|refine rG Γ hm ?_|refine rD Γ hm j_ ?_);conv=>whnf))
 refine⟨by decide,?_⟩
 ((conv=>whnf);repeat((first|refine aF ?_|refine aT ?_);(first|refine rG Γ hm ?_|refine rD Γ hm j_ ?_);conv=>whnf))
 rw[d1']
 refine⟨by decide,?_⟩
 ((conv=>whnf);repeat((first|refine aF ?_|refine aT ?_);(first|refine rG Γ hm ?_|refine rD Γ hm j_ ?_);conv=>whnf))
 rw[m1']
 refine c0 q1 F427 ?_
 ((first|refine rG Γ hm ?_|refine rD Γ hm j_ ?_);(conv=>whnf);repeat((first|refine aF ?_|refine aT ?_);(first|refine rG Γ hm ?_|refine rD Γ hm j_ ?_);conv=>whnf))
 have e1:(t0++⟨#[46]⟩:ByteArray).size=t0.size+1:=Mo _ _
 have e2:(t0++⟨#[46]⟩++t1:ByteArray).size=t0.size+1+t1.size:=by rw[Mo,e1]
 have e3:(t0++⟨#[46]⟩++t1++⟨#[46]⟩:ByteArray).size=t0.size+1+t1.size+1:=by rw[Mo,e2];rfl
 have e4:(t0++⟨#[46]⟩++t1++⟨#[46]⟩++t2:ByteArray).size=t0.size+1+t1.size+1+t2.size:=by rw[Mo,e3]
 have e5:(t0++⟨#[46]⟩++t1++⟨#[46]⟩++t2++⟨#[46]⟩:ByteArray).size=t0.size+1+t1.size+1+t2.size+1:=by rw[Mo,e4];rfl
 refine⟨by omega,?_⟩
 ((conv=>whnf);repeat((first|refine aF ?_|refine aT ?_);(first|refine rG Γ hm ?_|refine rD Γ hm j_ ?_);conv=>whnf))
 refine⟨by show _+1≤_;omega,?_⟩
 ((conv=>whnf);repeat((first|refine aF ?_|refine aT ?_);(first|refine rG Γ hm ?_|refine rD Γ hm j_ ?_);conv=>whnf))
 refine⟨by decide,?_⟩
 ((conv=>whnf);repeat((first|refine aF ?_|refine aT ?_);(first|refine rG Γ hm ?_|refine rD Γ hm j_ ?_);conv=>whnf))
 rw[d2']
 refine⟨by decide,?_⟩
 ((conv=>whnf);repeat((first|refine aF ?_|refine aT ?_);(first|refine rG Γ hm ?_|refine rD Γ hm j_ ?_);conv=>whnf))
 rw[m2']
 refine c0 q2 F427 ?_
 ((first|refine rG Γ hm ?_|refine rD Γ hm j_ ?_);(conv=>whnf);repeat((first|refine aF ?_|refine aT ?_);(first|refine rG Γ hm ?_|refine rD Γ hm j_ ?_);conv=>whnf))
 refine⟨by omega,?_⟩
 ((conv=>whnf);repeat((first|refine aF ?_|refine aT ?_);(first|refine rG Γ hm ?_|refine rD Γ hm j_ ?_);conv=>whnf))
 refine⟨by show _+1≤_;omega,?_⟩
 ((conv=>whnf);repeat((first|refine aF ?_|refine aT ?_);(first|refine rG Γ hm ?_|refine rD Γ hm j_ ?_);conv=>whnf))
 refine⟨by decide,?_⟩
 ((conv=>whnf);repeat((first|refine aF ?_|refine aT ?_);(first|refine rG Γ hm ?_|refine rD Γ hm j_ ?_);conv=>whnf))
 rw[m3']
 refine c0 q3 F427 ?_
 ((first|refine rG Γ hm ?_|refine rD Γ hm j_ ?_);(conv=>whnf);repeat((first|refine aF ?_|refine aT ?_);(first|refine rG Γ hm ?_|refine rD Γ hm j_ ?_);conv=>whnf))
 refine⟨by omega,?_⟩
 ((conv=>whnf);repeat((first|refine aF ?_|refine aT ?_);(first|refine rG Γ hm ?_|refine rD Γ hm j_ ?_);conv=>whnf))
 exact dN
theorem X7 {n:Net} (h:Ai n=true) {i:Nat} (hi:i<n.ports.length):0≤n.ports[i].native∧inB n.ports[i].tagged n.ports[i].native=false:=by
 have:=Abv h hi
 simp only[Jd,Bool.and_eq_true,decide_eq_true_eq,Bool.not_eq_true']at this
 exact⟨this.1.1.1.1.1.1.1.2,this.1.1.1.1.2⟩
theorem Ajm (n:Net) (hn:n.Fin) (hb:Ai n=true) (i v:Int):Sy.Spec Tryz.prog 422 [Aj n,Aa i,Aa v] [] (.tup [Aa (crossT n i v).1,Aa (crossT n i v).2.1,Ab (crossT n i v).2.2]) []:=cT F422 Tryz.ntmps422 fun F hF=>by
 have q:=Ajl n hn hb i
 have hth:=J3 (n:=n) (i:=i)
 have hc:=crossT.eq_1 n i v
 unfold Tt at hc
 generalize crossT n i v=r at *
 obtain ⟨far,hfar⟩:∃ far,Hf n i=far:=⟨_,rfl⟩
 rw[hfar]at q hth hc
 ((conv=>whnf);repeat((first|refine aF ?_|refine aT ?_);(first|refine rG Γ hm ?_|refine rD Γ hm j_ ?_);conv=>whnf))
 refine A4 3 8 (Aj n) Y Y Y ?_
 ((first|refine rG Γ hm ?_|refine rD Γ hm j_ ?_);(conv=>whnf);repeat((first|refine aF ?_|refine aT ?_);(first|refine rG Γ hm ?_|refine rD Γ hm j_ ?_);conv=>whnf))
 refine c0 q F444 ?_
 ((first|refine rG Γ hm ?_|refine rD Γ hm j_ ?_);(conv=>whnf);repeat((first|refine aF ?_|refine aT ?_);(first|refine rG Γ hm ?_|refine rD Γ hm j_ ?_);conv=>whnf))
 refine⟨fun h=>?_,fun h=>?_⟩
 ·have h1:far<0:=of_decide_eq_true h
  rw[if_neg z_]at hc
  subst hc
  ((first|refine rG Γ hm ?_|refine rD Γ hm j_ ?_);(conv=>whnf);repeat((first|refine aF ?_|refine aT ?_);(first|refine rG Γ hm ?_|refine rD Γ hm j_ ?_);conv=>whnf))
  exact dN
 have h1:0≤far:=qB h
 ((first|refine rG Γ hm ?_|refine rD Γ hm j_ ?_);(conv=>whnf);repeat((first|refine aF ?_|refine aT ?_);(first|refine rG Γ hm ?_|refine rD Γ hm j_ ?_);conv=>whnf))
 refine⟨fun h=>?_,fun h=>?_⟩
 ·have h2:v=0:=by simpa using h
  rw[if_neg (fun hh=>by have:=hh.2.1;simp[C6,h2]at this)]at hc
  subst hc
  ((first|refine rG Γ hm ?_|refine rD Γ hm j_ ?_);(conv=>whnf);repeat((first|refine aF ?_|refine aT ?_);(first|refine rG Γ hm ?_|refine rD Γ hm j_ ?_);conv=>whnf))
  exact dN
 have hv0:v≠0:=by simpa using h
 obtain ⟨⟨hi0,hk⟩,_,hfk⟩:=hth h1
 have e1:nth n.ports i=n.ports[i.toNat]:=Ar hk
 have e2:nth n.ports far=n.ports[far.toNat]:=Ar hfk
 rw[e1,e2]at hc
 have ht1:=hn.tagged _ (List.getElem_mem hk)
 have ht2:=hn.tagged _ (List.getElem_mem hfk)
 have hn1:=X7 hb hk
 have hn2:=X7 hb hfk
 obtain ⟨p,hp⟩:∃ p,n.ports[i.toNat]=p:=⟨_,rfl⟩
 obtain ⟨o,ho⟩:∃ o,n.ports[far.toNat]=o:=⟨_,rfl⟩
 rw[hp]at hc ht1 hn1
 rw[ho]at hc ht2 hn2
 have hi1:=Ie p.tagged v ht1
 have hi2:=Ie o.tagged v ht2
 ((first|refine rG Γ hm ?_|refine rD Γ hm j_ ?_);(conv=>whnf);repeat((first|refine aF ?_|refine aT ?_);(first|refine rG Γ hm ?_|refine rD Γ hm j_ ?_);conv=>whnf))
 refine⟨Y,hi0,hk,?_⟩
 rw[hp]
 ((conv=>whnf);repeat((first|refine aF ?_|refine aT ?_);(first|refine rG Γ hm ?_|refine rD Γ hm j_ ?_);conv=>whnf))
 refine⟨Y,h1,hfk,?_⟩
 rw[ho]
 ((conv=>whnf);repeat((first|refine aF ?_|refine aT ?_);(first|refine rG Γ hm ?_|refine rD Γ hm j_ ?_);conv=>whnf))
 refine⟨j_,?_⟩
 ((conv=>whnf);repeat((first|refine aF ?_|refine aT ?_);(first|refine rG Γ hm ?_|refine rD Γ hm j_ ?_);conv=>whnf))
 refine⟨fun h=>?_,fun h=>?_⟩
 ·have h2:p.native=v:=by simpa using h
  rw[if_pos h2.symm]at hc
  ((first|refine rG Γ hm ?_|refine rD Γ hm j_ ?_);(conv=>whnf);repeat((first|refine aF ?_|refine aT ?_);(first|refine rG Γ hm ?_|refine rD Γ hm j_ ?_);conv=>whnf))
  refine⟨fun h=>?_,fun h=>?_⟩
  ·have h3:0<o.native:=of_decide_eq_true h
   rw[if_pos ⟨h1,by simp[C6,h2,hv0],by omega⟩]at hc
   subst hc
   ((first|refine rG Γ hm ?_|refine rD Γ hm j_ ?_);(conv=>whnf);repeat((first|refine aF ?_|refine aT ?_);(first|refine rG Γ hm ?_|refine rD Γ hm j_ ?_);conv=>whnf))
   refine⟨j_,?_⟩
   ((conv=>whnf);repeat((first|refine aF ?_|refine aT ?_);(first|refine rG Γ hm ?_|refine rD Γ hm j_ ?_);conv=>whnf))
   exact dN
  ·have h3:¬ 0<o.native:=of_decide_eq_false h
   rw[if_neg (fun hh=>hh.2.2 z_)]at hc
   subst hc
   rw[h2]at hn1
   ((first|refine rG Γ hm ?_|refine rD Γ hm j_ ?_);(conv=>whnf);repeat((first|refine aF ?_|refine aT ?_);(first|refine rG Γ hm ?_|refine rD Γ hm j_ ?_);conv=>whnf))
   refine c0 hi1 F226 ?_
   rw[hn1.2]
   ((first|refine rG Γ hm ?_|refine rD Γ hm j_ ?_);(conv=>whnf);repeat((first|refine aF ?_|refine aT ?_);(first|refine rG Γ hm ?_|refine rD Γ hm j_ ?_);conv=>whnf))
   exact dN
 have h2:¬ v=p.native:=fun e=>by simp[e]at h
 rw[if_neg h2]at hc
 ((first|refine rG Γ hm ?_|refine rD Γ hm j_ ?_);(conv=>whnf);repeat((first|refine aF ?_|refine aT ?_);(first|refine rG Γ hm ?_|refine rD Γ hm j_ ?_);conv=>whnf))
 refine c0 hi1 F226 ?_
 cases hin:inB p.tagged v
 ·rw[if_neg (fun hh=>by have:=hh.2.1;simp[C6,h2,hin]at this)]at hc
  subst hc
  ((first|refine rG Γ hm ?_|refine rD Γ hm j_ ?_);(conv=>whnf);repeat((first|refine aF ?_|refine aT ?_);(first|refine rG Γ hm ?_|refine rD Γ hm j_ ?_);conv=>whnf))
  exact dN
 ((first|refine rG Γ hm ?_|refine rD Γ hm j_ ?_);(conv=>whnf);repeat((first|refine aF ?_|refine aT ?_);(first|refine rG Γ hm ?_|refine rD Γ hm j_ ?_);conv=>whnf))
 refine c0 hi2 F226 ?_
 cases hin2:inB o.tagged v
 ·rw[hin2,if_neg qe]at hc
  subst hc
  ((first|refine rG Γ hm ?_|refine rD Γ hm j_ ?_);(conv=>whnf);repeat((first|refine aF ?_|refine aT ?_);(first|refine rG Γ hm ?_|refine rD Γ hm j_ ?_);conv=>whnf))
  exact dN
 rw[hin2,if_pos rfl,if_pos ⟨h1,by simp[C6,hv0,hin],hv0⟩]at hc
 subst hc
 ((first|refine rG Γ hm ?_|refine rD Γ hm j_ ?_);(conv=>whnf);repeat((first|refine aF ?_|refine aT ?_);(first|refine rG Γ hm ?_|refine rD Γ hm j_ ?_);conv=>whnf))
 exact dN
theorem Wx (n:Net) (hn:n.Fin) (hb:Ai n=true) (i v:Int):Sy.Spec Tryz.prog 363 [Aj n,Aa i,Aa v] [] (.tup [Aa (linkDomT n i v).1,Ab (linkDomT n i v).2]) []:=cT F363 Tryz.ntmps363 fun F hF=>by
 have q:=Ajm n hn hb i v
 have hth:=L2 (n:=n) (i:=i) (v:=v)
 have hc:=linkDomT.eq_1 n i v
 generalize linkDomT n i v=r at *
 generalize crossT n i v=x at *
 obtain ⟨far,to,ok⟩:=x
 ((conv=>whnf);repeat((first|refine aF ?_|refine aT ?_);(first|refine rG Γ hm ?_|refine rD Γ hm j_ ?_);conv=>whnf))
 refine A4 3 8 (Aj n) Y Y Y ?_
 ((first|refine rG Γ hm ?_|refine rD Γ hm j_ ?_);(conv=>whnf);repeat((first|refine aF ?_|refine aT ?_);(first|refine rG Γ hm ?_|refine rD Γ hm j_ ?_);conv=>whnf))
 refine c0 q F422 ?_
 cases ok
 ·rw[if_neg qe]at hc
  subst hc
  ((first|refine rG Γ hm ?_|refine rD Γ hm j_ ?_);(conv=>whnf);repeat((first|refine aF ?_|refine aT ?_);(first|refine rG Γ hm ?_|refine rD Γ hm j_ ?_);conv=>whnf))
  exact dN
 rw[if_pos rfl]at hc
 have hf:=hth rfl
 dsimp only at hf hc
 have e2:nth n.ports far=n.ports[far.toNat]:=Ar hf.2
 rw[e2]at hc
 obtain ⟨o,ho⟩:∃ o,n.ports[far.toNat]'hf.2=o:=⟨_,rfl⟩
 rw[ho,Tq,if_pos hb]at hc
 have q2:=Jb n o.dev to hn.domains
 subst hc
 ((first|refine rG Γ hm ?_|refine rD Γ hm j_ ?_);(conv=>whnf);repeat((first|refine aF ?_|refine aT ?_);(first|refine rG Γ hm ?_|refine rD Γ hm j_ ?_);conv=>whnf))
 refine⟨Y,hf.1,hf.2,?_⟩
 rw[ho]
 ((conv=>whnf);repeat((first|refine aF ?_|refine aT ?_);(first|refine rG Γ hm ?_|refine rD Γ hm j_ ?_);conv=>whnf))
 refine cD q2 F213 ?_
 ((first|refine rG Γ hm ?_|refine rD Γ hm j_ ?_);(conv=>whnf);repeat((first|refine aF ?_|refine aT ?_);(first|refine rG Γ hm ?_|refine rD Γ hm j_ ?_);conv=>whnf))
 refine⟨j_,?_⟩
 ((conv=>whnf);repeat((first|refine aF ?_|refine aT ?_);(first|refine rG Γ hm ?_|refine rD Γ hm j_ ?_);conv=>whnf))
 exact dN
end Go.Sy.YtjenpnjajjplkaaGreatDoor
namespace Go.Sy.YtjenpnjajjplkaaGreatDoor
open Go.Proofs
attribute [local irreducible] Go.Sy.G Go.Sy.DR
set_option maxRecDepth 100000
set_option maxHeartbeats 4000000
theorem Aep (n:Net) (hn:n.Fin) (i:Int):(crossedL n i).length<2147483648:=by
 have h1:=List.length_filterMap_le (fun p=>if (linkDomT n p (nth n.domains i).vlan).2=true then some (linkDomT n p (nth n.domains i).vlan).1 else none) (E0 n i)
 have h2:=M8 n hn i
 unfold As at h2
 unfold crossedL
 omega
theorem Ac4 (n:Net) (hn:n.Fin) (hr:Ai n=true) (i:Int) (hi:0≤i∧i.toNat<n.domains.length):Sy.Spec Tryz.prog 297 [Aj n,Aa i] [] (.sl 1 Aa (crossedL n i)) []:=cT F297 Tryz.ntmps297 fun F hF=>by
 have qm:=Acu n hn hr i
 have hms:=M8 n hn i
 unfold As at hms
 have hi0:=hi.1
 have hi1:=hi.2
 have hcl:=crossedL.eq_1 n i
 rw[Ar hi.2]at hcl
 generalize crossedL n i=res at *
 generalize E0 n i=mem at *
 have hfl:∀ j,((mem.take j).filterMap (fun p=>if (linkDomT n p (n.domains[i.toNat]'hi.2).vlan).2=true then some (linkDomT n p (n.domains[i.toNat]'hi.2).vlan).1 else none)).length≤mem.length:=fun j=>by
  refine Nat.le_trans (List.length_filterMap_le _ _) ?_
  rw[List.length_take];omega
 refine T ?_
 refine A4 2 8 (Aj n) Y Y Y ?_
 refine C qm F362 ?_
 refine Cm 5 1000 1 Aa Y Y ?_
 refine At (fun j:Nat=>j≤mem.length) (fun j=>[(1,Aa i),(2,.ref 8 (Aj n) 0),(5,.osl 1000),(6,.sl 1 Aa mem),(7,Aa j)]) (fun j=>[(1000,.row 1 Aa ((mem.take j).filterMap (fun p=>if (linkDomT n p (n.domains[i.toNat]'hi.2).vlan).2=true then some (linkDomT n p (n.domains[i.toNat]'hi.2).vlan).1 else none)))]) (fun j=>mem.length-j) 0 [] z_ U ?_
 intro j hj
 have hflj:=hfl j
 refine T ?_
 refine⟨fun h=>?_,fun h=>?_⟩
 ·have hlt:j<mem.length:=qA h
  have hj0:((j:Nat):Int).toNat<mem.length:=hlt
  clear h
  have q:=Wx n hn hr (mem[((j:Nat):Int).toNat]'hj0) (n.domains[i.toNat]'hi.2).vlan
  have hnx:(mem.take (j+1)).filterMap (fun p=>if (linkDomT n p (n.domains[i.toNat]'hi.2).vlan).2=true then some (linkDomT n p (n.domains[i.toNat]'hi.2).vlan).1 else none)=(mem.take j).filterMap (fun p=>if (linkDomT n p (n.domains[i.toNat]'hi.2).vlan).2=true then some (linkDomT n p (n.domains[i.toNat]'hi.2).vlan).1 else none) ++
    (if (linkDomT n (mem[((j:Nat):Int).toNat]'hj0) (n.domains[i.toNat]'hi.2).vlan).2=true then [(linkDomT n (mem[((j:Nat):Int).toNat]'hj0) (n.domains[i.toNat]'hi.2).vlan).1] else []):=by
   rw[List.take_succ_eq_append_getElem hlt,List.filterMap_append]
   congr 1
   show List.filterMap _ [mem[((j:Nat):Int).toNat]'hj0]=_
   rw[List.filterMap_cons,List.filterMap_nil]
   split<;>rename_i hs<;>split at hs<;>simp_all
  generalize hU:(mem.take j).filterMap (fun p=>if (linkDomT n p (n.domains[i.toNat]'hi.2).vlan).2=true then some (linkDomT n p (n.domains[i.toNat]'hi.2).vlan).1 else none)=u at *
  generalize linkDomT n (mem[((j:Nat):Int).toNat]'hj0) (n.domains[i.toNat]'hi.2).vlan=ld at *
  obtain ⟨to,ok⟩:=ld
  dsimp only at hnx q
  cases ok with
  | false =>
   rw[if_neg y_,List.append_nil]at hnx
   refine T ?_
   refine C q F363 ?_
   exact Ad (j+1) [] hlt z_ ⟨⟨Y,Y,Y,Y,Y,Y,Y,Y,Y,Y,q_⟩,⟨.inl (congrArg (Ob.row 1 Aa) hnx),Y,q_⟩,Y,Y⟩
  | true =>
   rw[if_pos rfl]at hnx
   refine T ?_
   refine C q F363 ?_
   refine X (Ak Γ.toTy 38 rfl rfl rfl rfl rfl (.row rfl) (.lit (e:=Aa) (l:=[to]) rfl rfl) (by intro k hk;cases hk;decide) (by simp only[List.length_singleton];omega) (by simp only[List.length_singleton];omega)) ?_
   refine T ?_
   exact Ad (j+1) [(1000,38)] hlt z_ ⟨⟨Y,Y,Y,Y,Y,Y,Y,Y,Y,Y,q_⟩,⟨.inl (congrArg (Ob.row 1 Aa) hnx),Y,q_⟩,Y,Y⟩
 ·have hje:j=mem.length:=qB h
  clear h
  rw[hje,List.take_length,← hcl]
  refine Ac 1000 Y ?_
  refine T ?_
  exact D
def L0 (n:Net) (i:Nat):List (Int × Int):=(List.range i).flatMap (fun i:Nat=>(crossedL n (i:Int)).map (fun b=>((i:Int),b)))
theorem Ael (n:Net) (i:Nat):L0 n (i+1)=L0 n i++(crossedL n (i:Int)).map (fun b=>((i:Int),b)):=by
 rw[L0,List.range_succ,List.flatMap_append,List.flatMap_cons,List.flatMap_nil,List.append_nil];rfl
def Hv (l:List Int) (es:List (Int × Int)):List Int:=es.foldl (fun l e=>D9 l e.1 e.2) l
theorem Lq:∀ (es:List (Int × Int)) (l:List Int),(Hv l es).length=l.length
 | [],_=>rfl
 | e::es,l=>by
  show (Hv (D9 l e.1 e.2) es).length=_
  rw[Lq es,Wv]
theorem Wu (l:List Int) (es fs:List (Int × Int)):Hv l (es++fs)=Hv (Hv l es) fs:=List.foldl_append
theorem Q1 (es:List (Int × Int)):∀ (k:Nat) (l:List Int),(Ej es k l).length=l.length
 | 0,_=>rfl
 | k+1,l=>by
  rw[Mu]
  exact(Lq es _).trans (Q1 es k l)
theorem Ah2 (k:Nat):B6 (k+1)=B6 k++[(k:Int)]:=by
 rw[B6,List.range_succ,List.map_append];rfl
theorem Ajq (n:Net) (hn:n.Fin) (hr:Ai n=true):Sy.Spec Tryz.prog 225 [Aj n,Ab false] [] (.sl 1 Aa (Un n)) []:=cT F225 Tryz.ntmps225 fun F hF=>by
 have hfew:=(Aen hr).2.2.2.1
 refine T ?_
 refine A4 2 8 (Aj n) Y Y Y ?_
 refine Cm 5 1000 1 Aa Y Y ?_
 refine At (fun j:Nat=>j≤n.domains.length) (fun j=>[(1,Ab false),(2,.ref 8 (Aj n) 0),(5,.osl 1000),(6,Aa j)]) (fun j=>[(1000,.row 1 Aa (B6 j))]) (fun j=>n.domains.length-j) 0 [] z_ U ?_
 intro j hj
 have hal:=(Dt j).2
 have has:=Ah2 j
 refine T ?_
 refine⟨fun h=>?_,fun h=>?_⟩
 ·have hlt:j<n.domains.length:=qA h
  clear h
  refine T ?_
  refine X (Ak Γ.toTy 22 rfl rfl rfl rfl rfl (.row rfl) (.lit (e:=Aa) (l:=[(j:Int)]) rfl rfl) (by intro k hk;cases hk;decide) (by simp only[List.length_singleton];omega) (by simp only[List.length_singleton];omega)) ?_
  refine T ?_
  exact Ad (j+1) [(1000,22)] hlt z_ ⟨⟨Y,Y,Y,Y,Y,Y,Y,Y,q_⟩,⟨.inl (congrArg (Ob.row 1 Aa) has),Y,q_⟩,Y,Y⟩
 have hje:j=n.domains.length:=qB h
 clear h has
 subst hje
 refine T ?_
 refine At (fun k:Nat=>k≤n.domains.length) (fun k=>[(1,Ab false),(2,.ref 8 (Aj n) 0),(5,.osl 1000),(7,Aa k)]) (fun k=>[(1000,.row 1 Aa (Ej (L1 n) k (B6 n.domains.length)))]) (fun k=>n.domains.length-k) 0 [] z_ U ?_
 intro k hk
 have hrl:=Q1 (L1 n) k (B6 n.domains.length)
 have hrs:=Mu (L1 n) k (B6 n.domains.length)
 rw[hal]at hrl
 refine T ?_
 refine⟨fun h=>?_,fun h=>?_⟩
 ·have hlt:k<n.domains.length:=qA h
  clear h
  generalize Ej (L1 n) k (B6 n.domains.length)=l0 at *
  refine T ?_
  refine At (fun i:Nat=>i≤n.domains.length) (fun i=>[(1,Ab false),(2,.ref 8 (Aj n) 0),(5,.osl 1000),(7,Aa k),(8,Aa i)]) (fun i=>[(1000,.row 1 Aa (Hv l0 (L0 n i)))]) (fun i=>n.domains.length-i) 0 [] z_ U ?_
  intro i hi
  have hul:=Lq (L0 n i) l0
  refine T ?_
  refine⟨fun h=>?_,fun h=>?_⟩
  ·have hit:i<n.domains.length:=qA h
   clear h
   have hes:Hv l0 (L0 n (i+1))=Hv (Hv l0 (L0 n i)) ((crossedL n (i:Int)).map (fun b=>((i:Int),b))):=by rw[Ael,Wu]
   have qc:=Ac4 n hn hr (i:Int) ⟨by omega,hit⟩
   have hcl:=Aep n hn (i:Int)
   have hcin:∀ b∈crossedL n (i:Int),InD n.domains.length b:=fun b hb=>by
    refine(Te hr ((Uu hr (i:Int) b).2 ?_)).2
    exact List.mem_flatMap.2 ⟨i,List.mem_range.2 hit,List.mem_map.2 ⟨b,hb,Y⟩⟩
   generalize Hv l0 (L0 n i)=l1 at *
   generalize crossedL n (i:Int)=cr at *
   refine T ?_
   refine C qc F297 ?_
   refine At (fun m:Nat=>m≤cr.length) (fun m=>[(1,Ab false),(2,.ref 8 (Aj n) 0),(5,.osl 1000),(7,Aa k),(8,Aa i),(9,.sl 1 Aa cr),(10,Aa m)]) (fun m=>[(1000,.row 1 Aa (Hv l1 ((cr.take m).map (fun b=>((i:Int),b)))))]) (fun m=>cr.length-m) 0 [] z_ U ?_
   intro m hm
   have hml:=Lq ((cr.take m).map (fun b=>((i:Int),b))) l1
   refine T ?_
   refine⟨fun h=>?_,fun h=>?_⟩
   ·have hmt:m<cr.length:=qA h
    have hm0:((m:Nat):Int).toNat<cr.length:=hmt
    clear h
    have hbin:=hcin _ (List.getElem_mem hm0)
    have hb0:=hbin.1
    have hb1:=hbin.2
    have hnx:Hv l1 ((cr.take (m+1)).map (fun b=>((i:Int),b)))=D9 (Hv l1 ((cr.take m).map (fun b=>((i:Int),b)))) (i:Int) (cr[((m:Nat):Int).toNat]'hm0):=by
     rw[List.take_succ_eq_append_getElem hmt,List.map_append,Wu];rfl
    generalize Hv l1 ((cr.take m).map (fun b=>((i:Int),b)))=l2 at *
    have hi2:((i:Nat):Int).toNat<l2.length:=by omega
    have hb2:(cr[((m:Nat):Int).toNat]'hm0).toNat<l2.length:=by omega
    have hne:l2≠[]:=fun e=>by rw[e]at hi2;cases hi2
    rw[D9,Ar hi2,Ar hb2]at hnx
    have hs1:∀ x,(l2.set ((i:Nat):Int).toNat x)≠[]:=fun x e=>by
     have:=congrArg List.length e
     rw[List.length_set]at this
     exact hne (List.eq_nil_of_length_eq_zero this)
    by_cases hx:(l2[(cr[((m:Nat):Int).toNat]'hm0).toNat]'hb2)<(l2[((i:Nat):Int).toNat]'hi2)
    ·have g:decide ((l2[(cr[((m:Nat):Int).toNat]'hm0).toNat]'hb2)<(l2[((i:Nat):Int).toNat]'hi2))=true:=decide_eq_true hx
     rw[if_pos hx]at hnx
     have hb3:(cr[((m:Nat):Int).toNat]'hm0).toNat<(l2.set ((i:Nat):Int).toNat (l2[(cr[((m:Nat):Int).toNat]'hm0).toNat]'hb2)).length:=by rw[List.length_set];exact hb2
     refine T ?_
     refine⟨_,Y,Y,?_⟩
     refine T ?_
     refine⟨_,Y,Y,?_⟩
     refine T ?_
     exact Ad (m+1) [] hmt z_ ⟨⟨Y,Y,Y,Y,Y,Y,Y,Y,Y,Y,Y,Y,Y,Y,q_⟩,⟨.inl (congrArg (Ob.row 1 Aa) hnx),Y,q_⟩,Y,Y⟩
    ·have g:decide ((l2[(cr[((m:Nat):Int).toNat]'hm0).toNat]'hb2)<(l2[((i:Nat):Int).toNat]'hi2))=false:=decide_eq_false hx
     rw[if_neg hx]at hnx
     have hb3:(cr[((m:Nat):Int).toNat]'hm0).toNat<(l2.set ((i:Nat):Int).toNat (l2[((i:Nat):Int).toNat]'hi2)).length:=by rw[List.length_set];exact hb2
     refine T ?_
     refine⟨_,Y,Y,?_⟩
     refine T ?_
     refine⟨_,Y,Y,?_⟩
     refine T ?_
     exact Ad (m+1) [] hmt z_ ⟨⟨Y,Y,Y,Y,Y,Y,Y,Y,Y,Y,Y,Y,Y,Y,q_⟩,⟨.inl (congrArg (Ob.row 1 Aa) hnx),Y,q_⟩,Y,Y⟩
   ·have hme:m=cr.length:=qB h
    clear h
    rw[hme,List.take_length,← hes]
    refine T ?_
    exact Ad (i+1) [] hit z_ U
  ·have hie:i=n.domains.length:=qB h
   clear h
   have hnx:Hv l0 (L0 n i)=Ej (L1 n) (k+1) (B6 n.domains.length):=by rw[hrs,hie];rfl
   rw[hnx]
   refine T ?_
   exact Ad (k+1) [] hlt z_ U
 ·have hke:k=n.domains.length:=qB h
  clear h
  rw[hke]
  refine Ac 1000 Y ?_
  refine T ?_
  exact D
theorem Ajp (n:Net) (hn:n.Fin) (hr:Ai n=true):Sy.Spec Tryz.prog 141 [Aj n] [] (.sl 1 Aa (Un n)) []:=cT F141 Tryz.ntmps141 fun F hF=>by
 have q:=Ajq n hn hr
 refine T ?_
 refine A4 1 8 (Aj n) Y Y Y ?_
 refine C q F225 ?_
 exact D
theorem Zr:∀ (l:List Int) (m x:Int),E9 m (l++[x])=min (E9 m l) x
 | [],_,_=>rfl
 | y::l,m,x=>by
  show E9 (min m y) (l++[x])=_
  rw[Zr l];rfl
theorem Ama (n:Net) (hn:n.Fin) (i:Nat) (hi:i<n.domains.length):Sy.Spec Tryz.prog 143 [Aj n,Aa i] [] (Aa (E9 (i:Int) (n.domains[((i:Nat):Int).toNat]'hi).peers)) []:=cT F143 Tryz.ntmps143 fun F hF=>by
 have hi0:((i:Nat):Int).toNat<n.domains.length:=hi
 have hpl:(n.domains[((i:Nat):Int).toNat]'hi0).peers.length<2147483648:=hn.peers _ (List.getElem_mem hi0)
 refine T ?_
 refine A4 2 8 (Aj n) Y Y Y ?_
 refine At (fun j:Nat=>j≤(n.domains[((i:Nat):Int).toNat]'hi0).peers.length) (fun j=>[(1,Aa i),(2,.ref 8 (Aj n) 0),(5,Aa (E9 (i:Int) ((n.domains[((i:Nat):Int).toNat]'hi0).peers.take j))),(6,Aa j)]) (fun _=>[]) (fun j=>(n.domains[((i:Nat):Int).toNat]'hi0).peers.length-j) 0 [] z_ U ?_
 intro j hj
 refine T ?_
 refine⟨fun h=>?_,fun h=>?_⟩
 ·have hlt:j<(n.domains[((i:Nat):Int).toNat]'hi0).peers.length:=qA h
  have hj0:((j:Nat):Int).toNat<(n.domains[((i:Nat):Int).toNat]'hi0).peers.length:=hlt
  clear h
  have hnx:E9 (i:Int) ((n.domains[((i:Nat):Int).toNat]'hi0).peers.take (j+1))=min (E9 (i:Int) ((n.domains[((i:Nat):Int).toNat]'hi0).peers.take j)) ((n.domains[((i:Nat):Int).toNat]'hi0).peers[((j:Nat):Int).toNat]'hj0):=by
   rw[List.take_succ_eq_append_getElem hlt,Zr];rfl
  generalize E9 (i:Int) ((n.domains[((i:Nat):Int).toNat]'hi0).peers.take j)=m at *
  by_cases hx:((n.domains[((i:Nat):Int).toNat]'hi0).peers[((j:Nat):Int).toNat]'hj0)<m
  ·have g:decide (((n.domains[((i:Nat):Int).toNat]'hi0).peers[((j:Nat):Int).toNat]'hj0)<m)=true:=decide_eq_true hx
   rw[Int.min_eq_right z_]at hnx
   refine T ?_
   exact Ad (j+1) [] hlt z_ ⟨⟨Y,Y,Y,Y,congrArg Aa hnx,Y,Y,Y,q_⟩,q_,Y,Y⟩
  ·have g:decide (((n.domains[((i:Nat):Int).toNat]'hi0).peers[((j:Nat):Int).toNat]'hj0)<m)=false:=decide_eq_false hx
   rw[Int.min_eq_left z_]at hnx
   refine T ?_
   exact Ad (j+1) [] hlt z_ ⟨⟨Y,Y,Y,Y,congrArg Aa hnx,Y,Y,Y,q_⟩,q_,Y,Y⟩
 ·have hje:j=(n.domains[((i:Nat):Int).toNat]'hi0).peers.length:=qB h
  clear h
  rw[hje,List.take_length]
  refine T ?_
  exact D
theorem Ab7 (s:List Int × List Int) (e:Int × Int):(B7 s e).1.length≤s.1.length+1∧(B7 s e).2.length≤s.2.length+1:=by
 have h2:(B7 s e).2.length≤s.2.length+1:=by
  show (if inB s.1 e.1=true∧inB s.2 e.2=false then s.2++[e.2] else s.2).length≤_
  split<;>simp
 refine⟨?_,h2⟩
 show (if inB (B7 s e).2 e.2=true∧inB s.1 e.1=false then s.1++[e.1] else s.1).length≤_
 split<;>simp
theorem Lk:∀ (l:List (Int × Int)) (s:List Int × List Int),(Bv l s).1.length≤s.1.length+l.length∧(Bv l s).2.length≤s.2.length+l.length
 | [],s=>⟨by simp[Bv],by simp[Bv]⟩
 | e::l,s=>by
  obtain ⟨h1,h2⟩:=Ab7 s e
  obtain ⟨h3,h4⟩:=Lk l (B7 s e)
  rw[Bv,List.foldl_cons]
  rw[Bv]at h3 h4
  rw[List.length_cons]
  exact⟨by omega,by omega⟩
theorem Qi (ab:List (Int × Int)) (s:List Int × List Int):∀ k,(Bz ab k s).1.length≤s.1.length+k * ab.length∧(Bz ab k s).2.length≤s.2.length+k * ab.length
 | 0=>⟨by simp[Bz],by simp[Bz]⟩
 | k+1=>by
  obtain ⟨h1,h2⟩:=Qi ab s k
  obtain ⟨h3,h4⟩:=Lk ab (Bz ab k s)
  rw[Ey,Nat.add_mul,Nat.one_mul]
  exact⟨by omega,by omega⟩
theorem Je {α β:Type} {s:α × β} {a:α} {b:β} (h:s=(a,b)):s.1=a∧s.2=b:=by rw[h];exact⟨rfl,rfl⟩
theorem Ae7 {P M:List Int} {x y:Int} (b1:inB P x=true) (b2:inB M y=false):B7 (P,M) (x,y)=(P,M++[y]):=by simp[B7,b1,b2]
theorem Ae6 {P M:List Int} {x y:Int} (b1:inB P x=true) (b2:inB M y=true):B7 (P,M) (x,y)=(P,M):=by simp[B7,b1,b2]
theorem Ae9 {P M:List Int} {x y:Int} (b1:inB P x=false) (b2:inB M y=false):B7 (P,M) (x,y)=(P,M):=by simp[B7,b1,b2]
theorem Ae8 {P M:List Int} {x y:Int} (b1:inB P x=false) (b2:inB M y=true):B7 (P,M) (x,y)=(P++[x],M):=by simp[B7,b1,b2]
theorem Ao7 (ab:List (Int × Int)) (part mesh:Int) (hl:ab.length≤48):Sy.Spec Tryz.prog 142 [.sl 1 Aa (ab.map (·.1)),.sl 1 Aa (ab.map (·.2)),Aa part,Aa mesh] [] (Ab (wayJ ab part mesh)) []:=cT F142 Tryz.ntmps142 fun F hF=>by
 have hA:(ab.map (fun x:Int × Int=>x.1)).length=ab.length:=List.length_map _
 have hB:(ab.map (fun x:Int × Int=>x.2)).length=ab.length:=List.length_map _
 have hres:=wayJ.eq_1 ab part mesh
 generalize wayJ ab part mesh=res at *
 refine T ?_
 refine Hj 14 Aa [part] Y Y ?_
 refine Cm 10 901 1 Aa Y Y ?_
 refine At (fun k:Nat=>k≤2 * ab.length+1) (fun k=>[(0,.sl 1 Aa (ab.map (·.1))),(1,.sl 1 Aa (ab.map (·.2))),(3,Aa mesh),(9,.osl 1014),(10,.osl 1010),(11,Aa k)]) (fun k=>[(1014,.row 1 Aa (Bz ab k ([part],[])).1),(1010,.row 1 Aa (Bz ab k ([part],[])).2)]) (fun k=>2 * ab.length+1-k) 0 [(1014,14),(1010,901)] z_ U ?_
 intro k hk
 have hrs:=Ey ab k ([part],[])
 obtain ⟨l1,l2⟩:=Qi ab ([part],[]) k
 have hkl:k * ab.length≤97 * 48:=Nat.mul_le_mul z_ hl
 simp only[List.length_singleton,List.length_nil]at l1 l2
 refine T ?_
 refine⟨fun h=>?_,fun h=>?_⟩
 ·have hlt:k<2 * ab.length+1:=qA h
  clear h
  generalize Bz ab k ([part],[])=s0 at *
  refine T ?_
  refine At (fun i:Nat=>i≤ab.length) (fun i=>[(0,.sl 1 Aa (ab.map (·.1))),(1,.sl 1 Aa (ab.map (·.2))),(3,Aa mesh),(9,.osl 1014),(10,.osl 1010),(11,Aa k),(12,Aa i)]) (fun i=>[(1014,.row 1 Aa (Bv (ab.take i) s0).1),(1010,.row 1 Aa (Bv (ab.take i) s0).2)]) (fun i=>ab.length-i) 0 [] z_ U ?_
  intro i hi
  obtain ⟨l3,l4⟩:=Lk (ab.take i) s0
  rw[List.length_take]at l3 l4
  refine T ?_
  refine⟨fun h=>?_,fun h=>?_⟩
  ·have hit:i<ab.length:=qA h
   have hiA:((i:Nat):Int).toNat<(ab.map (fun x:Int × Int=>x.1)).length:=by rw[hA];exact hit
   have hiB:((i:Nat):Int).toNat<(ab.map (fun x:Int × Int=>x.2)).length:=by rw[hB];exact hit
   clear h
   have hnx:Bv (ab.take (i+1)) s0=B7 (Bv (ab.take i) s0) ((ab.map (fun x:Int × Int=>x.1))[((i:Nat):Int).toNat]'hiA,(ab.map (fun x:Int × Int=>x.2))[((i:Nat):Int).toNat]'hiB):=by
    rw[List.take_succ_eq_append_getElem hit,Bv,List.foldl_append]
    simp only[List.foldl_cons,List.foldl_nil,List.getElem_map]
    rfl
   generalize Bv (ab.take i) s0=s at *
   obtain ⟨P,M⟩:=s
   dsimp only at l3 l4 hnx
   have q1:=Ie P ((ab.map (fun x:Int × Int=>x.1))[((i:Nat):Int).toNat]'hiA) (by show P.length<_;omega)
   have q2:=fun (L:List Int) (h:As L)=>Ie L ((ab.map (fun x:Int × Int=>x.2))[((i:Nat):Int).toNat]'hiB) h
   have hin:=fun L:List Int=>Aip (l:=L) (x:=(ab.map (fun x:Int × Int=>x.2))[((i:Nat):Int).toNat]'hiB) (y:=(ab.map (fun x:Int × Int=>x.2))[((i:Nat):Int).toNat]'hiB)
   have qM:=q2 M (by show M.length<_;omega)
   have qM2:=q2 (M++[((ab.map (fun x:Int × Int=>x.2))[((i:Nat):Int).toNat]'hiB)]) (by show (M++[((ab.map (fun x:Int × Int=>x.2))[((i:Nat):Int).toNat]'hiB)]).length<_;rw[List.length_append,List.length_singleton];omega)
   rw[(hin M).2 (.inr rfl)]at qM2
   cases b1:inB P ((ab.map (fun x:Int × Int=>x.1))[((i:Nat):Int).toNat]'hiA) with
   | true =>
    rw[b1]at q1
    cases b2:inB M ((ab.map (fun x:Int × Int=>x.2))[((i:Nat):Int).toNat]'hiB) with
    | false =>
     rw[b2]at qM
     have hst:B7 (P,M) (((ab.map (fun x:Int × Int=>x.1))[((i:Nat):Int).toNat]'hiA),((ab.map (fun x:Int × Int=>x.2))[((i:Nat):Int).toNat]'hiB))=(P,M++[((ab.map (fun x:Int × Int=>x.2))[((i:Nat):Int).toNat]'hiB)]):=Ae7 b1 b2
     rw[hst]at hnx
     refine T ?_
     refine X (Bu [1014] Y F226 q1 (.cons (.row Y Y) (.cons (.refl _) .nil)) Y Y) ?_
     refine X (Bu [1010] Y F226 qM (.cons (.row Y Y) (.cons (.refl _) .nil)) Y Y) ?_
     refine X (Ak Γ.toTy 49 rfl rfl rfl rfl rfl (.row rfl) (.lit (e:=Aa) (l:=[((ab.map (fun x:Int × Int=>x.2))[((i:Nat):Int).toNat]'hiB)]) rfl rfl) (by intro k hk;cases hk;decide) (by simp only[List.length_singleton];omega) (by simp only[List.length_singleton];omega)) ?_
     refine X (Bu [49] Y F226 qM2 (.cons (.row Y Y) (.cons (.refl _) .nil)) Y Y) ?_
     refine X (Bu [1014] Y F226 q1 (.cons (.row Y Y) (.cons (.refl _) .nil)) Y Y) ?_
     exact Ad (i+1) [(1010,49)] hit z_ ⟨⟨Y,Y,Y,Y,Y,Y,Y,Y,Y,Y,Y,Y,Y,Y,q_⟩,⟨.inl (congrArg (Ob.row 1 Aa) (Je hnx).1),Y,.inl (congrArg (Ob.row 1 Aa) (Je hnx).2),Y,q_⟩,Y,Y⟩
    | true =>
     rw[b2]at qM
     have hst:B7 (P,M) (((ab.map (fun x:Int × Int=>x.1))[((i:Nat):Int).toNat]'hiA),((ab.map (fun x:Int × Int=>x.2))[((i:Nat):Int).toNat]'hiB))=(P,M):=Ae6 b1 b2
     rw[hst]at hnx
     refine T ?_
     refine X (Bu [1014] Y F226 q1 (.cons (.row Y Y) (.cons (.refl _) .nil)) Y Y) ?_
     refine X (Bu [1010] Y F226 qM (.cons (.row Y Y) (.cons (.refl _) .nil)) Y Y) ?_
     refine X (Bu [1010] Y F226 qM (.cons (.row Y Y) (.cons (.refl _) .nil)) Y Y) ?_
     refine X (Bu [1014] Y F226 q1 (.cons (.row Y Y) (.cons (.refl _) .nil)) Y Y) ?_
     exact Ad (i+1) [] hit z_ ⟨⟨Y,Y,Y,Y,Y,Y,Y,Y,Y,Y,Y,Y,Y,Y,q_⟩,⟨.inl (congrArg (Ob.row 1 Aa) (Je hnx).1),Y,.inl (congrArg (Ob.row 1 Aa) (Je hnx).2),Y,q_⟩,Y,Y⟩
   | false =>
    rw[b1]at q1
    cases b2:inB M ((ab.map (fun x:Int × Int=>x.2))[((i:Nat):Int).toNat]'hiB) with
    | false =>
     rw[b2]at qM
     have hst:B7 (P,M) (((ab.map (fun x:Int × Int=>x.1))[((i:Nat):Int).toNat]'hiA),((ab.map (fun x:Int × Int=>x.2))[((i:Nat):Int).toNat]'hiB))=(P,M):=Ae9 b1 b2
     rw[hst]at hnx
     refine T ?_
     refine X (Bu [1014] Y F226 q1 (.cons (.row Y Y) (.cons (.refl _) .nil)) Y Y) ?_
     refine X (Bu [1010] Y F226 qM (.cons (.row Y Y) (.cons (.refl _) .nil)) Y Y) ?_
     exact Ad (i+1) [] hit z_ ⟨⟨Y,Y,Y,Y,Y,Y,Y,Y,Y,Y,Y,Y,Y,Y,q_⟩,⟨.inl (congrArg (Ob.row 1 Aa) (Je hnx).1),Y,.inl (congrArg (Ob.row 1 Aa) (Je hnx).2),Y,q_⟩,Y,Y⟩
    | true =>
     rw[b2]at qM
     have hst:B7 (P,M) (((ab.map (fun x:Int × Int=>x.1))[((i:Nat):Int).toNat]'hiA),((ab.map (fun x:Int × Int=>x.2))[((i:Nat):Int).toNat]'hiB))=(P++[((ab.map (fun x:Int × Int=>x.1))[((i:Nat):Int).toNat]'hiA)],M):=Ae8 b1 b2
     rw[hst]at hnx
     refine T ?_
     refine X (Bu [1014] Y F226 q1 (.cons (.row Y Y) (.cons (.refl _) .nil)) Y Y) ?_
     refine X (Bu [1010] Y F226 qM (.cons (.row Y Y) (.cons (.refl _) .nil)) Y Y) ?_
     refine X (Bu [1014] Y F226 q1 (.cons (.row Y Y) (.cons (.refl _) .nil)) Y Y) ?_
     refine X (Ak Γ.toTy 71 rfl rfl rfl rfl rfl (.row rfl) (.lit (e:=Aa) (l:=[((ab.map (fun x:Int × Int=>x.1))[((i:Nat):Int).toNat]'hiA)]) rfl rfl) (by intro k hk;cases hk;decide) (by simp only[List.length_singleton];omega) (by simp only[List.length_singleton];omega)) ?_
     exact Ad (i+1) [(1014,71)] hit z_ ⟨⟨Y,Y,Y,Y,Y,Y,Y,Y,Y,Y,Y,Y,Y,Y,q_⟩,⟨.inl (congrArg (Ob.row 1 Aa) (Je hnx).1),Y,.inl (congrArg (Ob.row 1 Aa) (Je hnx).2),Y,q_⟩,Y,Y⟩
  ·have hie:i=ab.length:=qB h
   clear h
   rw[hie,List.take_length,← hrs]
   refine T ?_
   exact Ad (k+1) [] hlt z_ U
 ·have hke:k=2 * ab.length+1:=qB h
  clear h
  rw[hke]at l1 l2 ⊢
  rw[hke]at hkl
  have q:=Ie (Bz ab (2 * ab.length+1) ([part],[])).2 mesh (by show _<2147483648;omega)
  rw[← hres]at q
  refine T ?_
  refine X (Bu [1010] Y F226 q (.cons (.row Y Y) (.cons (.refl _) .nil)) Y Y) ?_
  exact D
theorem Akr (n:Net):(Un n).length=n.domains.length:=by
 rw[Un,Q1,(Dt _).2]
theorem Amb (n:Net) (hn:n.Fin) (hr:Ai n=true):Sy.Spec Tryz.prog 40 [Aj n] [] (.tup [Aa (loopT n).1,Ab (loopT n).2]) []:=cT F40 Tryz.ntmps40 fun F hF=>by
 have qL:=Ajp n hn hr
 have hres:=Af8 hr
 have hpl:=Akr n
 have hfew:=(Aen hr).2.2.2.1
 generalize loopT n=res at *
 generalize Un n=part at *
 refine T ?_
 refine A4 1 8 (Aj n) Y Y Y ?_
 refine C qL F141 ?_
 refine Cm 5 900 1 Aa Y Y ?_
 refine Cm 6 901 1 Aa Y Y ?_
 refine At (fun x:Nat × List (Int × Int)=>x.1≤n.domains.length∧x.2.length≤x.1∧U9 part x.2 x.1 (n.domains.drop x.1)=res) (fun x=>[(1,.ref 8 (Aj n) 0),(4,.sl 1 Aa part),(5,.osl 1900),(6,.osl 1901),(7,Aa x.1)]) (fun x=>[(1900,.row 1 Aa (x.2.map (·.1))),(1901,.row 1 Aa (x.2.map (·.2)))]) (fun x=>n.domains.length-x.1) (0,[]) [(1900,900),(1901,901)] ⟨by omega,by simp,hres⟩ U ?_
 rintro ⟨i,ab⟩ ⟨h1,h2,hI⟩
 dsimp only at h1 h2 hI ⊢
 have hA:(ab.map (fun x:Int × Int=>x.1)).length=ab.length:=List.length_map _
 have hB:(ab.map (fun x:Int × Int=>x.2)).length=ab.length:=List.length_map _
 refine T ?_
 refine⟨fun h=>?_,fun h=>?_⟩
 ·have hlt:i<n.domains.length:=qA h
  have hi0:((i:Nat):Int).toNat<n.domains.length:=hlt
  have hip:((i:Nat):Int).toNat<part.length:=by rw[hpl];exact hlt
  clear h
  have hpp:(n.domains[((i:Nat):Int).toNat]'hi0).peers.length<2147483648:=hn.peers _ (List.getElem_mem hi0)
  rw[List.drop_eq_getElem_cons hlt,U9,Ar hip]at hI
  have qm:=Ama n hn i hlt
  have qw:=Ao7 ab (part[((i:Nat):Int).toNat]'hip) (E9 (i:Int) (n.domains[((i:Nat):Int).toNat]'hi0).peers) z_
  have hde:n.domains[i]=(n.domains[((i:Nat):Int).toNat]'hi0):=rfl
  rw[hde]at hI
  by_cases hpe:(n.domains[((i:Nat):Int).toNat]'hi0).peers=[]
  ·have g:(((n.domains[((i:Nat):Int).toNat]'hi0).peers.length:Int) == 0)=true:=by rw[hpe];rfl
   rw[if_pos hpe]at hI
   refine T ?_
   exact Ad (i+1,ab) [] ⟨hlt,by dsimp only;omega,hI⟩ (by dsimp only;omega) U
  have g:(((n.domains[((i:Nat):Int).toNat]'hi0).peers.length:Int) == 0)=false:=by
   rw[beq_eq_false_iff_ne]
   have:=List.length_pos_iff.2 hpe
   omega
  rw[if_neg hpe]at hI
  cases hw:wayJ ab (part[((i:Nat):Int).toNat]'hip) (E9 (i:Int) (n.domains[((i:Nat):Int).toNat]'hi0).peers) with
  | true =>
   rw[hw]at qw
   rw[hw,if_pos rfl]at hI
   subst hI
   refine T ?_
   refine C qm F143 ?_
   refine Xd (Bu [1900,1901] Y F142 qw (.cons (.row Y Y) (.cons (.row Y Y) (.cons (.refl _) (.cons (.refl _) .nil)))) Y Y) ?_
   exact D
  | false =>
   rw[hw]at qw
   rw[hw,if_neg y_]at hI
   refine T ?_
   refine C qm F143 ?_
   refine Xd (Bu [1900,1901] Y F142 qw (.cons (.row Y Y) (.cons (.row Y Y) (.cons (.refl _) (.cons (.refl _) .nil)))) Y Y) ?_
   refine X (Ak Γ.toTy 47 rfl rfl rfl rfl rfl (.row rfl) (.lit (e:=Aa) (l:=[(part[((i:Nat):Int).toNat]'hip)]) rfl rfl) (by intro k hk;cases hk;decide) (by simp only[List.length_singleton];omega) (by simp only[List.length_singleton];omega)) ?_
   refine C qm F143 ?_
   refine X (Ak Γ.toTy 53 rfl rfl rfl rfl rfl (.row rfl) (.lit (e:=Aa) (l:=[E9 (i:Int) (n.domains[((i:Nat):Int).toNat]'hi0).peers]) rfl rfl) (by intro k hk;cases hk;decide) (by simp only[List.length_singleton];omega) (by simp only[List.length_singleton];omega)) ?_
   exact Ad (i+1,ab++[((part[((i:Nat):Int).toNat]'hip),E9 (i:Int) (n.domains[((i:Nat):Int).toNat]'hi0).peers)]) [(1900,47),(1901,53)] ⟨hlt,by dsimp only;rw[List.length_append,List.length_singleton];omega,hI⟩ (by dsimp only;omega)
    ⟨⟨rfl,rfl,rfl,rfl,rfl,rfl,rfl,rfl,rfl,rfl,trivial⟩,⟨.inl (congrArg (Ob.row 1 Aa) (List.map_append)),rfl,.inl (congrArg (Ob.row 1 Aa) (List.map_append)),rfl,trivial⟩,rfl,rfl⟩
 ·have hie:i=n.domains.length:=qB h
  clear h
  rw[hie,List.drop_length,U9]at hI
  subst hI
  refine T ?_
  exact D
def Ss (dn lk:Int) (M:List LineM) (n:Net) (row e:Int):List SV:=[.val (.int .u32 dn),.val (.int .i32 lk),.val (.int .u32 0),.sl 17 Am M]++Bi n++[Aa row,Aa e]
def Et (dn lk:Int) (M:List LineM) (x:Net × Int × Int):Obs:=[(0,.box (Ss dn lk M x.1 x.2.1 x.2.2))]
theorem Am8 {n:Net} (h:(meshNT n).2.2=0):(meshNT n).2.1=0:=by
 unfold meshNT at h ⊢
 split
 ·rfl
 rename_i h1
 rw[if_neg h1]at h
 split at h
 ·cases h
 ·rename_i h2
  split at h
  ·cases h
  ·rename_i h3
   rw[if_neg h3]
theorem Af0 (M:List LineM) (hM:∀ l∈M,LineW l) (hl:M.length<2147483648) (dn lk:Int):Sy.Spec Tryz.prog 112 [.ptr 0 0] (Et dn lk M (emptyN,0,0)) (.tup []) (Et dn lk M (Cy M)):=cT F112 Tryz.ntmps112 fun F hF=>by
 refine T ?_
 refine At (fun x:Nat × Net=>x.1≤M.length∧x.2.Fin∧E7 x.2∧Cy M=Hs x.2 (M.drop x.1)) (fun x=>[(0,.ptr 0 0),(9,.sl 17 Am M),(10,Aa M.length),(11,Aa x.1)]) (fun x=>Et dn lk M (x.2,0,0)) (fun x=>M.length-x.1) (0,emptyN) [] ⟨by omega,Es,(fun x hx=>by cases hx),rfl⟩ U ?_
 rintro ⟨j,n⟩ ⟨hj,hn,ha,hI⟩
 dsimp only at hj hn ha hI ⊢
 refine T ?_
 refine⟨fun h=>?_,fun h=>?_⟩
 ·have hlt:j<M.length:=qA h
  have hj0:((j:Nat):Int).toNat<M.length:=hlt
  clear h
  have hw:=hM _ (List.getElem_mem hj0)
  have q:=Apl n hn ha _ hw
  have hp:=Aav hn ha hw
  rw[List.drop_eq_getElem_cons hlt,Hs]at hI
  refine T ?_
  refine cD q F206 ?_
  refine T ?_
  refine⟨fun h=>?_,fun h=>?_⟩
  ·have hne:(putT n (M[((j:Nat):Int).toNat]'hj0)).2≠0:=by intro e;rw[e]at h;cases h
   have he:=hp.none hne
   have hI2:Cy M=(emptyN,(M[((j:Nat):Int).toNat]'hj0).row,(putT n (M[((j:Nat):Int).toNat]'hj0)).2):=hI.trans (if_pos hne)
   rw[hI2,← he]
   clear h
   refine T ?_
   exact done Y .nil [] (Et dn lk M ((putT n (M[((j:Nat):Int).toNat]'hj0)).1,(M[((j:Nat):Int).toNat]'hj0).row,(putT n (M[((j:Nat):Int).toNat]'hj0)).2)) (fun _ h=>h) Y Y U
  ·have he:(putT n (M[((j:Nat):Int).toNat]'hj0)).2=0:=by simpa using h
   have hI2:Cy M=Hs (putT n (M[((j:Nat):Int).toNat]'hj0)).1 (M.drop (j+1)):=hI.trans (if_neg (fun hh=>hh he))
   clear h
   refine T ?_
   exact Ad (j+1,(putT n (M[((j:Nat):Int).toNat]'hj0)).1) [] ⟨hlt,hp.fin,hp.addrs,hI2⟩ (by dsimp only;omega) ⟨⟨Y,Y,Y,Y,Y,Y,Y,Y,q_⟩,⟨.inl (congrArg (fun e:Int=>Ob.box (Ss dn lk M (putT n (M[((j:Nat):Int).toNat]'hj0)).1 0 e)) he.symm),Y,q_⟩,Y,Y⟩
 ·have hje:j=M.length:=qB h
  clear h
  rw[hje,List.drop_length,Hs]at hI
  rw[hI]
  have qm:=meshS n hn
  have hf:=finishT.eq_1 n
  refine T ?_
  refine C qm F23 ?_
  refine T ?_
  refine⟨fun h=>?_,fun h=>?_⟩
  ·have hne:(meshNT n).2.2≠0:=by intro e;rw[e]at h;cases h
   rw[if_pos hne]at hf
   rw[hf]
   clear h
   refine T ?_
   exact done Y .nil [] (Et dn lk M (meshNT n)) (fun _ h=>h) Y Y U
  have he:(meshNT n).2.2=0:=by simpa using h
  clear h
  have hrow:(meshNT n).2.1=0:=Am8 he
  rw[if_neg (by rw[he];decide)]at hf
  have ql:=loopS (meshNT n).1 (O3 hn)
  refine T ?_
  refine C ql F24 ?_
  refine T ?_
  refine⟨fun h=>?_,fun h=>?_⟩
  ·rw[if_pos h]at hf
   rw[hf]
   clear h
   refine T ?_
   refine Ah 0 (Ss dn lk M emptyN (loopT (meshNT n).1).1 38) Y (.cons (.refl _) (.cons (.refl _) (.cons (.refl _) (.cons (.refl _) (.cons .nil (.cons .nil (.cons .nil (.cons .nil (.cons .nil (.cons .nil (.cons .nil (.cons .nil (.cons (.refl _) (.cons (.refl _) .nil)))))))))))))) ?_
   exact C0 Y .nil [] (Et dn lk M (emptyN,(loopT (meshNT n).1).1,38)) (fun _ h=>h) Y Y U
  ·rw[if_neg (by rw[h];decide)]at hf
   rw[hf]
   clear h
   refine T ?_
   exact C0 Y .nil [] (Et dn lk M ((meshNT n).1,0,0)) (fun _ h=>h) Y Y ⟨q_,⟨.inl (congrArg (fun a:Int × Int=>Ob.box (Ss dn lk M (meshNT n).1 a.1 a.2)) (Prod.ext hrow.symm he.symm:((0:Int),(0:Int))=(meshNT n).2)),Y,q_⟩,Y,Y⟩
end Go.Sy.YtjenpnjajjplkaaGreatDoor
namespace Go.Sy
theorem VwL.get {s:SS} {V:List Nat}:∀ {l m:List SV} (_:VwL s V l m) {i:Nat} {y:SV},Io m i=some y→∃ x,Io l i=some x∧Vw s V x y
 | _,_,.nil,i,y,h=>by cases i<;>simp[Io]at h
 | _,_,.cons (x:=x) h0 hs,0,y,h=>by
  simp only[Io,Option.some.injEq]at h
  subst h
  exact⟨x,Y,h0⟩
 | _,_,.cons h0 hs,i+1,y,h=>VwL.get hs (i:=i) h
theorem VwL.len {s:SS} {V:List Nat}:∀ {l m:List SV} (_:VwL s V l m),m.length=l.length
 | _,_,.nil=>rfl
 | _,_,.cons _ hs=>by simp[VwL.len hs]
theorem RdL.setI {κ:Ka} {w:World} {x:SV} {v:Value} (hx:Rd κ w x v):∀ {l:List SV} {cs:List Value} (i:Nat),RdL κ w l cs→RdL κ w (l.set i x) (cs.set i v)
 | [],cs,i,h=>by simp only[RdL]at h;subst h;simp[RdL]
 | y::l,cs,0,h=>by
  simp only[RdL]at h
  obtain ⟨u,r,rfl,h1,h2⟩:=h
  simp only[List.set_cons_zero,RdL]
  exact⟨v,r,Y,hx,h2⟩
 | y::l,cs,i+1,h=>by
  simp only[RdL]at h
  obtain ⟨u,r,rfl,h1,h2⟩:=h
  simp only[List.set_cons_succ,RdL]
  exact⟨u,_,Y,h1,h2.setI hx i⟩
theorem H3 {κ:Ka} {w:World} {k:Nat} {l:List SV} (hi:Inv κ w) (h:ObOK κ w k (.box l)) {off:Nat} {x:SV} {v:Value} (_hx:x.plain=true) (hv:∀ κ w,Rd κ w x v) (h1:v.oneCell'=true) :
  ∃ b,κ k=.blk b∧(∀ j y,Io l j=some y→∃ u,w.cell? ⟨b,j,none⟩=some u∧Rd κ w y u)∧(∀ j,j<l.length→w.frozen? ⟨b,j,none⟩=false) ∧
   Step (·=k) κ w κ (w.setCell ⟨b,off,none⟩ v)∧Inv κ (w.setCell ⟨b,off,none⟩ v)∧ObOK κ (w.setCell ⟨b,off,none⟩ v) k (.box (l.set off x)):=by
 obtain ⟨b,cs,T,fr,e1,e2,e3,e4,e5⟩:=h
 have hsame:(w.setCell ⟨b,off,none⟩ v).heap[b]? = some (.cells (cs.set off v).toArray T fr):=by
  simp[World.setCell,Array.getElem?_modify,e2]
 have hoth:∀ j,j≠b→(w.setCell ⟨b,off,none⟩ v).heap[j]? = w.heap[j]?:=fun j hj=>heap_setCell_other w ⟨b,off,none⟩ j v hj
 obtain ⟨st,inv⟩:=J7 (w':=w.setCell ⟨b,off,none⟩ v) hi (k:=k) (b:=b) (by rw[e1];rfl) rfl rfl rfl qe hoth
 have hlen:=e5.length
 refine⟨b,e1,fun j y hy=>?_,fun j hj=>?_,st,inv,b,_,T,fr,e1,hsame,by rw[List.length_set];exact e3,?_,(RdL.step st _ _ e5).setI (hv _ _) off⟩
 ·obtain ⟨u,hu,hr⟩:=e5.get hy
  exact⟨u,by rw[cell_of_row w b j cs.toArray T fr e2,List.getElem?_toArray];exact hu,hr⟩
 ·obtain ⟨lo,hi'⟩:=fr
  simp only[World.frozen?,e2]
  rcases e3 with h | h
  ·simp only at h;subst h;simp
  ·simp only at h;simp;omega
 ·intro c hc
  rcases List.mem_or_eq_of_mem_set hc with h | h
  ·exact e4 c h
  ·rw[h];exact h1
theorem Y5 {P:Program} {o:Oper} {s:SS} {f:FuncId} {ik:IntKind} {ts:Array TypeId} {x:Operand} {k off:Nat} {l:List SV} {v:Int}
  (hf:∀ (a:Addr) (x:Int) (w:World),w.cell? a=some (.int ik x)→(callFunc f #[.pointer (some a)]).run P w=.ok (.value (.int ik x)) w)
  (h:o.op=.call ⟨.value (.func f),#[x],ts⟩) (hx:ev s x=.ptr k off) (hk:s.h k=.box l) (hy:Io l off=some (.val (.int ik v))):Good P o s ⟨.val (.int ik v),[k],[]⟩ :=
 Good.pure fun κ a w hi hr ho=>by
  have h1:=hr x (by simp[h,Op.operands,Call.operands])
  rw[hx]at h1
  have h2:=ho k qe
  rw[hk]at h2
  obtain ⟨b,cs,T,fr,e1,e2,e3,e4,e5⟩:=h2
  simp only[Rd,e1]at h1
  obtain ⟨u,hu,hr2⟩:=e5.get hy
  have hc:w.cell? ⟨b,off,none⟩=some (.int ik v):=by rw[cell_of_row w b off cs.toArray T fr e2,List.getElem?_toArray,hu,hr2.val]
  have hrun:=hf ⟨b,off,none⟩ v w hc
  refine⟨.int ik v,?_,by simp only[Rd]⟩
  have hev:a.eval (.func f)=.func (.func f) #[] #[]:=rfl
  simp[execOp,h,resolve,hev,Deferred.ofValue,invoke,h1,hrun]
end Go.Sy
