/-
  I54 KM K1 K2 I55 I34 I35 I56 I57 I58 I59 I7l I8l I36 I37 I39 I38 I40 I42 I44 I45 I60 I61 I24 I62 I25 RB13 Sy41 NB22 RB2 NB21 NB23 RB14: parts of a proof, joined by program.
-/
import Derived.Test.YtjenpnjajjplkaaGreatDoorXO9
import Derived.Test.YtjenpnjajjplkaaGreatDoorXO3
import Derived.Test.YtjenpnjajjplkaaGreatDoorXO4
import Derived.Test.YtjenpnjajjplkaaGreatDoorXO5
import Derived.Test.YtjenpnjajjplkaaGreatDoorXO6
import Derived.Test.YtjenpnjajjplkaaGreatDoorXO8
import Derived.Test.YtjenpnjajjplkaaGreatDoorXO7
set_option linter.all false
set_option linter.unusedVariables false
set_option linter.unusedSimpArgs false
set_option linter.deprecated false
namespace Go.Sy.YtjenpnjajjplkaaGreatDoor
open Go.Proofs
attribute [local irreducible] Go.Sy.G Go.Sy.DR
set_option maxRecDepth 100000
set_option maxHeartbeats 4000000
theorem Ala {s:ByteArray} (h:s.size≠0):(((Ai s (0:Int).toNat).toNat:Int) == 45)=Sh s:=by
 unfold Sh
 have hl:s.data.toList.length=s.size:=rfl
 match hs:s.data.toList with
 | []=>rw[hs]at hl;exact absurd hl.symm h
 | c::r =>
  have e:Ai s (0:Int).toNat=c:=by show Ai s 0=c;simp[Ai,hs]
  rw[e,List.head?_cons]
  by_cases hc:c=45
  ·subst hc;rfl
  ·have h1:(((c.toNat:Int)) == 45)=false:=by
    rw[beq_eq_false_iff_ne]
    intro e
    exact hc (UInt8.toNat_inj.1 (by show _=45;omega))
   rw[h1]
   symm
   rw[beq_eq_false_iff_ne]
   intro e
   exact hc (Option.some.inj e)
theorem Qa (s:ByteArray) (lo hi:Int) (h0:0≤lo) (hs:s.size≤1000000):Sy.Spec Tryz.prog 311 [Ad s,Aa lo,Aa hi] [] (.tup [Aa (numR s lo hi).1,Ab (numR s lo hi).2]) []:=cT F311 Tryz.ntmps311 fun F hF=>by
 have hres:=numR.eq_1 s lo hi
 generalize numR s lo hi=res at *
 have hnv:=numV.eq_1 s
 have hng:=@neg_digs s
 have hps:=@pos_digs s
 generalize numV s=nv at *
 generalize hD:H6 s=dg at *
 by_cases e0:s.size=0
 ·have f0:decide ((s.size:Int)>0)=false:=decide_eq_false z_
  have hn0:Sh s=false:=by
   unfold Sh
   rw[List.length_eq_zero_iff.1 (show s.data.toList.length=0 from e0)]
   rfl
  have hl:=(hps hn0).1
  rw[if_pos (.inl z_)]at hres
  subst hres
  have f1:decide ((s.size:Int)-0<1)=true:=decide_eq_true z_
  refine T ?_
  exact D
 have f0:decide ((s.size:Int)>0)=true:=decide_eq_true z_
 have hg:=Ala e0
 cases hn:Sh s
 ·rw[hn]at hg hnv
  obtain ⟨hL,hB⟩:=hps hn
  by_cases h1:dg.length<1∨10<dg.length
  ·rw[if_pos h1]at hres
   subst hres
   by_cases h2:dg.length<1
   ·exact absurd h2 z_
   ·have f1:decide ((s.size:Int)-0<1)=false:=decide_eq_false z_
    have f2:decide ((s.size:Int)-0>10)=true:=decide_eq_true z_
    refine T ?_
    exact D
  rw[if_neg h1]at hres
  have f1:decide ((s.size:Int)-0<1)=false:=decide_eq_false z_
  have f2:decide ((s.size:Int)-0>10)=false:=decide_eq_false z_
  refine T ?_
  refine A2 dg.length (fun j=>Da (fun _ c=>Dd c) dg j) (fun j=>[(0,Ad s),(1,Aa lo),(2,Aa hi),(8,Aa 0),(9,Aa (Hs (dg.take j))),(10,Aa ((j:Nat)))]) (fun _=>[]) [] (Av _ _) U ?_
  intro j hj hI
  have hv:=Acd (l:=dg.take j) (by rw[List.length_take];omega) (Wv hI)
  refine T ?_
  refine⟨fun h=>?_,fun h=>?_⟩
  ·have hlt:j<dg.length:=qA h
   clear h
   have hbx:=hB j hlt
   have hno:=fun h=>@all_at' _ Dd dg j hlt h
   have hnx:=fun h=>Aq (p:=fun _ c=>Dd c) hI hlt h
   have hsucc:Hs (dg.take (j+1))=10 * Hs (dg.take j)+((dg[j].toNat:Int)-48):=by rw[List.take_succ_eq_append_getElem hlt,I7]
   have ej:Ai s (((j:Nat):Int)).toNat=dg[j]:=by
    have e1:Ai s (((j:Nat):Int)).toNat=Ai s j:=by rfl
    rw[e1,hbx]
    simp[hlt]
   rw[← ej]at hno hnx hsucc
   have w1:IntKind.i64.wrap ((Ai s (((j:Nat):Int)).toNat).toNat:Int)=((Ai s (((j:Nat):Int)).toNat).toNat:Int):=wrap_u8 _
   have hc2:=(Ai s (((j:Nat):Int)).toNat).toNat_lt
   generalize Hs (dg.take j)=v at *
   have hx:Dd (Ai s (((j:Nat):Int)).toNat)=(decide (48≤(Ai s (((j:Nat):Int)).toNat).toNat) && decide ((Ai s (((j:Nat):Int)).toNat).toNat≤57)):=rfl
   by_cases k1:(Ai s (((j:Nat):Int)).toNat).toNat<48
   ·have g1:decide (((Ai s (((j:Nat):Int)).toNat).toNat:Int)<48)=true:=decide_eq_true z_
    rw[if_pos (hno (by rw[hx,decide_eq_false z_];rfl))]at hres
    subst hres
    refine T ?_
    exact D
   have g1:decide (((Ai s (((j:Nat):Int)).toNat).toNat:Int)<48)=false:=decide_eq_false z_
   by_cases k2:57<(Ai s (((j:Nat):Int)).toNat).toNat
   ·have g2:decide (((Ai s (((j:Nat):Int)).toNat).toNat:Int)>57)=true:=decide_eq_true z_
    rw[if_pos (hno (by rw[hx,decide_eq_false (by omega:¬ (Ai s (((j:Nat):Int)).toNat).toNat≤57),Bool.and_false]))]at hres
    subst hres
    refine T ?_
    exact D
   have g2:decide (((Ai s (((j:Nat):Int)).toNat).toNat:Int)>57)=false:=decide_eq_false z_
   have hdgt:Dd (Ai s (((j:Nat):Int)).toNat)=true:=by rw[hx,decide_eq_true z_,decide_eq_true z_];rfl
   refine T ?_
   exact Ba [] hI z_ (hnx hdgt) ⟨⟨Y,Y,Y,Y,Y,Y,Y,Y,congrArg Aa z_,Y,Y,Y,q_⟩,q_,Y,Y⟩
  ·have hje:j=dg.length:=qB h
   subst hje
   clear h
   rw[if_neg (by rw[I9 hI (Nat.le_refl _)];simp)]at hres
   rw[List.take_length]at hv ⊢
   rw[if_neg qe]at hnv
   subst hnv
   obtain ⟨m,hm⟩:∃ m:Nat,Hs dg=m:=⟨(Hs dg).toNat,by omega⟩
   have q:=Kx m z_
   rw[← hm]at q
   generalize Hs dg=v at *
   by_cases k1:v<lo
   ·have g1:decide (v<lo)=true:=decide_eq_true k1
    rw[if_pos (.inl k1)]at hres
    subst hres
    refine T ?_
    exact D
   have g1:decide (v<lo)=false:=decide_eq_false k1
   by_cases k2:hi<v
   ·have g2:decide (v>hi)=true:=decide_eq_true k2
    rw[if_pos (.inr k2)]at hres
    subst hres
    refine T ?_
    exact D
   have g2:decide (v>hi)=false:=decide_eq_false k2
   rw[if_neg z_]at hres
   by_cases k3:Aw v=s
   ·have g3:=Uj k3
    rw[if_pos ((Eh _ _).2 k3)]at hres
    subst hres
    refine T ?_
    refine C q F372 ?_
    exact D
   ·have g3:=Ui k3
    rw[if_neg (fun h=>k3 ((Eh _ _).1 h))]at hres
    subst hres
    refine T ?_
    refine C q F372 ?_
    exact D
 ·rw[hn]at hg hnv
  obtain ⟨hL,hB⟩:=hng hn
  by_cases h1:dg.length<1∨10<dg.length
  ·rw[if_pos h1]at hres
   subst hres
   by_cases h2:dg.length<1
   ·have f1:decide ((s.size:Int)-1<1)=true:=decide_eq_true z_
    refine T ?_
    exact D
   ·have f1:decide ((s.size:Int)-1<1)=false:=decide_eq_false z_
    have f2:decide ((s.size:Int)-1>10)=true:=decide_eq_true z_
    refine T ?_
    exact D
  rw[if_neg h1]at hres
  have f1:decide ((s.size:Int)-1<1)=false:=decide_eq_false z_
  have f2:decide ((s.size:Int)-1>10)=false:=decide_eq_false z_
  refine T ?_
  refine A2 dg.length (fun j=>Da (fun _ c=>Dd c) dg j) (fun j=>[(0,Ad s),(1,Aa lo),(2,Aa hi),(8,Aa 1),(9,Aa (Hs (dg.take j))),(10,Aa ((j+1:Nat)))]) (fun _=>[]) [] (Av _ _) U ?_
  intro j hj hI
  have hv:=Acd (l:=dg.take j) (by rw[List.length_take];omega) (Wv hI)
  refine T ?_
  refine⟨fun h=>?_,fun h=>?_⟩
  ·have hlt:j<dg.length:=qA h
   clear h
   have hbx:=hB j hlt
   have hno:=fun h=>@all_at' _ Dd dg j hlt h
   have hnx:=fun h=>Aq (p:=fun _ c=>Dd c) hI hlt h
   have hsucc:Hs (dg.take (j+1))=10 * Hs (dg.take j)+((dg[j].toNat:Int)-48):=by rw[List.take_succ_eq_append_getElem hlt,I7]
   have ej:Ai s (((j+1:Nat):Int)).toNat=dg[j]:=by
    have e1:Ai s (((j+1:Nat):Int)).toNat=Ai s (1+j):=by rw[Nat.add_comm 1 j];rfl
    rw[e1,hbx]
    simp[hlt]
   rw[← ej]at hno hnx hsucc
   have w1:IntKind.i64.wrap ((Ai s (((j+1:Nat):Int)).toNat).toNat:Int)=((Ai s (((j+1:Nat):Int)).toNat).toNat:Int):=wrap_u8 _
   have hc2:=(Ai s (((j+1:Nat):Int)).toNat).toNat_lt
   generalize Hs (dg.take j)=v at *
   have hx:Dd (Ai s (((j+1:Nat):Int)).toNat)=(decide (48≤(Ai s (((j+1:Nat):Int)).toNat).toNat) && decide ((Ai s (((j+1:Nat):Int)).toNat).toNat≤57)):=rfl
   by_cases k1:(Ai s (((j+1:Nat):Int)).toNat).toNat<48
   ·have g1:decide (((Ai s (((j+1:Nat):Int)).toNat).toNat:Int)<48)=true:=decide_eq_true z_
    rw[if_pos (hno (by rw[hx,decide_eq_false z_];rfl))]at hres
    subst hres
    refine T ?_
    exact D
   have g1:decide (((Ai s (((j+1:Nat):Int)).toNat).toNat:Int)<48)=false:=decide_eq_false z_
   by_cases k2:57<(Ai s (((j+1:Nat):Int)).toNat).toNat
   ·have g2:decide (((Ai s (((j+1:Nat):Int)).toNat).toNat:Int)>57)=true:=decide_eq_true z_
    rw[if_pos (hno (by rw[hx,decide_eq_false (by omega:¬ (Ai s (((j+1:Nat):Int)).toNat).toNat≤57),Bool.and_false]))]at hres
    subst hres
    refine T ?_
    exact D
   have g2:decide (((Ai s (((j+1:Nat):Int)).toNat).toNat:Int)>57)=false:=decide_eq_false z_
   have hdgt:Dd (Ai s (((j+1:Nat):Int)).toNat)=true:=by rw[hx,decide_eq_true z_,decide_eq_true z_];rfl
   refine T ?_
   exact Ba [] hI z_ (hnx hdgt) ⟨⟨Y,Y,Y,Y,Y,Y,Y,Y,congrArg Aa z_,Y,Y,Y,q_⟩,q_,Y,Y⟩
  ·have hje:j=dg.length:=qB h
   subst hje
   clear h
   rw[if_neg (by rw[I9 hI (Nat.le_refl _)];simp)]at hres
   rw[List.take_length]at hv ⊢
   rw[if_pos rfl]at hnv
   subst hnv
   have q:Sy.Spec Tryz.prog 372 [Aa 0] [] (Ad (Aw 0)) []:=Kx 0 y_
   have hd0:(Aw 0 == s)=false:=by
    cases hb:(Aw 0 == s)
    ·rfl
    ·exfalso
     have e:=(Eh _ _).1 hb
     rw[← e]at hn
     exact absurd hn (by decide +kernel)
   generalize Hs dg=v at *
   by_cases k1:0-v<lo
   ·have g1:decide (0-v<lo)=true:=decide_eq_true k1
    rw[if_pos (.inl k1)]at hres
    subst hres
    refine T ?_
    exact D
   have g1:decide (0-v<lo)=false:=decide_eq_false k1
   by_cases k2:hi<0-v
   ·have g2:decide (0-v>hi)=true:=decide_eq_true k2
    rw[if_pos (.inr k2)]at hres
    subst hres
    refine T ?_
    exact D
   have g2:decide (0-v>hi)=false:=decide_eq_false k2
   rw[if_neg z_]at hres
   obtain rfl:v=0:=by omega
   rw[show (0-0:Int)=0 from rfl,hd0,if_neg qe]at hres
   subst hres
   have g3:(!(Aw 0 == s))=true:=by rw[hd0];rfl
   refine T ?_
   refine C q F372 ?_
   exact D
theorem Ade (s:ByteArray) (hs:s.size≤1000000):Sy.Spec Tryz.prog 378 [Ad s] [] (.sl 1 Ad (Bd 44 s)) []:=cT F378 Tryz.ntmps378 fun F hF=>by
 rw[I2]
 refine T ?_
 refine De 5 Ad [⟨#[]⟩] Y Y ?_
 refine T ?_
 refine Au (fun x:Nat × List ByteArray × List UInt8=>x.1≤s.size∧x.2.1.length≤x.1∧x.2.2.length≤x.1∧By 44 [] s.data.toList=x.2.1++By 44 x.2.2 (s.data.toList.drop x.1)) (fun x=>[(0,Ad s),(3,.osl 1000),(4,Aa x.1)]) (fun x=>[(1000,.row 1 Ad (x.2.1++[mkT x.2.2]))]) (fun x=>s.size-x.1) (0,[],[]) [(1000,5)] ⟨by simp,by simp,by simp,by simp⟩ U ?_
 rintro ⟨i,P,cur⟩ ⟨h1,h2,h3,hI⟩
 dsimp only at h1 h2 h3 hI ⊢
 refine T ?_
 refine⟨fun h=>?_,fun h=>?_⟩
 ·have hlt0:i<s.size:=qA h
  have hlt:i<s.data.toList.length:=hlt0
  clear h
  have hb:Ai s i=s.data.toList[i]:=Hx hlt
  have ej:Ai s ((i:Nat):Int).toNat=Ai s i:=rfl
  have hln:(P++[mkT cur]).length=P.length+1:=by simp
  rw[List.drop_eq_getElem_cons hlt,By,← hb]at hI
  by_cases k1:Ai s i=44
  ·have g1:(((Ai s ((i:Nat):Int).toNat).toNat:Int) == 44)=true:=by rw[ej,k1];rfl
   rw[if_pos k1]at hI
   refine T ?_
   refine X (Ak Γ.toTy 18 Y Y Y Y Y (.row Y) (.lit (e:=Ad) (l:=[⟨#[]⟩]) Y Y) qe (by simp only[List.length_singleton];omega) (by simp only[List.length_singleton];omega)) ?_
   exact Ae (i+1,P++[mkT cur],([]:List UInt8)) [(1000,18)] ⟨hlt0,by dsimp only;omega,by simp,by rw[hI];simp⟩ (by dsimp only;omega) U
  ·have g1:(((Ai s ((i:Nat):Int).toNat).toNat:Int) == 44)=false:=by
    rw[ej,beq_eq_false_iff_ne]
    intro e
    exact k1 (UInt8.toNat_inj.1 (by show _=44;omega))
   rw[if_neg k1]at hI
   have hx:mkT (cur++[Ai s i])=mkT cur++s.extract ((i:Nat):Int).toNat (((i:Nat):Int)+1).toNat:=by
    apply It
    rw[Sx,Bv,Bv,← Cv s,Cr,Bv]
    have e1:(((i:Nat):Int)+1).toNat=i+1:=by omega
    simp only[e1,Int.toNat_natCast,Cv]
    rw[List.take_succ_eq_append_getElem hlt,List.drop_append_of_le_length (by rw[List.length_take];omega),List.drop_eq_nil_of_le (by rw[List.length_take];omega),← hb]
    rfl
   have hz1:(mkT cur).size=cur.length:=Bp cur
   have hz2:(s.extract ((i:Nat):Int).toNat (((i:Nat):Int)+1).toNat).size≤1:=by rw[ByteArray.size_extract];omega
   have hlst:∀ (h:(((P++[mkT cur]).length:Int)-1).toNat<(P++[mkT cur]).length),(P++[mkT cur])[(((P++[mkT cur]).length:Int)-1).toNat]'h=mkT cur:=fun h=>by
    have e:(((P++[mkT cur]).length:Int)-1).toNat=P.length:=by omega
    simp only[e]
    simp
   have hset:∀ y,(P++[mkT cur]).set (((P++[mkT cur]).length:Int)-1).toNat y=P++[y]:=fun y=>by
    have e:(((P++[mkT cur]).length:Int)-1).toNat=P.length:=by omega
    rw[e,List.set_append_right _ _ (Nat.le_refl _),Nat.sub_self]
    rfl
   generalize hR:P++[mkT cur]=R at *
   have b1:(((R.length:Int))-1).toNat<R.length:=by omega
   have hl0:=hlst b1
   have g4:(R[(((R.length:Int))-1).toNat]'b1).size+(s.extract ((i:Nat):Int).toNat (((i:Nat):Int)+1).toNat).size≤9223372036854775807:=by rw[hl0];omega
   refine T ?_
   refine⟨⟨by omega,by omega,by omega⟩,?_⟩
   refine T ?_
   refine⟨(R[(((R.length:Int))-1).toNat]'b1)++s.extract ((i:Nat):Int).toNat (((i:Nat):Int)+1).toNat,Y,Y,?_⟩
   refine T ?_
   refine Ae (i+1,P,cur++[Ai s i]) [] ⟨hlt0,by dsimp only;omega,by simp;omega,hI⟩ (by dsimp only;omega) ⟨⟨Y,Y,Y,Y,Y,Y,q_⟩,⟨.inl (congrArg (Ob.row 1 Ad) ?_),Y,q_⟩,Y,Y⟩
   dsimp only
   rw[hset,hl0,hx]
 ·have hie:i=s.size:=qB h
  subst hie
  clear h
  have hdp:s.data.toList.drop s.size=[]:=List.drop_eq_nil_of_le (Nat.le_refl _)
  rw[hdp,By]at hI
  rw[hI]
  refine Ac 1000 Y ?_
  refine T ?_
  exact D
theorem Mu (d:UInt8):∀ (l cur:List UInt8),∀ w∈By d cur l,w.size≤cur.length+l.length
 | [],cur,w,hw=>by
  rw[By,List.mem_singleton]at hw
  subst hw;rw[Bp];omega
 | c::r,cur,w,hw=>by
  rw[By]at hw
  rw[List.length_cons]
  split at hw
  ·rcases List.mem_cons.1 hw with h | h
   ·subst h;rw[Bp];omega
   ·have:=Mu d r [] w h;rw[List.length_nil]at this;omega
  ·have:=Mu d r (cur++[c]) w hw
   rw[List.length_append,List.length_singleton]at this
   omega
theorem Ul (d:UInt8):∀ (l cur:List UInt8),(By d cur l).length≤l.length+1
 | [],cur=>by rw[By];simp
 | c::r,cur=>by
  rw[By]
  split
  ·have:=Ul d r [];simp only[List.length_cons];omega
  ·have:=Ul d r (cur++[c]);rw[List.length_cons];omega
theorem S4 (d:UInt8) (s:ByteArray):(∀ w∈Bd d s,w.size≤s.size)∧(Bd d s).length≤s.size+1:=by
 rw[I2]
 have e:s.data.toList.length=s.size:=rfl
 exact⟨fun w hw=>by have:=Mu d _ _ w hw;rw[List.length_nil,e]at this;omega,by have:=Ul d s.data.toList [];omega⟩
theorem Adf (s:ByteArray) (hi:Int) (hs:s.size≤1000000):Sy.Spec Tryz.prog 376 [Ad s,Aa 1,Aa hi] [] (.tup [.sl 1 Aa (Dr (fun p=>numR p 1 hi) s).1,Ab (Dr (fun p=>numR p 1 hi) s).2]) []:=cT F376 Tryz.ntmps376 fun F hF=>by
 have qs:=Ade s hs
 have hsp:=S4 44 s
 have hres:=Aln hi s
 generalize Dr (fun p=>numR p 1 hi) s=res at *
 generalize Bd 44 s=P at *
 refine T ?_
 refine C qs F378 ?_
 refine C4 9 1000 1 Aa Y Y ?_
 refine T ?_
 refine Au (fun j:Nat=>j≤P.length∧Da (fun _ p=>(numR p 1 hi).2) P j) (fun j=>[(1,Aa 1),(2,Aa hi),(8,.sl 1 Ad P),(9,.osl 1000),(10,Aa j)]) (fun j=>[(1000,.row 1 Aa ((P.take j).map fun p=>(numR p 1 hi).1))]) (fun j=>P.length-j) 0 [] ⟨by simp,Av _ _⟩ U ?_
 rintro j ⟨hj,hU⟩
 refine T ?_
 refine⟨fun h=>?_,fun h=>?_⟩
 ·have hlt:j<P.length:=qA h
  have hlt0:((j:Nat):Int).toNat<P.length:=hlt
  clear h
  have q:=Qa (P[((j:Nat):Int).toNat]'hlt0) 1 hi y_ (by have:=hsp.1 _ (List.getElem_mem hlt0);omega)
  have hno:=fun h=>@all_at' _ (fun p=>(numR p 1 hi).2) P j hlt h
  have hnx:=fun h=>Aq (p:=fun _ p=>(numR p 1 hi).2) hU hlt h
  have hmp:((P.take (j+1)).map fun p=>(numR p 1 hi).1)=((P.take j).map fun p=>(numR p 1 hi).1)++[(numR (P[((j:Nat):Int).toNat]'hlt0) 1 hi).1]:=by
   rw[List.take_succ_eq_append_getElem hlt,List.map_append];rfl
  have hml:((P.take j).map fun p=>(numR p 1 hi).1).length=j:=by rw[List.length_map,List.length_take];omega
  cases hb:(numR (P[((j:Nat):Int).toNat]'hlt0) 1 hi).2 with
  | false =>
   have hno:=hno hb
   rw[if_neg (fun hh=>by rw[List.all_eq_true.2 hh.1]at hno;cases hno)]at hres
   subst hres
   rw[hb]at q
   refine T ?_
   refine C q F311 ?_
   refine Dh 6 1 Aa Y ?_
   refine T ?_
   exact D
  | true =>
   rw[hb]at q
   have hnx:=hnx hb
   generalize (P.take j).map (fun p=>(numR p 1 hi).1)=R at *
   generalize (numR (P[((j:Nat):Int).toNat]'hlt0) 1 hi).1=v at *
   refine T ?_
   refine C q F311 ?_
   refine X (Ak Γ.toTy 36 Y Y Y Y Y (.row Y) (.lit (e:=Aa) (l:=[v]) Y Y) qe (by simp only[List.length_singleton];omega) (by simp only[List.length_singleton];omega)) ?_
   exact Ae (j+1) [(1000,36)] ⟨hlt,hnx⟩ z_ ⟨⟨Y,Y,Y,Y,Y,Y,Y,Y,Y,Y,q_⟩,⟨.inl (congrArg (Ob.row 1 Aa) hmp),Y,q_⟩,Y,Y⟩
 ·have hje:j=P.length:=qB h
  subst hje
  clear h
  have hall:=List.all_eq_true.1 (I9 hU (Nat.le_refl _))
  rw[List.take_length]
  have q:=Xf (P.map fun p=>(numR p 1 hi).1) 1 hi (by unfold At;rw[List.length_map];omega)
  refine Ac 1000 Y ?_
  cases hb:Df (P.map fun p=>(numR p 1 hi).1) 1 hi with
  | false =>
   rw[hb,if_neg (fun hh=>by cases hh.2)]at hres
   rw[hb]at q
   subst hres
   refine T ?_
   refine C q F361 ?_
   refine Dh 6 1 Aa Y ?_
   refine T ?_
   exact D
  | true =>
   rw[hb,if_pos ⟨hall,rfl⟩]at hres
   rw[hb]at q
   subst hres
   refine T ?_
   refine C q F361 ?_
   exact D
theorem Aa5 (s:ByteArray) (hs:s.size≤1000000):Sy.Spec Tryz.prog 316 [Ad s] [] (.tup [.sl 1 A3 (Bk s).1,Ab (Bk s).2]) []:=cT F316 Tryz.ntmps316 fun F hF=>by
 have qs:=Ade s hs
 have hsp:=S4 44 s
 have hres:Bk s=B5 Bo [] (Bd 44 s):=rfl
 generalize Bk s=res at *
 generalize Bd 44 s=P at *
 refine T ?_
 refine C qs F378 ?_
 refine C4 5 1000 1 A3 Y Y ?_
 refine T ?_
 refine Au (fun x:Nat × List Int=>x.1≤P.length∧x.2.length=x.1∧x.1≤16∧res=B5 Bo x.2 (P.drop x.1)) (fun x=>[(4,.sl 1 Ad P),(5,.osl 1000),(6,Aa x.1)]) (fun x=>[(1000,.row 1 A3 x.2)]) (fun x=>P.length-x.1) (0,[]) [] ⟨by simp,by simp,by simp,by simpa using hres⟩ U ?_
 clear hres
 rintro ⟨j,R⟩ ⟨hj,hR,h16,hres⟩
 dsimp only at hj hR h16 hres ⊢
 refine T ?_
 refine⟨fun h=>?_,fun h=>?_⟩
 ·have hlt:j<P.length:=qA h
  have hlt0:((j:Nat):Int).toNat<P.length:=hlt
  clear h
  have q:=Aa7 (P[((j:Nat):Int).toNat]'hlt0) (by have:=hsp.1 _ (List.getElem_mem hlt0);omega)
  have hPj:P[j]=P[((j:Nat):Int).toNat]'hlt0:=rfl
  rw[List.drop_eq_getElem_cons hlt,B5,hPj]at hres
  generalize Bo (P[((j:Nat):Int).toNat]'hlt0)=rt at *
  obtain ⟨v,b⟩:=rt
  dsimp only at hres q
  cases b with
  | false =>
   rw[if_pos (.inl rfl)]at hres
   subst hres
   refine T ?_
   refine C q F315 ?_
   refine Dh 2 1 A3 Y ?_
   refine T ?_
   exact D
  | true =>
   by_cases k1:j=16
   ·have g1:decide ((j:Int)≥16)=true:=decide_eq_true z_
    rw[if_pos (.inr (.inl z_))]at hres
    subst hres
    refine T ?_
    refine C q F315 ?_
    refine Dh 2 1 A3 Y ?_
    refine T ?_
    exact D
   have g1:decide ((j:Int)≥16)=false:=decide_eq_false z_
   by_cases k2:j=0
   ·have g2:decide ((j:Int)>0)=false:=decide_eq_false z_
    obtain rfl:R=[]:=List.length_eq_zero_iff.1 z_
    rw[if_neg qe]at hres
    refine T ?_
    refine C q F315 ?_
    refine X (Ak Γ.toTy 47 Y Y Y Y Y (.row Y) (.lit (e:=A3) (l:=[v]) Y Y) qe (by simp only[List.length_singleton];omega) (by simp only[List.length_singleton];simp)) ?_
    exact Ae (j+1,[]++[v]) [(1000,47)] ⟨hlt,by simp;omega,by dsimp only;omega,hres⟩ (by dsimp only;omega) U
   have g2:decide ((j:Int)>0)=true:=decide_eq_true z_
   have b1:((j:Int)-1).toNat<R.length:=by omega
   have hlast:R.getLast? = some (R[((j:Int)-1).toNat]'b1):=by
    rw[List.getLast?_eq_getElem?,List.getElem?_eq_getElem z_]
    have e:R.length-1=((j:Int)-1).toNat:=by omega
    simp only[e]
   by_cases k3:v≤R[((j:Int)-1).toNat]'b1
   ·have g3:decide (R[((j:Int)-1).toNat]'b1≥v)=true:=decide_eq_true k3
    rw[if_pos (.inr (.inr ⟨_,hlast,k3⟩))]at hres
    subst hres
    refine T ?_
    refine C q F315 ?_
    refine Dh 2 1 A3 Y ?_
    refine T ?_
    exact D
   have g3:decide (R[((j:Int)-1).toNat]'b1≥v)=false:=decide_eq_false k3
   rw[if_neg (by
    rintro (hh | hh | ⟨x,hx,hxv⟩)
    ·cases hh
    ·omega
    ·rw[hlast]at hx
     rw[← Option.some.inj hx]at hxv
     exact k3 hxv)]at hres
   refine T ?_
   refine C q F315 ?_
   refine X (Ak Γ.toTy 47 Y Y Y Y Y (.row Y) (.lit (e:=A3) (l:=[v]) Y Y) qe (by simp only[List.length_singleton];omega) (by simp only[List.length_singleton];omega)) ?_
   exact Ae (j+1,R++[v]) [(1000,47)] ⟨hlt,by simp;omega,by dsimp only;omega,hres⟩ (by dsimp only;omega) U
 ·have hje:j=P.length:=qB h
  subst hje
  clear h
  rw[List.drop_length,B5]at hres
  subst hres
  refine Ac 1000 Y ?_
  refine T ?_
  exact D
theorem Apt (s:ByteArray) (hs:s.size≤1000000):Sy.Spec Tryz.prog 309 [Ad s] [] (Ab (nameB s)) []:=cT F309 Tryz.ntmps309 fun F hF=>by
 have hw:=nameB.eq_1 s
 obtain ⟨r,hr⟩:∃ r,nameB s=r:=⟨_,rfl⟩
 rw[hr]at hw ⊢
 have hL:s.data.toList.length=s.size:=rfl
 by_cases h0:s.size<1
 ·have f0:decide ((s.size:Int)<1)=true:=decide_eq_true z_
  have e:r=false:=by rw[hw,List.length_eq_zero_iff.1 (show s.data.toList.length=0 by omega)];rfl
  subst e
  refine T ?_
  exact D
 have f0:decide ((s.size:Int)<1)=false:=decide_eq_false z_
 by_cases h1:s.size>12
 ·have f1:decide ((s.size:Int)>12)=true:=decide_eq_true z_
  have e:r=false:=by rw[hw,decide_eq_false (by omega:¬ s.size≤12),Bool.and_false]
  subst e
  refine T ?_
  exact D
 have f1:decide ((s.size:Int)>12)=false:=decide_eq_false z_
 have hN:r=(letB (Ai s (0:Int).toNat) && s.data.toList.all fun c=>letB c || Dd c):=by
  rw[hw,decide_eq_true (by omega:s.size≤12),Bool.and_true]
  match hs:s.data.toList,hL with
  | [],hL=>simp at hL;omega
  | c::t,_ =>
   have e:Ai s (0:Int).toNat=c:=by show Ai s 0=c;simp[Ai,hs]
   rw[e,Anu,List.all_cons]
   cases letB c<;>simp
 clear hw
 have hx0:letB (Ai s (0:Int).toNat)=(decide (97≤(Ai s (0:Int).toNat).toNat) && decide ((Ai s (0:Int).toNat).toNat≤122)):=rfl
 by_cases k1:(Ai s (0:Int).toNat).toNat<97
 ·have g1:decide (((Ai s (0:Int).toNat).toNat:Int)<97)=true:=decide_eq_true z_
  have e:r=false:=by rw[hN,hx0,decide_eq_false z_];rfl
  subst e
  refine T ?_
  exact D
 have g1:decide (((Ai s (0:Int).toNat).toNat:Int)<97)=false:=decide_eq_false z_
 by_cases k2:(Ai s (0:Int).toNat).toNat>122
 ·have g2:decide (((Ai s (0:Int).toNat).toNat:Int)>122)=true:=decide_eq_true z_
  have e:r=false:=by rw[hN,hx0,decide_eq_false (by omega:¬ (Ai s (0:Int).toNat).toNat≤122),Bool.and_false];rfl
  subst e
  refine T ?_
  exact D
 have g2:decide (((Ai s (0:Int).toNat).toNat:Int)>122)=false:=decide_eq_false z_
 rw[hx0,decide_eq_true z_,decide_eq_true z_,Bool.true_and,Bool.true_and]at hN
 clear hx0 k1 k2
 refine T ?_
 refine A2 s.size (fun j=>Da (fun _ c=>letB c || Dd c) s.data.toList j) (fun j=>[(0,Ad s),(3,Aa j)]) (fun _=>[]) [] (Av _ _) U ?_
 intro j hj hI
 clear g1 g2
 refine T ?_
 refine⟨fun h=>?_,fun h=>?_⟩
 ·have hlt:j<s.data.toList.length:=qA h
  have hb:Ai s j=s.data.toList[j]:=Hx hlt
  have hno:=fun h=>@all_at' _ (fun c=>letB c || Dd c) s.data.toList j hlt h
  have hnx:=fun h=>Aq (p:=fun _ c=>letB c || Dd c) hI hlt h
  rw[← hb]at hno hnx
  clear h
  have hx:(letB (Ai s j) || Dd (Ai s j))=((decide (97≤(Ai s j).toNat) && decide ((Ai s j).toNat≤122)) || (decide (48≤(Ai s j).toNat) && decide ((Ai s j).toNat≤57))):=rfl
  have ej:Ai s ((j:Nat):Int).toNat=Ai s j:=rfl
  rw[hx]at hno hnx
  clear hx
  by_cases k1:(Ai s j).toNat<97
  ·have g1:decide (((Ai s ((j:Nat):Int).toNat).toNat:Int)<97)=true:=decide_eq_true (by rw[ej];omega)
   by_cases k3:(Ai s j).toNat<48
   ·have g3:decide (((Ai s ((j:Nat):Int).toNat).toNat:Int)<48)=true:=decide_eq_true (by rw[ej];omega)
    have e:r=false:=by rw[hN,hno (by rw[decide_eq_false (by omega:¬ 97≤(Ai s j).toNat),decide_eq_false (by omega:¬ 48≤(Ai s j).toNat)];rfl)]
    subst e
    refine T ?_
    exact D
   have g3:decide (((Ai s ((j:Nat):Int).toNat).toNat:Int)<48)=false:=decide_eq_false (by rw[ej];omega)
   by_cases k4:(Ai s j).toNat>57
   ·have g4:decide (((Ai s ((j:Nat):Int).toNat).toNat:Int)>57)=true:=decide_eq_true (by rw[ej];omega)
    have e:r=false:=by rw[hN,hno (by rw[decide_eq_false (by omega:¬ 97≤(Ai s j).toNat),decide_eq_false (by omega:¬ (Ai s j).toNat≤57),Bool.and_false];rfl)]
    subst e
    refine T ?_
    exact D
   have g4:decide (((Ai s ((j:Nat):Int).toNat).toNat:Int)>57)=false:=decide_eq_false (by rw[ej];omega)
   refine T ?_
   exact Ba [] hI z_ (hnx (by rw[decide_eq_true (by omega:48≤(Ai s j).toNat),decide_eq_true (by omega:(Ai s j).toNat≤57),Bool.and_self,Bool.or_true])) U
  have g1:decide (((Ai s ((j:Nat):Int).toNat).toNat:Int)<97)=false:=decide_eq_false (by rw[ej];omega)
  by_cases k2:(Ai s j).toNat>122
  ·have g2:decide (((Ai s ((j:Nat):Int).toNat).toNat:Int)>122)=true:=decide_eq_true (by rw[ej];omega)
   have g3:decide (((Ai s ((j:Nat):Int).toNat).toNat:Int)<48)=false:=decide_eq_false (by rw[ej];omega)
   have g4:decide (((Ai s ((j:Nat):Int).toNat).toNat:Int)>57)=true:=decide_eq_true (by rw[ej];omega)
   have e:r=false:=by rw[hN,hno (by rw[decide_eq_false (by omega:¬ (Ai s j).toNat≤122),decide_eq_false (by omega:¬ (Ai s j).toNat≤57),Bool.and_false,Bool.and_false];rfl)]
   subst e
   refine T ?_
   exact D
  have g2:decide (((Ai s ((j:Nat):Int).toNat).toNat:Int)>122)=false:=decide_eq_false (by rw[ej];omega)
  refine T ?_
  exact Ba [] hI z_ (hnx (by rw[decide_eq_true (by omega:97≤(Ai s j).toNat),decide_eq_true (by omega:(Ai s j).toNat≤122)];rfl)) U
 ·have hjs:j=s.size:=qB h
  subst hjs
  rw[I9 hI (Nat.le_refl _)]at hN
  subst hN
  clear h
  refine T ?_
  exact D
theorem Aa4 (l:List UInt8) (h:l.length≤6):Sy.Spec Tryz.prog 426 [.sl 1 Bn l] [] (B4 (Wx l)) []:=cT F426 Tryz.ntmps426 fun F hF=>by
 conv=>whnf
 refine Dz l.length (fun j=>[(0,.sl 1 Bn l),(3,B4 (Wx (l.take j))),(4,Aa j)]) (fun _=>[]) [] ⟨⟨Y,Y,Y,Y,Y,Y,q_⟩,q_,Y,Y⟩ ?_
 intro j hj
 have hlt2:=Aiz _ (l.take j) rfl
 refine oO ?_
 refine⟨fun h2=>?_,fun h2=>?_⟩
 ·have hlt:j<l.length:=by have:=of_decide_eq_true h2;omega
  have hj0:((j:Nat):Int).toNat<l.length:=by simpa using hlt
  have hs:=Ajv l hlt
  have hll:(l.take j).length=j:=by rw[List.length_take];omega
  rw[hll]at hlt2
  have h5:Wx (l.take j)<1099511627776:=Nat.lt_of_lt_of_le hlt2 (by
   have:(256:Nat) ^ j≤256 ^ 5:=Nat.pow_le_pow_right y_ z_
   exact this)
  obtain ⟨c,hc⟩:∃ c,l[((j:Nat):Int).toNat]'hj0=c:=⟨_,rfl⟩
  have hc':l[j]=c:=hc
  rw[hc']at hs
  have hcn:=c.toNat_lt
  generalize Wx (l.take j)=m at *
  refine oO ?_
  refine⟨Y,by omega,hj0,?_⟩
  rw[hc]
  conv=>whnf
  refine iW ?_
  refine D3 [] hlt ⟨⟨Y,Y,congrArg (fun z:Int=>SV.val (.int .u64 z)) ?_,Y,Y,Y,q_⟩,q_,Y,Y⟩
  rw[hs,IntKind.wrap_u64,IntKind.wrap_u64,IntKind.wrap_u64]
  omega
 ·have hje:j=l.length:=by have:=of_decide_eq_false h2;omega
  subst hje
  rw[List.take_length]
  refine oO ?_
  exact dN
theorem Adb (m:Nat) (h:m<18446744073709551616):Sy.Spec Tryz.prog 375 [B4 m] [] (Ab (Ot m)) []:=cT F375 Tryz.ntmps375 fun F hF=>by
 have e:=Aoj m
 have hl:(be 6 m).length=6:=J8 m 6
 have h0:(0:Int).toNat<(be 6 m).length:=by rw[hl];decide
 have hg:(be 6 m)[(0:Int).toNat]'h0=UInt8.ofNat (m / 256 ^ 5):=rfl
 conv=>whnf
 refine C0 (Af [(0,4)] Y F425 (Aip m h) Y q_ Y ⟨.inr Y,q_⟩) Y Y ?_
 refine Ac 4 Y ?_
 refine oO ?_
 refine⟨Y,by decide,h0,?_⟩
 rw[hg]
 conv=>whnf
 refine⟨by decide,?_⟩
 conv=>whnf
 refine Ar Y (.cons .tmp .nil) ?_ Y
 refine congrArg Ab ?_
 rw[← e,Bool.eq_iff_iff]
 rw[Int.tmod_eq_emod_of_nonneg z_]
 simp
 omega
def hexD16:ByteArray:=⟨#[48,49,50,51,52,53,54,55,56,57,97,98,99,100,101,102]⟩
theorem Wo:∀ d:Fin 16,hexD16.extract d.1 (d.1+1)=mkT [Dk d.1]:=by decide +kernel
theorem Vr (m:Nat):∀ j,(Qn m j).length≤3 * j
 | 0=>by simp[Qn]
 | j+1=>by
  have:=Vr m j
  rw[Qn,List.length_append,List.length_append]
  split<;>simp<;>omega
theorem Yr (m j:Nat) (hj:j<6) (h:((j:Nat):Int).toNat<(be 6 m).length):((be 6 m)[((j:Nat):Int).toNat]'h).toNat=Bg m j:=by
 have h6:j=0∨j=1∨j=2∨j=3∨j=4∨j=5:=by omega
 unfold Bg
 rcases h6 with rfl | rfl | rfl | rfl | rfl | rfl
 ·show (UInt8.ofNat (m / 256 ^ 5)).toNat=_;simp
 ·show (UInt8.ofNat (m / 256 ^ 4)).toNat=_;simp
 ·show (UInt8.ofNat (m / 256 ^ 3)).toNat=_;simp
 ·show (UInt8.ofNat (m / 256 ^ 2)).toNat=_;simp
 ·show (UInt8.ofNat (m / 256 ^ 1)).toNat=_;simp
 ·show (UInt8.ofNat (m / 256 ^ 0)).toNat=_;simp
theorem Ai5 (m:Nat) (h:m<18446744073709551616):Sy.Spec Tryz.prog 373 [B4 m] [] (Ad (A1 m)) []:=cT F373 Tryz.ntmps373 fun F hF=>by
 have hl:(be 6 m).length=6:=J8 m 6
 have hbe:=Yr m
 rw[A1,Int.toNat_natCast]
 refine T ?_
 refine X (Af [(0,8)] Y F425 (Aip m h) Y q_ Y ⟨.inr Y,q_⟩) ?_
 refine Ac 8 Y ?_
 generalize be 6 m=B at *
 refine T ?_
 refine Au (fun j:Nat=>j≤6) (fun j=>[(3,Ad hexD16),(4,.sl 1 Bn B),(5,Ad (mkT (Qn m j))),(6,Aa j)]) (fun _=>[]) (fun j=>6-j) 0 [] qe U ?_
 intro j hj
 refine T ?_
 refine⟨fun h2=>?_,fun h2=>?_⟩
 ·have hlt:j<6:=by have:=of_decide_eq_true h2;omega
  clear h2
  have hj0:((j:Nat):Int).toNat<B.length:=by omega
  have hbj:=hbe j hlt hj0
  have hn:Bg m j<256:=Nat.mod_lt _ y_
  have hsu:Qn m (j+1)=Qn m j++(if 0<j then [58] else [])++[Dk (Bg m j / 16),Dk (Bg m j % 16)]:=rfl
  have hul:=Vr m j
  have eA:IntKind.u8.wrap (((B[((j:Nat):Int).toNat]'hj0).toNat:Int).tdiv 16)=((Bg m j / 16:Nat):Int):=by
   rw[hbj,Int.tdiv_eq_ediv_of_nonneg z_,IntKind.wrap_u8];omega
  have eA1:IntKind.u8.wrap (IntKind.u8.wrap (((B[((j:Nat):Int).toNat]'hj0).toNat:Int).tdiv 16)+1)=((Bg m j / 16+1:Nat):Int):=by
   rw[eA,IntKind.wrap_u8];omega
  have eR:((B[((j:Nat):Int).toNat]'hj0).toNat:Int).tmod 16=((Bg m j % 16:Nat):Int):=by
   rw[hbj,Int.tmod_eq_emod_of_nonneg z_];omega
  have eR1:IntKind.u8.wrap (((B[((j:Nat):Int).toNat]'hj0).toNat:Int).tmod 16+1)=((Bg m j % 16+1:Nat):Int):=by
   rw[eR,IntKind.wrap_u8];omega
  generalize Qn m j=ws at *
  have hz1:(mkT ws).size=ws.length:=Bp ws
  by_cases k:0<j
  ·have f:decide ((j:Int)>0)=true:=decide_eq_true z_
   rw[if_pos k]at hsu
   have z1:(mkT ws).size+(⟨#[58]⟩:ByteArray).size≤9223372036854775807:=by
    have:(⟨#[58]⟩:ByteArray).size=1:=rfl
    omega
   have hz2:(mkT ws++(⟨#[58]⟩:ByteArray)).size=ws.length+1:=by rw[ByteArray.size_append,hz1];rfl
   have x1:(hexD16.extract (IntKind.u8.wrap (((B[((j:Nat):Int).toNat]'hj0).toNat:Int).tdiv 16)).toNat (IntKind.u8.wrap (IntKind.u8.wrap (((B[((j:Nat):Int).toNat]'hj0).toNat:Int).tdiv 16)+1)).toNat).size≤16:=by
    rw[ByteArray.size_extract,show hexD16.size=16 from rfl];omega
   have x2:(hexD16.extract (((B[((j:Nat):Int).toNat]'hj0).toNat:Int).tmod 16).toNat (IntKind.u8.wrap (((B[((j:Nat):Int).toNat]'hj0).toNat:Int).tmod 16+1)).toNat).size≤16:=by
    rw[ByteArray.size_extract,show hexD16.size=16 from rfl];omega
   have z2:(mkT ws++(⟨#[58]⟩:ByteArray)).size+(hexD16.extract (IntKind.u8.wrap (((B[((j:Nat):Int).toNat]'hj0).toNat:Int).tdiv 16)).toNat (IntKind.u8.wrap (IntKind.u8.wrap (((B[((j:Nat):Int).toNat]'hj0).toNat:Int).tdiv 16)+1)).toNat).size≤9223372036854775807:=by omega
   have z3:((mkT ws++(⟨#[58]⟩:ByteArray))++hexD16.extract (IntKind.u8.wrap (((B[((j:Nat):Int).toNat]'hj0).toNat:Int).tdiv 16)).toNat (IntKind.u8.wrap (IntKind.u8.wrap (((B[((j:Nat):Int).toNat]'hj0).toNat:Int).tdiv 16)+1)).toNat).size+(hexD16.extract (((B[((j:Nat):Int).toNat]'hj0).toNat:Int).tmod 16).toNat (IntKind.u8.wrap (((B[((j:Nat):Int).toNat]'hj0).toNat:Int).tmod 16+1)).toNat).size≤9223372036854775807:=by
    rw[ByteArray.size_append];omega
   have hfin:mkT (Qn m (j+1))=(mkT ws++(⟨#[58]⟩:ByteArray))++hexD16.extract (IntKind.u8.wrap (((B[((j:Nat):Int).toNat]'hj0).toNat:Int).tdiv 16)).toNat (IntKind.u8.wrap (IntKind.u8.wrap (((B[((j:Nat):Int).toNat]'hj0).toNat:Int).tdiv 16)+1)).toNat++hexD16.extract (((B[((j:Nat):Int).toNat]'hj0).toNat:Int).tmod 16).toNat (IntKind.u8.wrap (((B[((j:Nat):Int).toNat]'hj0).toNat:Int).tmod 16+1)).toNat:=by
    rw[eA1,eA,eR1,eR,Int.toNat_natCast,Int.toNat_natCast,Int.toNat_natCast,Int.toNat_natCast,Wo ⟨Bg m j / 16,by omega⟩,Wo ⟨Bg m j % 16,by omega⟩]
    rw[show (⟨#[58]⟩:ByteArray)=mkT [58] from rfl]
    simp only[Eb]
    rw[hsu]
    simp
   refine T ?_
   refine⟨⟨by omega,by omega,by rw[show hexD16.size=16 from Y];omega⟩,?_⟩
   refine T ?_
   refine⟨⟨by omega,by omega,by rw[show hexD16.size=16 from Y];omega⟩,?_⟩
   refine T ?_
   exact Ae (j+1) [] hlt z_ ⟨⟨Y,Y,Y,Y,congrArg Ad hfin,Y,Y,Y,q_⟩,q_,Y,Y⟩
  ·have f:decide ((j:Int)>0)=false:=decide_eq_false z_
   rw[if_neg k,List.append_nil]at hsu
   have hz2:(mkT ws).size=ws.length:=by exact hz1
   have x1:(hexD16.extract (IntKind.u8.wrap (((B[((j:Nat):Int).toNat]'hj0).toNat:Int).tdiv 16)).toNat (IntKind.u8.wrap (IntKind.u8.wrap (((B[((j:Nat):Int).toNat]'hj0).toNat:Int).tdiv 16)+1)).toNat).size≤16:=by
    rw[ByteArray.size_extract,show hexD16.size=16 from rfl];omega
   have x2:(hexD16.extract (((B[((j:Nat):Int).toNat]'hj0).toNat:Int).tmod 16).toNat (IntKind.u8.wrap (((B[((j:Nat):Int).toNat]'hj0).toNat:Int).tmod 16+1)).toNat).size≤16:=by
    rw[ByteArray.size_extract,show hexD16.size=16 from rfl];omega
   have z2:(mkT ws).size+(hexD16.extract (IntKind.u8.wrap (((B[((j:Nat):Int).toNat]'hj0).toNat:Int).tdiv 16)).toNat (IntKind.u8.wrap (IntKind.u8.wrap (((B[((j:Nat):Int).toNat]'hj0).toNat:Int).tdiv 16)+1)).toNat).size≤9223372036854775807:=by omega
   have z3:(mkT ws++hexD16.extract (IntKind.u8.wrap (((B[((j:Nat):Int).toNat]'hj0).toNat:Int).tdiv 16)).toNat (IntKind.u8.wrap (IntKind.u8.wrap (((B[((j:Nat):Int).toNat]'hj0).toNat:Int).tdiv 16)+1)).toNat).size+(hexD16.extract (((B[((j:Nat):Int).toNat]'hj0).toNat:Int).tmod 16).toNat (IntKind.u8.wrap (((B[((j:Nat):Int).toNat]'hj0).toNat:Int).tmod 16+1)).toNat).size≤9223372036854775807:=by
    rw[ByteArray.size_append];omega
   have hfin:mkT (Qn m (j+1))=mkT ws++hexD16.extract (IntKind.u8.wrap (((B[((j:Nat):Int).toNat]'hj0).toNat:Int).tdiv 16)).toNat (IntKind.u8.wrap (IntKind.u8.wrap (((B[((j:Nat):Int).toNat]'hj0).toNat:Int).tdiv 16)+1)).toNat++hexD16.extract (((B[((j:Nat):Int).toNat]'hj0).toNat:Int).tmod 16).toNat (IntKind.u8.wrap (((B[((j:Nat):Int).toNat]'hj0).toNat:Int).tmod 16+1)).toNat:=by
    rw[eA1,eA,eR1,eR,Int.toNat_natCast,Int.toNat_natCast,Int.toNat_natCast,Int.toNat_natCast,Wo ⟨Bg m j / 16,by omega⟩,Wo ⟨Bg m j % 16,by omega⟩]
    skip
    simp only[Eb]
    rw[hsu]
    simp
   refine T ?_
   refine⟨⟨by omega,by omega,by rw[show hexD16.size=16 from Y];omega⟩,?_⟩
   refine T ?_
   refine⟨⟨by omega,by omega,by rw[show hexD16.size=16 from Y];omega⟩,?_⟩
   refine T ?_
   exact Ae (j+1) [] hlt z_ ⟨⟨Y,Y,Y,Y,congrArg Ad hfin,Y,Y,Y,q_⟩,q_,Y,Y⟩
 ·have hje:j=6:=by have:=of_decide_eq_false h2;omega
  subst hje
  refine T ?_
  exact D
theorem Aqc (s:ByteArray) (i:Nat) (h:i<17):0≤D8 s i∧D8 s i<18014398509481984:=by
 have h0:=Kz s 0;have h1:=Xz s
 have mono:∀ a,D8 s a≤D8 s (a+1):=fun a=>by
  have h2:=(Kz s a).1
  have h3:=(Sv (Ai s a)).1
  rw[D8]
  split<;>omega
 have up:∀ k a,a+k=17→D8 s a≤D8 s 17:=fun k=>by
  induction k with
  | zero=>intro a ha;rw[show a=17 by omega];exact Int.le_refl _
  | succ k ih=>intro a ha;exact Int.le_trans (mono a) (ih (a+1) z_)
 have:=up (17-i) i z_
 have:=(Kz s i).1
 omega
theorem Apy (s:ByteArray):Sy.Spec Tryz.prog 312 [Ad s] [] (.tup [B4 (macR s).1,Ab (macR s).2]) []:=cT F312 Tryz.ntmps312 fun F hF=>by
 by_cases h0:s.size=17
 ·have f0:((s.size:Int) != 17)=false:=by rw[bne_eq_false_iff_eq];omega
  have hres:=Aqd s h0
  generalize macR s=res at *
  refine T ?_
  refine Au (fun i:Nat=>i≤17) (fun i=>[(0,Ad s),(4,B4 (D8 s i)),(5,Aa i)]) (fun _=>[]) (fun i=>17-i) 0 [] qe U ?_
  intro i hi
  refine T ?_
  refine⟨fun h=>?_,fun h=>?_⟩
  ·have hlt:i<17:=qA h
   clear h
   have hlts:i<s.size:=by omega
   have hn:=Aqc s i hlt
   have hsu:D8 s (i+1)=if i % 3=2 then D8 s i else D8 s i * 16+digD (Ai s ((i:Nat):Int).toNat):=rfl
   generalize D8 s i=n at *
   clear hres
   have hc:=(Ai s ((i:Nat):Int).toNat).toNat_lt
   have hdg:=digD.eq_1 (Ai s ((i:Nat):Int).toNat)
   have hdi:=digI.eq_1 (Ai s ((i:Nat):Int).toNat)
   have em:((i:Int)).tmod 3=((i % 3:Nat):Int):=by rw[Int.tmod_eq_emod_of_nonneg z_];omega
   by_cases k1:48≤(Ai s ((i:Nat):Int).toNat).toNat
   ·have g1:decide (((Ai s ((i:Nat):Int).toNat).toNat:Int)≥48)=true:=decide_eq_true z_
    by_cases k2:(Ai s ((i:Nat):Int).toNat).toNat≤57
    ·have g2:decide (((Ai s ((i:Nat):Int).toNat).toNat:Int)≤57)=true:=decide_eq_true z_
     have g3:decide (((Ai s ((i:Nat):Int).toNat).toNat:Int)≥97)=false:=decide_eq_false z_
     have hd:digD (Ai s ((i:Nat):Int).toNat)=((Ai s ((i:Nat):Int).toNat).toNat:Int)-48:=by rw[hdg,hdi];repeat' split<;>omega
     by_cases k3:i % 3=2
     ·have g5:((i:Int).tmod 3 != 2)=false:=by rw[em,bne_eq_false_iff_eq];omega
      rw[if_pos k3]at hsu
      refine T ?_
      exact Ae (i+1) [] hlt z_ ⟨⟨Y,Y,congrArg B4 hsu,Y,Y,Y,q_⟩,q_,Y,Y⟩
     ·have g5:((i:Int).tmod 3 != 2)=true:=by rw[em,bne_iff_ne];omega
      rw[if_neg k3,hd]at hsu
      refine T ?_
      exact Ae (i+1) [] hlt z_ ⟨⟨Y,Y,congrArg B4 (by rw[hsu];simp only[IntKind.wrap_u64];omega),Y,Y,Y,q_⟩,q_,Y,Y⟩
    ·have g2:decide (((Ai s ((i:Nat):Int).toNat).toNat:Int)≤57)=false:=decide_eq_false z_
     by_cases k4:97≤(Ai s ((i:Nat):Int).toNat).toNat
     ·have g3:decide (((Ai s ((i:Nat):Int).toNat).toNat:Int)≥97)=true:=decide_eq_true z_
      by_cases k5:(Ai s ((i:Nat):Int).toNat).toNat≤102
      ·have g4:decide (((Ai s ((i:Nat):Int).toNat).toNat:Int)≤102)=true:=decide_eq_true z_
       have hd:digD (Ai s ((i:Nat):Int).toNat)=((Ai s ((i:Nat):Int).toNat).toNat:Int)-87:=by rw[hdg,hdi];repeat' split<;>omega
       by_cases k3:i % 3=2
       ·have g5:((i:Int).tmod 3 != 2)=false:=by rw[em,bne_eq_false_iff_eq];omega
        rw[if_pos k3]at hsu
        refine T ?_
        exact Ae (i+1) [] hlt z_ ⟨⟨Y,Y,congrArg B4 hsu,Y,Y,Y,q_⟩,q_,Y,Y⟩
       ·have g5:((i:Int).tmod 3 != 2)=true:=by rw[em,bne_iff_ne];omega
        rw[if_neg k3,hd]at hsu
        refine T ?_
        exact Ae (i+1) [] hlt z_ ⟨⟨Y,Y,congrArg B4 (by rw[hsu];simp only[IntKind.wrap_u64];omega),Y,Y,Y,q_⟩,q_,Y,Y⟩
      ·have g4:decide (((Ai s ((i:Nat):Int).toNat).toNat:Int)≤102)=false:=decide_eq_false z_
       have hd:digD (Ai s ((i:Nat):Int).toNat)=0:=by rw[hdg,hdi];repeat' split<;>omega
       by_cases k3:i % 3=2
       ·have g5:((i:Int).tmod 3 != 2)=false:=by rw[em,bne_eq_false_iff_eq];omega
        rw[if_pos k3]at hsu
        refine T ?_
        exact Ae (i+1) [] hlt z_ ⟨⟨Y,Y,congrArg B4 hsu,Y,Y,Y,q_⟩,q_,Y,Y⟩
       ·have g5:((i:Int).tmod 3 != 2)=true:=by rw[em,bne_iff_ne];omega
        rw[if_neg k3,hd]at hsu
        refine T ?_
        exact Ae (i+1) [] hlt z_ ⟨⟨Y,Y,congrArg B4 (by rw[hsu];simp only[IntKind.wrap_u64];omega),Y,Y,Y,q_⟩,q_,Y,Y⟩
     ·have g3:decide (((Ai s ((i:Nat):Int).toNat).toNat:Int)≥97)=false:=decide_eq_false z_
      have hd:digD (Ai s ((i:Nat):Int).toNat)=0:=by rw[hdg,hdi];repeat' split<;>omega
      by_cases k3:i % 3=2
      ·have g5:((i:Int).tmod 3 != 2)=false:=by rw[em,bne_eq_false_iff_eq];omega
       rw[if_pos k3]at hsu
       refine T ?_
       exact Ae (i+1) [] hlt z_ ⟨⟨Y,Y,congrArg B4 hsu,Y,Y,Y,q_⟩,q_,Y,Y⟩
      ·have g5:((i:Int).tmod 3 != 2)=true:=by rw[em,bne_iff_ne];omega
       rw[if_neg k3,hd]at hsu
       refine T ?_
       exact Ae (i+1) [] hlt z_ ⟨⟨Y,Y,congrArg B4 (by rw[hsu];simp only[IntKind.wrap_u64];omega),Y,Y,Y,q_⟩,q_,Y,Y⟩
   ·have g1:decide (((Ai s ((i:Nat):Int).toNat).toNat:Int)≥48)=false:=decide_eq_false z_
    have g3:decide (((Ai s ((i:Nat):Int).toNat).toNat:Int)≥97)=false:=decide_eq_false z_
    have hd:digD (Ai s ((i:Nat):Int).toNat)=0:=by rw[hdg,hdi];repeat' split<;>omega
    by_cases k3:i % 3=2
    ·have g5:((i:Int).tmod 3 != 2)=false:=by rw[em,bne_eq_false_iff_eq];omega
     rw[if_pos k3]at hsu
     refine T ?_
     exact Ae (i+1) [] hlt z_ ⟨⟨Y,Y,congrArg B4 hsu,Y,Y,Y,q_⟩,q_,Y,Y⟩
    ·have g5:((i:Int).tmod 3 != 2)=true:=by rw[em,bne_iff_ne];omega
     rw[if_neg k3,hd]at hsu
     refine T ?_
     exact Ae (i+1) [] hlt z_ ⟨⟨Y,Y,congrArg B4 (by rw[hsu];simp only[IntKind.wrap_u64];omega),Y,Y,Y,q_⟩,q_,Y,Y⟩
  ·have hie:i=17:=qB h
   subst hie
   clear h
   have h17:=Xz s
   obtain ⟨m,hm⟩:∃ m:Nat,D8 s 17=m:=⟨(D8 s 17).toNat,by omega⟩
   rw[hm]at hres h17 ⊢
   have q:=Ai5 m z_
   by_cases hx:A1 (m:Int)=s
   ·have g:=Uj hx
    rw[if_pos hx]at hres
    subst hres
    refine T ?_
    refine C q F373 ?_
    exact D
   ·have g:=Ui hx
    rw[if_neg hx]at hres
    subst hres
    refine T ?_
    refine C q F373 ?_
    exact D
 ·have f0:((s.size:Int) != 17)=true:=by rw[bne_iff_ne];omega
  rw[An0 h0]
  refine T ?_
  exact D
theorem Akk (m:Nat) (h:m<18446744073709551616):∃ x:Int,Sy.Spec Tryz.prog 374 [B4 m] [] (.tup [A3 x,Ab (Hd m)]) []:=by
 have hl:(be 6 m).length=6:=J8 m 6
 have h0:(0:Int).toNat<(be 6 m).length:=by rw[hl];decide
 have h1:(1:Int).toNat<(be 6 m).length:=by rw[hl];decide
 have c0:((be 6 m)[(0:Int).toNat]'h0).toNat=Bg m 0:=Yr m 0 y_ h0
 have c1:((be 6 m)[(1:Int).toNat]'h1).toNat=Bg m 1:=Yr m 1 y_ h1
 have d0:Bg m 0=m / 1099511627776 % 256:=rfl
 have d1:Bg m 1=m / 4294967296 % 256:=rfl
 have hb:Hd (m:Int)=decide ((m:Int) % 281474976710656 / 4294967296=512):=rfl
 have qb:=Aip m h
 generalize be 6 m=B at *
 by_cases k0:Bg m 0=2
 ·have g0:(((B[(0:Int).toNat]'h0).toNat:Int) != 2)=false:=by rw[bne_eq_false_iff_eq];omega
  by_cases k1:Bg m 1=0
  ·have g1:(((B[(1:Int).toNat]'h1).toNat:Int) != 0)=false:=by rw[bne_eq_false_iff_eq];omega
   have e:Hd (m:Int)=true:=by rw[hb];exact decide_eq_true z_
   have q:=Aa4 (B.drop 2) (by rw[List.length_drop];omega)
   refine⟨IntKind.u32.wrap (Wx (B.drop 2)),?_⟩
   rw[e]
   refine Ht Γ hm 100 F374 Tryz.ntmps374 Y fun F hF=>by
    refine T ?_
    refine X (Af [(0,6)] Y F425 qb Y q_ Y ⟨.inr Y,q_⟩) ?_
    refine Ac 6 Y ?_
    refine T ?_
    refine X (Q1 (lo:=2) (hi:=B.length) Γ.toTy (B.drop 2) Y Y Y Y (.inr ⟨_,_,Y,Y⟩) (.inl ⟨Y,Y⟩) z_ (Nat.le_refl _) (by rw[List.take_length])) ?_
    refine C q F426 ?_
    exact D
  ·have g1:(((B[(1:Int).toNat]'h1).toNat:Int) != 0)=true:=by rw[bne_iff_ne];omega
   have e:Hd (m:Int)=false:=by rw[hb];exact decide_eq_false z_
   refine⟨0,?_⟩
   rw[e]
   refine Ht Γ hm 100 F374 Tryz.ntmps374 Y fun F hF=>by
    refine T ?_
    refine X (Af [(0,6)] Y F425 qb Y q_ Y ⟨.inr Y,q_⟩) ?_
    refine Ac 6 Y ?_
    refine T ?_
    exact D
 ·have g0:(((B[(0:Int).toNat]'h0).toNat:Int) != 2)=true:=by rw[bne_iff_ne];omega
  have e:Hd (m:Int)=false:=by rw[hb];exact decide_eq_false z_
  refine⟨0,?_⟩
  rw[e]
  refine Ht Γ hm 100 F374 Tryz.ntmps374 Y fun F hF=>by
   refine T ?_
   refine X (Af [(0,6)] Y F425 qb Y q_ Y ⟨.inr Y,q_⟩) ?_
   refine Ac 6 Y ?_
   refine T ?_
   exact D
theorem Xx (m:Nat):∀ j,(Qn m j).length≤3 * j
 | 0=>by simp[Qn]
 | j+1=>by
  have:=Xx m j
  rw[Qn,List.length_append,List.length_append]
  split<;>simp<;>omega
theorem Mw {α:Type} {tx:α→ByteArray}:∀ (l:List α),(∀ x∈l,(tx x).size≤100)→Ai2 (l.map tx)≤100 * l.length
 | [],_=>by simp[Ai2]
 | x::l,h=>by
  have h1:=h x qe
  have h2:=Mw l (fun y hy=>h y (by simp[hy]))
  simp only[Ai2,List.map_cons,List.sum_cons,List.length_cons]at h2 ⊢
  omega
theorem El (a:Int):(B6 a).size≤100:=by
 have:=Ud a.toNat 4
 rw[B6,Bp];omega
theorem Oq (tx:Int→ByteArray) (l:List Int) {j:Nat} (hlt:j<l.length) (hlt0:((j:Nat):Int).toNat<l.length) :
  Jk ((l.take (j+1)).map tx) comma=(if j=0 then Jk ((l.take j).map tx) comma else Jk ((l.take j).map tx) comma++comma)++tx (l[((j:Nat):Int).toNat]'hlt0):=by
 have htk:l.take (j+1)=l.take j++[l[((j:Nat):Int).toNat]'hlt0]:=List.take_succ_eq_append_getElem hlt
 rw[htk,List.map_append,List.map_cons,List.map_nil]
 by_cases h0:j=0
 ·rw[if_pos h0]
  subst h0
  apply It
  rw[Sx]
  simp only[Jk,List.take_zero,List.map_nil,List.nil_append,List.map_cons]
  simp[Lib.join_cons,Lib.joinTail,Lib.join]
 ·rw[if_neg h0]
  refine Ah1 _ _ _ fun e=>?_
  have:=congrArg List.length e
  rw[List.length_map,List.length_take,List.length_nil]at this
  omega
theorem Adg (l:List Int) (hl:l.length≤100000) (hw:∀ x∈l,0≤x∧x<1000000000000000000):Sy.Spec Tryz.prog 443 [.sl 1 Aa l] [] (Ad (Dw l)) []:=cT F443 Tryz.ntmps443 fun F hF=>by
 have hall:l.take l.length=l:=List.take_length
 refine T ?_
 refine Au (fun j:Nat=>j≤l.length∧(Dw (l.take j)).size≤30 * j) (fun j=>[(0,.sl 1 Aa l),(3,Ad (Dw (l.take j))),(4,Aa j)]) (fun _=>[]) (fun j=>l.length-j) 0 [] ⟨by simp,by rw[List.take_zero];decide⟩ U ?_
 rintro j ⟨hj,hz⟩
 refine T ?_
 refine⟨fun h=>?_,fun h=>?_⟩
 ·have hlt:j<l.length:=qA h
  have hlt0:((j:Nat):Int).toNat<l.length:=hlt
  clear h hall
  have hx:=hw _ (List.getElem_mem hlt0)
  obtain ⟨m,hm⟩:∃ m:Nat,l[((j:Nat):Int).toNat]'hlt0=m:=⟨(l[((j:Nat):Int).toNat]'hlt0).toNat,by omega⟩
  have q:=Kx m z_
  rw[← hm]at q
  have hns:(Aw (l[((j:Nat):Int).toNat]'hlt0)).size≤19:=by rw[hm];exact Ex z_
  have hsn:Dw (l.take (j+1))=(if j=0 then Dw (l.take j) else Dw (l.take j)++comma)++Aw (l[((j:Nat):Int).toNat]'hlt0):=Oq Aw l hlt hlt0
  have hcz:comma.size=1:=rfl
  generalize Aw (l[((j:Nat):Int).toNat]'hlt0)=t at *
  generalize hu:Dw (l.take j)=u at *
  by_cases k:0<j
  ·have f:decide ((j:Int)>0)=true:=decide_eq_true z_
   rw[if_neg z_]at hsn
   have z1:u.size+(⟨#[44]⟩:ByteArray).size≤9223372036854775807:=by show u.size+comma.size≤_;omega
   have z2:(u++(⟨#[44]⟩:ByteArray)).size+t.size≤9223372036854775807:=by show (u++comma).size+t.size≤_;rw[ByteArray.size_append];omega
   have z3:(Dw (l.take (j+1))).size≤30 * (j+1):=by rw[hsn,ByteArray.size_append,ByteArray.size_append];omega
   refine T ?_
   refine C q F372 ?_
   exact Ae (j+1) [] ⟨hlt,z3⟩ z_ ⟨⟨Y,Y,congrArg Ad hsn,Y,Y,Y,q_⟩,q_,Y,Y⟩
  ·have f:decide ((j:Int)>0)=false:=decide_eq_false z_
   rw[if_pos z_]at hsn
   have z2:u.size+t.size≤9223372036854775807:=by omega
   have z3:(Dw (l.take (j+1))).size≤30 * (j+1):=by rw[hsn,ByteArray.size_append];omega
   refine T ?_
   refine C q F372 ?_
   exact Ae (j+1) [] ⟨hlt,z3⟩ z_ ⟨⟨Y,Y,congrArg Ad hsn,Y,Y,Y,q_⟩,q_,Y,Y⟩
 ·have hje:j=l.length:=qB h
  subst hje
  clear h
  rw[hall]
  refine T ?_
  exact D
theorem Th (l:List Int) (hl:l.length≤100000) (hw:∀ x∈l,0≤x∧x<4294967296):Sy.Spec Tryz.prog 419 [.sl 1 A3 l] [] (Ad (Dn l)) []:=cT F419 Tryz.ntmps419 fun F hF=>by
 have hall:l.take l.length=l:=List.take_length
 refine T ?_
 refine Au (fun j:Nat=>j≤l.length∧(Dn (l.take j)).size≤110 * j) (fun j=>[(0,.sl 1 A3 l),(3,Ad (Dn (l.take j))),(4,Aa j)]) (fun _=>[]) (fun j=>l.length-j) 0 [] ⟨by simp,by rw[List.take_zero];decide⟩ U ?_
 rintro j ⟨hj,hz⟩
 refine T ?_
 refine⟨fun h=>?_,fun h=>?_⟩
 ·have hlt:j<l.length:=qA h
  have hlt0:((j:Nat):Int).toNat<l.length:=hlt
  clear h hall
  have hx:=hw _ (List.getElem_mem hlt0)
  obtain ⟨m,hm⟩:∃ m:Nat,l[((j:Nat):Int).toNat]'hlt0=m:=⟨(l[((j:Nat):Int).toNat]'hlt0).toNat,by omega⟩
  have q:=Lv m z_
  rw[← hm]at q
  have hns:(B6 (l[((j:Nat):Int).toNat]'hlt0)).size≤100:=El _
  have hsn:Dn (l.take (j+1))=(if j=0 then Dn (l.take j) else Dn (l.take j)++comma)++B6 (l[((j:Nat):Int).toNat]'hlt0):=Oq B6 l hlt hlt0
  have hcz:comma.size=1:=rfl
  generalize B6 (l[((j:Nat):Int).toNat]'hlt0)=t at *
  generalize hu:Dn (l.take j)=u at *
  by_cases k:0<j
  ·have f:decide ((j:Int)>0)=true:=decide_eq_true z_
   rw[if_neg z_]at hsn
   have z1:u.size+(⟨#[44]⟩:ByteArray).size≤9223372036854775807:=by show u.size+comma.size≤_;omega
   have z2:(u++(⟨#[44]⟩:ByteArray)).size+t.size≤9223372036854775807:=by show (u++comma).size+t.size≤_;rw[ByteArray.size_append];omega
   have z3:(Dn (l.take (j+1))).size≤110 * (j+1):=by rw[hsn,ByteArray.size_append,ByteArray.size_append];omega
   refine T ?_
   refine C q F418 ?_
   exact Ae (j+1) [] ⟨hlt,z3⟩ z_ ⟨⟨Y,Y,congrArg Ad hsn,Y,Y,Y,q_⟩,q_,Y,Y⟩
  ·have f:decide ((j:Int)>0)=false:=decide_eq_false z_
   rw[if_pos z_]at hsn
   have z2:u.size+t.size≤9223372036854775807:=by omega
   have z3:(Dn (l.take (j+1))).size≤110 * (j+1):=by rw[hsn,ByteArray.size_append];omega
   refine T ?_
   refine C q F418 ?_
   exact Ae (j+1) [] ⟨hlt,z3⟩ z_ ⟨⟨Y,Y,congrArg Ad hsn,Y,Y,Y,q_⟩,q_,Y,Y⟩
 ·have hje:j=l.length:=qB h
  subst hje
  clear h
  rw[hall]
  refine T ?_
  exact D
theorem Y4 (a:Nat) (b:Int) (ha:a<4294967296) (hb:0≤b∧b≤32):Sy.Spec Tryz.prog 420 [Di a b] [] (Ad (C1 a b)) []:=cT F420 Tryz.ntmps420 fun F hF=>by
 have q1:=Ho (a:Int) b
 rw[decide_eq_true hb]at q1
 have q2:=Lv a ha
 have hsz:=El (a:Int)
 obtain ⟨n,hn⟩:∃ n:Nat,b=n:=⟨b.toNat,by omega⟩
 subst hn
 have q3:=I4 n z_
 have hns:=Ex (n:=n) z_
 have he:C1 a (n:Int)=B6 (a:Int)++(⟨#[47]⟩:ByteArray)++Aw (n:Int):=by
  rw[C1,if_pos hb,Dq]
  apply It
  rw[Sx,Sx,Bv,Bv]
  rfl
 rw[he]
 generalize B6 (a:Int)=t at *
 generalize Aw (n:Int)=u at *
 have h47:(⟨#[47]⟩:ByteArray).size=1:=rfl
 have z1:t.size+(⟨#[47]⟩:ByteArray).size≤9223372036854775807:=by omega
 have z2:(t++(⟨#[47]⟩:ByteArray)).size+u.size≤9223372036854775807:=by rw[ByteArray.size_append];omega
 refine T ?_
 refine C q1 F358 ?_
 refine C q2 F418 ?_
 refine C q3 F427 ?_
 exact D
theorem Adt (x y:Int) (hb g:Bool) (q1:Sy.Spec Tryz.prog 374 [B4 x] [] (.tup [A3 y,Ab hb]) []) (q2:Sy.Spec Tryz.prog 375 [B4 x] [] (Ab g) []) :
  Sy.Spec Tryz.prog 313 [B4 x] [] (Ab (decide (x<281474976710656) && !hb && !g)) []:=cT F313 Tryz.ntmps313 fun F hF=>by
 cases hk:decide (x<281474976710656)
 ·refine T ?_
  refine C q1 F374 ?_
  exact D
 ·cases hb
  ·refine T ?_
   refine C q1 F374 ?_
   refine C q2 F375 ?_
   exact D
  ·refine T ?_
   refine C q1 F374 ?_
   exact D
theorem Ads (m:Nat) (h:m<18446744073709551616):Sy.Spec Tryz.prog 313 [B4 m] [] (Ab (statB m)) []:=by
 obtain ⟨x,q1⟩:=Akk m h
 have q:=Adt m x _ _ q1 (Adb m h)
 have e:statB (m:Int)=(decide ((m:Int)<281474976710656) && !(Hd m) && !(Ot m)):=by
  have e1:decide ((m:Int)<281474976710656)=decide ((m:Int)≤281474976710655):=by
   rw[Bool.eq_iff_iff,decide_eq_true_eq,decide_eq_true_eq];omega
  rw[e1,statB,Int.toNat_natCast]
 rw[e]
 exact q
theorem Ahe (a:Nat) (b:Int) (ha:a<4294967296):Sy.Spec Tryz.prog 318 [Di a b] [] (Ab (subnetB a b)) []:=cT F318 Tryz.ntmps318 fun F hF=>by
 have q1:=Ur a b ha
 have q2:=Ac8 a b ha
 have hs:=subnetB.eq_1 (a:Int) b
 generalize subnetB (a:Int) b=r at *
 generalize Ed (a:Int) b=fi at *
 generalize lastI (a:Int) b=la at *
 by_cases h1:1≤b
 ·have f1:decide (b≥1)=true:=decide_eq_true h1
  by_cases h2:b≤30
  ·have f2:decide (b≤30)=true:=decide_eq_true h2
   by_cases h3:(a:Int)=fi
   ·have f3:((a:Int) != fi)=false:=by rw[bne_eq_false_iff_eq];exact h3
    have hr:r=false:=by rw[hs];simp[h3]
    subst hr
    refine T ?_
    refine C q1 F359 ?_
    exact D
   ·have f3:((a:Int) != fi)=true:=by rw[bne_iff_ne];exact h3
    by_cases h4:(a:Int)=la
    ·have f4:((a:Int) != la)=false:=by rw[bne_eq_false_iff_eq];exact h4
     have hr:r=false:=by rw[hs];simp[h4]
     subst hr
     refine T ?_
     refine C q1 F359 ?_
     refine C q2 F360 ?_
     refine Ar Y (.cons .tmp .nil) (congrArg Ab f4.symm) Y
    ·have f4:((a:Int) != la)=true:=by rw[bne_iff_ne];exact h4
     have hr:r=true:=by rw[hs];simp[h1,h2,h3,h4]
     subst hr
     refine T ?_
     refine C q1 F359 ?_
     refine C q2 F360 ?_
     refine Ar Y (.cons .tmp .nil) (congrArg Ab f4.symm) Y
  ·have f2:decide (b≤30)=false:=decide_eq_false h2
   have hr:r=false:=by rw[hs];simp[h2]
   subst hr
   refine T ?_
   exact D
 ·have f1:decide (b≥1)=false:=decide_eq_false h1
  have hr:r=false:=by rw[hs];simp[h1]
  subst hr
  refine T ?_
  exact D
theorem Adw (s:ByteArray) (hi:Int) (hs:s.size≤1000000):Sy.Spec Tryz.prog 314 [Ad s,Aa hi] [] (.tup [.sl 1 Aa (listR hi s).1,Ab (listR hi s).2]) []:=cT F314 Tryz.ntmps314 fun F hF=>by
 have q:=Adf s hi hs
 have hres:=listR.eq_1 hi s
 generalize listR hi s=res at *
 by_cases h:s=dash
 ·have f:(s == (⟨#[45]⟩:ByteArray))=true:=Ca h
  rw[if_pos h]at hres
  subst hres
  refine T ?_
  refine Dh 4 1 Aa Y ?_
  refine T ?_
  exact D
 ·have f:(s == (⟨#[45]⟩:ByteArray))=false:=Cw h
  rw[if_neg h]at hres
  subst hres
  refine T ?_
  refine C q F376 ?_
  exact D
theorem Aoz {d:UInt8} {s:ByteArray} (h:d∉s.data.toList):cutT d s=(s,⟨#[]⟩,false):=by
 rw[cutT,if_neg (fun hh=>h (Ah2 hh))]
theorem Ad8 {l:List UInt8} {i:Nat} {d:UInt8} (h:∀ k,k<i→l.getD k 0≠d) (hi:i≤l.length):d∉l.take i:=by
 intro hm
 obtain ⟨k,hk,e⟩:=List.getElem_of_mem hm
 rw[List.length_take]at hk
 have hk2:k<i:=by omega
 have:=h k hk2
 rw[List.getElem_take]at e
 have hkl:k<l.length:=by omega
 apply this
 simp only[List.getD,List.getElem?_eq_getElem hkl,Option.getD_some]
 exact e
theorem V0 (s:ByteArray) (i j:Nat):s.extract i j=mkT ((s.data.toList.take j).drop i):=by
 have:=Cr s.data.toList i j
 rwa [Cv]at this
theorem Y3 (s:ByteArray) (hs:s.size≤1000000):Sy.Spec Tryz.prog 317 [Ad s] [] (.tup [Di (prefixR s).1.1 (prefixR s).1.2,Ab (prefixR s).2]) []:=cT F317 Tryz.ntmps317 fun F hF=>by
 have hL:s.data.toList.length=s.size:=rfl
 have hres:=prefixR.eq_1 s
 generalize prefixR s=res at *
 refine T ?_
 refine Au (fun i:Nat=>i≤s.size∧∀ k,k<i→Ai s k≠47) (fun i=>[(0,Ad s),(2,.ptr 1001 0),(4,Aa i)]) (fun _=>[(1001,.box [A3 0,Aa 0])]) (fun i=>s.size-i) 0 [(1001,2)] ⟨by simp,by simp⟩ U ?_
 rintro i ⟨hi,hI⟩
 have ej:Ai s ((i:Nat):Int).toNat=Ai s i:=rfl
 by_cases a1:i<s.size
 ·have f1:decide ((i:Int)<(s.size:Int))=true:=decide_eq_true z_
  by_cases k1:Ai s i=47
  ·have g1:(((Ai s ((i:Nat):Int).toNat).toNat:Int) != 47)=false:=by rw[ej,k1];rfl
   have g2:((i:Int) == (s.size:Int))=false:=by rw[beq_eq_false_iff_ne];omega
   have hlt:i<s.data.toList.length:=a1
   have hb:Ai s i=s.data.toList[i]:=Hx hlt
   have hcut:cutT 47 s=(s.extract (0:Int).toNat ((i:Nat):Int).toNat,s.extract (((i:Nat):Int)+1).toNat ((s.size:Nat):Int).toNat,true):=by
    have e1:(((i:Nat):Int)+1).toNat=i+1:=by omega
    rw[V0,V0,e1,Int.toNat_natCast,Int.toNat_natCast]
    have e:=Ao0 47 (s.data.toList.take i) (s.data.toList.drop (i+1)) (Ad8 (fun k hk=>hI k hk) z_)
    have e2:s.data.toList.take i++47::s.data.toList.drop (i+1)=s.data.toList:=by
     have e3:=List.drop_eq_getElem_cons hlt
     rw[← hb,k1]at e3
     rw[← e3,List.take_append_drop]
    rw[e2,Cv]at e
    rw[e]
    show _=(mkT ((s.data.toList.take i).drop 0),_,true)
    rw[List.drop_zero,← hL,List.take_length]
   rw[hcut]at hres
   dsimp only at hres
   have hz1:(s.extract (0:Int).toNat ((i:Nat):Int).toNat).size≤s.size:=by rw[ByteArray.size_extract];omega
   have q1:=Aa7 (s.extract (0:Int).toNat ((i:Nat):Int).toNat) z_
   have q2:=Zx (s.extract (((i:Nat):Int)+1).toNat ((s.size:Nat):Int).toNat)
   have hdr:=La (s.extract (((i:Nat):Int)+1).toNat ((s.size:Nat):Int).toNat)
   rw[Um]at hres
   generalize Bo (s.extract (0:Int).toNat ((i:Nat):Int).toNat)=rt at *
   generalize digitsD (s.extract (((i:Nat):Int)+1).toNat ((s.size:Nat):Int).toNat)=d at *
   obtain ⟨v,b⟩:=rt
   dsimp only at hres q1
   cases b with
   | false =>
    rw[if_pos (.inr (.inl rfl))]at hres
    subst hres
    refine T ?_
    refine⟨⟨by omega,by omega,by omega⟩,?_⟩
    refine T ?_
    refine C q1 F315 ?_
    refine⟨⟨by omega,by omega,by omega⟩,?_⟩
    refine T ?_
    refine C q2 F377 ?_
    exact D
   | true =>
    by_cases k2:d>32
    ·have g3:decide (d>32)=true:=decide_eq_true k2
     rw[if_pos (by
      refine .inr (.inr ?_)
      split
      ·rfl
      ·exact decide_eq_false z_)]at hres
     subst hres
     refine T ?_
     refine⟨⟨by omega,by omega,by omega⟩,?_⟩
     refine T ?_
     refine C q1 F315 ?_
     refine⟨⟨by omega,by omega,by omega⟩,?_⟩
     refine T ?_
     refine C q2 F377 ?_
     exact D
    ·have g3:decide (d>32)=false:=decide_eq_false k2
     rw[if_neg (by omega:¬ d=1000),if_neg (by simp;omega)]at hres
     subst hres
     refine T ?_
     refine⟨⟨by omega,by omega,by omega⟩,?_⟩
     refine T ?_
     refine C q1 F315 ?_
     refine⟨⟨by omega,by omega,by omega⟩,?_⟩
     refine T ?_
     refine C q2 F377 ?_
     exact D
  ·have g1:(((Ai s ((i:Nat):Int).toNat).toNat:Int) != 47)=true:=by
    rw[ej,bne_iff_ne]
    intro e
    exact k1 (UInt8.toNat_inj.1 (by show _=47;omega))
   refine T ?_
   refine Ae (i+1) [] ⟨a1,fun k hk=>?_⟩ z_ U
   by_cases e:k=i
   ·subst e;exact k1
   ·exact hI k z_
 ·have f1:decide ((i:Int)<(s.size:Int))=false:=decide_eq_false z_
  have g2:((i:Int) == (s.size:Int))=true:=by rw[beq_iff_eq];omega
  have hno:(47:UInt8)∉s.data.toList:=by
   have:=Ad8 (l:=s.data.toList) (i:=s.size) (d:=47) (fun k hk=>hI k z_) z_
   rwa [← hL,List.take_length]at this
  rw[Aoz hno,if_pos (.inl rfl)]at hres
  subst hres
  refine T ?_
  exact D
theorem Ane (w:List ByteArray) (hw:w.length≤1000000):Sy.Spec Tryz.prog 245 [.sl 1 Ad w] [] (Ad (mkT (formD w))) []:=cT F245 Tryz.ntmps245 fun F hF=>by
 have hf:=formD.eq_1 w
 by_cases h0:w.length=0
 ·have f0:((w.length:Int) == 0)=true:=by rw[beq_iff_eq];omega
  rw[List.length_eq_zero_iff.1 h0]
  rw[List.length_eq_zero_iff.1 h0]at f0
  have e:formD []=[]:=by decide +kernel
  rw[e]
  refine T ?_
  exact D
 have f0:((w.length:Int) == 0)=false:=by rw[beq_eq_false_iff_ne];omega
 have hn0:(0:Int).toNat<w.length:=by show 0<_;omega
 have hx0:wdT w 0=w[(0:Int).toNat]'hn0:=Ch z_
 rw[hx0]at hf
 generalize formD w=res at *
 generalize hg:w[(0:Int).toNat]'hn0=w0 at *
 by_cases c1:w0=(⟨#[100,101,118,105,99,101]⟩:ByteArray)
 ·have b1:=Ca c1
  rw[c1,k1]at hf
  simp at hf
  subst hf
  rw[← hg]at *
  refine T ?_
  exact D
 have b1:=Cw c1
 by_cases c3:w0=(⟨#[108,105,110,107]⟩:ByteArray)
 ·have b3:=Ca c3
  rw[c3,k3]at hf
  simp at hf
  subst hf
  rw[← hg]at *
  refine T ?_
  exact D
 have b3:=Cw c3
 by_cases c4:w0=(⟨#[115,116,97,116,105,99]⟩:ByteArray)
 ·have b4:=Ca c4
  rw[c4,k4]at hf
  simp at hf
  subst hf
  rw[← hg]at *
  refine T ?_
  exact D
 have b4:=Cw c4
 by_cases c5:w0=(⟨#[118,116,101,112]⟩:ByteArray)
 ·have b5:=Ca c5
  rw[c5,k5]at hf
  simp at hf
  subst hf
  rw[← hg]at *
  refine T ?_
  exact D
 have b5:=Cw c5
 by_cases c6:w0=(⟨#[118,110,105]⟩:ByteArray)
 ·have b6:=Ca c6
  rw[c6,k6]at hf
  simp at hf
  subst hf
  rw[← hg]at *
  refine T ?_
  exact D
 have b6:=Cw c6
 by_cases c7:w0=(⟨#[102,108,111,111,100]⟩:ByteArray)
 ·have b7:=Ca c7
  rw[c7,k7]at hf
  simp at hf
  subst hf
  rw[← hg]at *
  refine T ?_
  exact D
 have b7:=Cw c7
 by_cases c8:w0=(⟨#[118,114,102]⟩:ByteArray)
 ·have b8:=Ca c8
  rw[c8,k8]at hf
  simp at hf
  subst hf
  rw[← hg]at *
  refine T ?_
  exact D
 have b8:=Cw c8
 by_cases c9:w0=(⟨#[105,114,98]⟩:ByteArray)
 ·have b9:=Ca c9
  rw[c9,k9]at hf
  simp at hf
  subst hf
  rw[← hg]at *
  refine T ?_
  exact D
 have b9:=Cw c9
 by_cases c2:w0=(⟨#[112,111,114,116]⟩:ByteArray)
 ·have b2:=Ca c2
  rw[c2,k2]at hf
  clear c2
  rw[← hg]at *
  by_cases l7:w.length=7
  ·have g7:((w.length:Int) == 7)=true:=by rw[beq_iff_eq];omega
   have g6:((w.length:Int) == 6)=false:=by rw[beq_eq_false_iff_ne];omega
   have hn4:(4:Int).toNat<w.length:=by show 4<_;omega
   have hx4:wdT w 4=w[(4:Int).toNat]'hn4:=Ch z_
   rw[hx4]at hf
   by_cases d1:w[(4:Int).toNat]'hn4=accessT
   ·have e1:(!(w[(4:Int).toNat]'hn4 == (⟨#[97,99,99,101,115,115]⟩:ByteArray)))=false:=Hg d1
    rw[if_neg y_,if_neg y_,if_neg y_,if_neg y_,if_neg y_,if_neg y_,if_neg y_,if_neg y_,if_pos rfl,if_neg (fun h=>h.2 d1),if_neg z_]at hf
    subst hf
    refine T ?_
    exact D
   ·have e1:(!(w[(4:Int).toNat]'hn4 == (⟨#[97,99,99,101,115,115]⟩:ByteArray)))=true:=Ko d1
    rw[if_neg y_,if_neg y_,if_neg y_,if_neg y_,if_neg y_,if_neg y_,if_neg y_,if_neg y_,if_pos rfl,if_pos ⟨l7,d1⟩]at hf
    subst hf
    refine T ?_
    exact D
  ·have g7:((w.length:Int) == 7)=false:=by rw[beq_eq_false_iff_ne];omega
   by_cases l6:w.length=6
   ·have g6:((w.length:Int) == 6)=true:=by rw[beq_iff_eq];omega
    have hn4:(4:Int).toNat<w.length:=by show 4<_;omega
    have hx4:wdT w 4=w[(4:Int).toNat]'hn4:=Ch z_
    rw[hx4]at hf
    by_cases d1:w[(4:Int).toNat]'hn4=trunkT
    ·have e1:(!(w[(4:Int).toNat]'hn4 == (⟨#[116,114,117,110,107]⟩:ByteArray)))=false:=Hg d1
     rw[if_neg y_,if_neg y_,if_neg y_,if_neg y_,if_neg y_,if_neg y_,if_neg y_,if_neg y_,if_pos rfl,if_neg (fun h=>l7 h.1),if_neg (fun h=>h.2 d1)]at hf
     subst hf
     refine T ?_
     exact D
    ·have e1:(!(w[(4:Int).toNat]'hn4 == (⟨#[116,114,117,110,107]⟩:ByteArray)))=true:=Ko d1
     rw[if_neg y_,if_neg y_,if_neg y_,if_neg y_,if_neg y_,if_neg y_,if_neg y_,if_neg y_,if_pos rfl,if_neg (fun h=>l7 h.1),if_pos ⟨l6,d1⟩]at hf
     subst hf
     refine T ?_
     exact D
   ·have g6:((w.length:Int) == 6)=false:=by rw[beq_eq_false_iff_ne];omega
    simp[l7,l6]at hf
    subst hf
    refine T ?_
    exact D
 have b2:=Cw c2
 have hk0:kindL w0=0:=by
  unfold kindL
  rw[if_neg c1,if_neg c2,if_neg c3,if_neg c4,if_neg c5,if_neg c6,if_neg c7,if_neg c8,if_neg c9]
 rw[hk0]at hf
 simp at hf
 subst hf
 rw[← hg]at *
 refine T ?_
 exact D
def kindsL:List ByteArray:=[⟨#[]⟩,(⟨#[100,101,118,105,99,101]⟩:ByteArray),(⟨#[112,111,114,116]⟩:ByteArray),(⟨#[108,105,110,107]⟩:ByteArray),(⟨#[115,116,97,116,105,99]⟩:ByteArray),(⟨#[118,116,101,112]⟩:ByteArray),(⟨#[118,110,105]⟩:ByteArray),(⟨#[102,108,111,111,100]⟩:ByteArray),(⟨#[118,114,102]⟩:ByteArray),(⟨#[105,114,98]⟩:ByteArray)]
theorem Aqj (s:ByteArray) (i:Nat) (h1:1≤i) (hi:i<kindsL.length) (h:kindsL[i]=s):kindL s=i:=by
 have h10:kindsL.length=10:=rfl
 have hc:i=1∨i=2∨i=3∨i=4∨i=5∨i=6∨i=7∨i=8∨i=9:=by omega
 subst h
 rcases hc with rfl | rfl | rfl | rfl | rfl | rfl | rfl | rfl | rfl
 ·exact k1
 ·exact k2
 ·exact k3
 ·exact k4
 ·exact k5
 ·exact k6
 ·exact k7
 ·exact k8
 ·exact k9
theorem All (s:ByteArray) (h:∀ i (hi:i<kindsL.length),1≤i→kindsL[i]≠s):kindL s=0:=by
 have n:∀ i (hi:i<kindsL.length),1≤i→¬ s=kindsL[i]:=fun i hi h1 e=>h i hi h1 e.symm
 unfold kindL
 exact(if_neg (n 1 y_ y_)).trans ((if_neg (n 2 y_ y_)).trans ((if_neg (n 3 y_ y_)).trans ((if_neg (n 4 y_ y_)).trans ((if_neg (n 5 y_ y_)).trans ((if_neg (n 6 y_ y_)).trans ((if_neg (n 7 y_ y_)).trans ((if_neg (n 8 y_ y_)).trans (if_neg (n 9 y_ y_)))))))))
theorem Anc (s:ByteArray):Sy.Spec Tryz.prog 246 [Ad s] [] (Aa (kindL s)) []:=cT F246 Tryz.ntmps246 fun F hF=>by
 have hat:=Aqj s
 have hnone:=All s
 have h10:kindsL.length=10:=rfl
 generalize kindL s=k at *
 refine T ?_
 refine De 5 Ad kindsL Y Y ?_
 refine Ac 5 Y ?_
 generalize kindsL=P at *
 refine T ?_
 refine Au (fun i:Nat=>1≤i∧i≤P.length∧∀ j (hj:j<P.length),1≤j→j<i→P[j]≠s) (fun i=>[(0,Ad s),(3,.sl 1 Ad P),(4,Aa i)]) (fun _=>[]) (fun i=>P.length-i) 1 [] ⟨by omega,by omega,fun j hj h1 h2=>by omega⟩ U ?_
 rintro i ⟨h1,h2,h3⟩
 refine T ?_
 refine⟨fun h=>?_,fun h=>?_⟩
 ·have hlt:i<P.length:=qA h
  have hlt0:((i:Nat):Int).toNat<P.length:=hlt
  clear h
  by_cases e:P[((i:Nat):Int).toNat]'hlt0=s
  ·have f:=Ca e
   have:=hat i h1 hlt e
   subst this
   refine T ?_
   exact D
  ·have f:=Cw e
   refine T ?_
   refine Ae (i+1) [] ⟨by omega,hlt,fun j hj a b=>?_⟩ z_ U
   by_cases hji:j=i
   ·subst hji;exact e
   ·exact h3 j hj a z_
 ·have hje:i=P.length:=qB h
  clear h
  have:=hnone fun j hj a=>h3 j hj a z_
  subst this
  refine T ?_
  exact D
theorem Adv (l:LineM) (hl:l.tagged.length≤1000000):Sy.Spec Tryz.prog 248 [Al l] [] (Ab (membersB l.vlan l.tagged)) []:=cT F248 Tryz.ntmps248 fun F hF=>by
 have hm2:=membersB.eq_1 l.vlan l.tagged
 generalize membersB l.vlan l.tagged=r at *
 refine T ?_
 refine A6 1 17 (Al l) Y Y Y ?_
 refine Au (fun j:Nat=>j≤l.tagged.length∧∀ k (hk:k<l.tagged.length),k<j→l.tagged[k]≠l.vlan) (fun j=>[(1,.ref 17 (Al l) 0),(3,Aa j)]) (fun _=>[]) (fun j=>l.tagged.length-j) 0 [] ⟨by omega,fun k hk h=>by omega⟩ U ?_
 rintro j ⟨hj,hI⟩
 refine T ?_
 refine⟨fun h=>?_,fun h=>?_⟩
 ·have hlt:j<l.tagged.length:=qA h
  have hlt0:((j:Nat):Int).toNat<l.tagged.length:=hlt
  clear h
  by_cases e:l.tagged[((j:Nat):Int).toNat]'hlt0=l.vlan
  ·have f:(l.tagged[((j:Nat):Int).toNat]'hlt0 == l.vlan)=true:=by rw[beq_iff_eq];exact e
   have hr:r=false:=by
    rw[hm2]
    have:l.tagged.contains l.vlan=true:=by rw[List.contains_iff_mem,← e];exact List.getElem_mem _
    rw[this];simp
   subst hr
   refine T ?_
   exact D
  ·have f:(l.tagged[((j:Nat):Int).toNat]'hlt0 == l.vlan)=false:=by rw[beq_eq_false_iff_ne];exact e
   refine T ?_
   refine Ae (j+1) [] ⟨hlt,fun k hk hkj=>?_⟩ z_ U
   by_cases hji:k=j
   ·subst hji;exact e
   ·exact hI k hk z_
 ·have hje:j=l.tagged.length:=qB h
  clear h
  have hc:l.tagged.contains l.vlan=false:=by
   rw[Bool.eq_false_iff]
   intro hc
   rw[List.contains_iff_mem]at hc
   obtain ⟨k,hk,e⟩:=List.getElem_of_mem hc
   exact hI k hk z_ e
  rw[hc,Bool.not_false,Bool.and_true]at hm2
  by_cases v:0<l.vlan
  ·have f:decide (l.vlan>0)=true:=decide_eq_true v
   rw[decide_eq_true v,Bool.true_or]at hm2
   subst hm2
   refine T ?_
   exact D
  ·have f:decide (l.vlan>0)=false:=decide_eq_false v
   by_cases z:0<l.tagged.length
   ·have g:decide ((l.tagged.length:Int)>0)=true:=decide_eq_true z_
    have hr:r=true:=by rw[hm2];cases ht:l.tagged with | nil=>rw[ht]at z;cases z | cons=>simp
    subst hr
    refine T ?_
    refine Ar Y (.cons .tmp .nil) (congrArg Ab g.symm) Y
   ·have g:decide ((l.tagged.length:Int)>0)=false:=decide_eq_false z_
    have hr:r=false:=by rw[hm2,decide_eq_false v,List.length_eq_zero_iff.1 (by omega:l.tagged.length=0)];rfl
    subst hr
    refine T ?_
    refine Ar Y (.cons .tmp .nil) (congrArg Ab g.symm) Y
abbrev lnO (l:LineM):Obs:=[(0,.box (Bi l))]
theorem Anb (s:ByteArray) (n:Nat) (l:LineM):Sy.Spec Tryz.prog 310 [Ad s,Aa n,.ptr 0 0] (lnO l) (.tup []) (lnO (nameD s n l)):=cT F310 Tryz.ntmps310 fun F hF=>by
 have hd:=nameD.eq_1 s n l
 generalize nameD s n l=r at *
 by_cases h0:n=0
 ·have f:((n:Int) == 0)=true:=by rw[beq_iff_eq];omega
  rw[if_pos h0]at hd
  subst hd
  refine T ?_
  exact done rfl .nil [] (lnO { l with dev:=s }) (fun _ h=>h) rfl rfl U
 have f:((n:Int) == 0)=false:=by rw[beq_eq_false_iff_ne];omega
 rw[if_neg h0]at hd
 by_cases h8:l.kind=8
 ·have f8:(l.kind == 8)=true:=by rw[beq_iff_eq];exact h8
  rw[if_pos (.inl h8)]at hd
  subst hd
  refine T ?_
  exact done rfl .nil [] (lnO { l with name:=s }) (fun _ h=>h) rfl rfl U
 have f8:(l.kind == 8)=false:=by rw[beq_eq_false_iff_ne];exact h8
 by_cases h9:l.kind=9
 ·have f9:(l.kind == 9)=true:=by rw[beq_iff_eq];exact h9
  rw[if_pos (.inr h9)]at hd
  subst hd
  refine T ?_
  exact done rfl .nil [] (lnO { l with name:=s }) (fun _ h=>h) rfl rfl U
 have f9:(l.kind == 9)=false:=by rw[beq_eq_false_iff_ne];exact h9
 rw[if_neg (fun h=>h.elim h8 h9)]at hd
 by_cases h1:n=1
 ·subst h1
  rw[if_pos rfl]at hd
  subst hd
  refine T ?_
  exact C3 rfl .nil [] (lnO { l with port:=s }) (fun _ h=>h) rfl rfl U
 have g1:((n:Int) == 1)=false:=by rw[beq_eq_false_iff_ne];omega
 rw[if_neg h1]at hd
 by_cases h2:n=2
 ·subst h2
  rw[if_pos rfl]at hd
  subst hd
  refine T ?_
  exact C3 rfl .nil [] (lnO { l with peer:=s }) (fun _ h=>h) rfl rfl U
 have g2:((n:Int) == 2)=false:=by rw[beq_eq_false_iff_ne];omega
 rw[if_neg h2]at hd
 by_cases h3:n=3
 ·subst h3
  rw[if_pos rfl]at hd
  subst hd
  refine T ?_
  exact C3 rfl .nil [] (lnO { l with far:=s }) (fun _ h=>h) rfl rfl U
 have g3:((n:Int) == 3)=false:=by rw[beq_eq_false_iff_ne];omega
 rw[if_neg h3]at hd
 subst hd
 refine T ?_
 exact C3 Y .nil [] (lnO r) (fun _ h=>h) Y Y U
theorem Akt (s:ByteArray) (n:Nat) (l:LineM) (hs:s.size≤1000000):Sy.Spec Tryz.prog 247 [Bn 78,Ad s,Aa n,.ptr 0 0] (lnO l) (Aa (Br 78 s n l).2) (lnO (Br 78 s n l).1):=cT F247 Tryz.ntmps247 fun F hF=>by
 have q1:=Apt s hs
 have q2:=Anb s n l
 rw[wkN]
 generalize nameD s n l=r at *
 cases hb:nameB s with
 | false =>
  rw[if_pos rfl]
  rw[hb]at q1
  refine T ?_
  refine C q1 F309 ?_
  exact done Y (.cons .tmp .nil) [] (lnO l) (fun _ h=>h) Y Y U
 | true =>
  rw[if_neg qe]
  rw[hb]at q1
  refine T ?_
  refine C q1 F309 ?_
  refine X (Af [] Y F310 q2 Y W Y V) ?_
  exact done Y (.cons .tmp .nil) [] (lnO r) (fun _ h=>h) Y Y U
theorem Akw (s:ByteArray) (n:Nat) (l:LineM) (hs:s.size≤1000000):Sy.Spec Tryz.prog 247 [Bn 75,Ad s,Aa n,.ptr 0 0] (lnO l) (Aa (Br 75 s n l).2) (lnO (Br 75 s n l).1):=cT F247 Tryz.ntmps247 fun F hF=>by
 rw[wkK]
 by_cases h1:s=accessT
 ·have f1:(!(s == (⟨#[97,99,99,101,115,115]⟩:ByteArray)))=false:=Hg h1
  rw[if_neg (fun h=>h.1 h1)]
  refine T ?_
  exact done Y (.cons .tmp .nil) [] (lnO l) (fun _ h=>h) Y Y U
 have f1:(!(s == (⟨#[97,99,99,101,115,115]⟩:ByteArray)))=true:=Ko h1
 by_cases h2:s=trunkT
 ·have f2:(!(s == (⟨#[116,114,117,110,107]⟩:ByteArray)))=false:=Hg h2
  rw[if_neg (fun h=>h.2 h2)]
  refine T ?_
  exact done Y (.cons .tmp .nil) [] (lnO l) (fun _ h=>h) Y Y U
 have f2:(!(s == (⟨#[116,114,117,110,107]⟩:ByteArray)))=true:=Ko h2
 rw[if_pos ⟨h1,h2⟩]
 refine T ?_
 exact done Y (.cons .tmp .nil) [] (lnO l) (fun _ h=>h) Y Y U
theorem Aks (s:ByteArray) (n:Nat) (l:LineM) (hs:s.size≤1000000):Sy.Spec Tryz.prog 247 [Bn 80,Ad s,Aa n,.ptr 0 0] (lnO l) (Aa (Br 80 s n l).2) (lnO (Br 80 s n l).1):=cT F247 Tryz.ntmps247 fun F hF=>by
 have q:Sy.Spec Tryz.prog 311 [Ad s,Aa 0,Aa 65535] [] (.tup [Aa (numR s 0 65535).1,Ab (numR s 0 65535).2]) []:=Qa s 0 65535 y_ hs
 rw[wkP]
 generalize numR s 0 65535=r at *
 obtain ⟨v,b⟩:=r
 cases b
 ·refine T ?_
  refine C q F311 ?_
  exact done rfl (.cons .tmp .nil) [] (lnO { l with num:=v }) (fun _ h=>h) rfl rfl U
 ·refine T ?_
  refine C q F311 ?_
  exact done rfl (.cons .tmp .nil) [] (lnO { l with num:=v }) (fun _ h=>h) rfl rfl U
theorem Aky (s:ByteArray) (n:Nat) (l:LineM) (hs:s.size≤1000000):Sy.Spec Tryz.prog 247 [Bn 67,Ad s,Aa n,.ptr 0 0] (lnO l) (Aa (Br 67 s n l).2) (lnO (Br 67 s n l).1):=cT F247 Tryz.ntmps247 fun F hF=>by
 have q:Sy.Spec Tryz.prog 311 [Ad s,Aa 1,Aa 65535] [] (.tup [Aa (numR s 1 65535).1,Ab (numR s 1 65535).2]) []:=Qa s 1 65535 y_ hs
 rw[wkC]
 generalize numR s 1 65535=r at *
 obtain ⟨v,b⟩:=r
 cases b
 ·refine T ?_
  refine C q F311 ?_
  exact done rfl (.cons .tmp .nil) [] (lnO { l with cost:=v }) (fun _ h=>h) rfl rfl U
 ·refine T ?_
  refine C q F311 ?_
  exact done rfl (.cons .tmp .nil) [] (lnO { l with cost:=v }) (fun _ h=>h) rfl rfl U
theorem Ako (s:ByteArray) (n:Nat) (l:LineM) (hs:s.size≤1000000):Sy.Spec Tryz.prog 247 [Bn 86,Ad s,Aa n,.ptr 0 0] (lnO l) (Aa (Br 86 s n l).2) (lnO (Br 86 s n l).1):=cT F247 Tryz.ntmps247 fun F hF=>by
 have q:Sy.Spec Tryz.prog 311 [Ad s,Aa 1,Aa 4094] [] (.tup [Aa (Bl s).1,Ab (Bl s).2]) []:=Qa s 1 4094 y_ hs
 rw[wkV]
 generalize Bl s=r at *
 obtain ⟨v,b⟩:=r
 cases b
 ·refine T ?_
  refine C q F311 ?_
  exact done rfl (.cons .tmp .nil) [] (lnO { l with vlan:=v }) (fun _ h=>h) rfl rfl U
 ·refine T ?_
  refine C q F311 ?_
  exact done rfl (.cons .tmp .nil) [] (lnO { l with vlan:=v }) (fun _ h=>h) rfl rfl U
theorem Akx (s:ByteArray) (n:Nat) (l:LineM) (hs:s.size≤1000000):Sy.Spec Tryz.prog 247 [Bn 73,Ad s,Aa n,.ptr 0 0] (lnO l) (Aa (Br 73 s n l).2) (lnO (Br 73 s n l).1):=cT F247 Tryz.ntmps247 fun F hF=>by
 have q:Sy.Spec Tryz.prog 311 [Ad s,Aa 1,Aa 16777215] [] (.tup [Aa (Hy s).1,Ab (Hy s).2]) []:=Qa s 1 16777215 y_ hs
 rw[wkI]
 generalize Hy s=r at *
 obtain ⟨v,b⟩:=r
 cases b
 ·refine T ?_
  refine C q F311 ?_
  exact done rfl (.cons .tmp .nil) [] (lnO { l with num:=v }) (fun _ h=>h) rfl rfl U
 ·refine T ?_
  refine C q F311 ?_
  exact done rfl (.cons .tmp .nil) [] (lnO { l with num:=v }) (fun _ h=>h) rfl rfl U
theorem Akn (s:ByteArray) (n:Nat) (l:LineM) (hs:s.size≤1000000):Sy.Spec Tryz.prog 247 [Bn 87,Ad s,Aa n,.ptr 0 0] (lnO l) (Aa (Br 87 s n l).2) (lnO (Br 87 s n l).1):=cT F247 Tryz.ntmps247 fun F hF=>by
 have q:Sy.Spec Tryz.prog 311 [Ad s,Aa 1,Aa 4094] [] (.tup [Aa (Bl s).1,Ab (Bl s).2]) []:=Qa s 1 4094 y_ hs
 rw[wkW]
 generalize Bl s=r at *
 obtain ⟨v,b⟩:=r
 cases b
 ·by_cases h:s=dash
  ·have f:(s == (⟨#[45]⟩:ByteArray))=true:=Ca h
   have f2:(!(s == (⟨#[45]⟩:ByteArray)))=false:=Hg h
   rw[decide_eq_true h]
   refine T ?_
   refine C q F311 ?_
   exact done rfl (.cons .tmp .nil) [] (lnO { l with vlan:=v }) (fun _ h=>h) rfl rfl U
  ·have f:(s == (⟨#[45]⟩:ByteArray))=false:=Cw h
   have f2:(!(s == (⟨#[45]⟩:ByteArray)))=true:=Ko h
   rw[decide_eq_false h]
   refine T ?_
   refine C q F311 ?_
   exact done rfl (.cons .tmp .nil) [] (lnO { l with vlan:=v }) (fun _ h=>h) rfl rfl U
 ·refine T ?_
  refine C q F311 ?_
  exact done rfl (.cons .tmp .nil) [] (lnO { l with vlan:=v }) (fun _ h=>h) rfl rfl U
theorem Aku (s:ByteArray) (n:Nat) (l:LineM) (hs:s.size≤1000000):Sy.Spec Tryz.prog 247 [Bn 77,Ad s,Aa n,.ptr 0 0] (lnO l) (Aa (Br 77 s n l).2) (lnO (Br 77 s n l).1):=cT F247 Tryz.ntmps247 fun F hF=>by
 have q:=Apy s
 obtain ⟨m,hm,hm2⟩:=Xy s
 have q2:=Ads m z_
 rw[wkM]
 generalize macR s=r at *
 obtain ⟨v,b⟩:=r
 dsimp only at hm
 subst hm
 generalize statB (m:Int)=g at *
 cases b
 ·refine T ?_
  refine C q F312 ?_
  exact done rfl (.cons .tmp .nil) [] (lnO { l with mac:=(m:Int) }) (fun _ h=>h) rfl rfl U
 ·cases g
  ·refine T ?_
   refine C q F312 ?_
   refine C q2 F313 ?_
   exact done rfl (.cons .tmp .nil) [] (lnO { l with mac:=(m:Int) }) (fun _ h=>h) rfl rfl U
  ·refine T ?_
   refine C q F312 ?_
   refine C q2 F313 ?_
   exact done rfl (.cons .tmp .nil) [] (lnO { l with mac:=(m:Int) }) (fun _ h=>h) rfl rfl U
theorem Akp (s:ByteArray) (n:Nat) (l:LineM) (hs:s.size≤1000000):Sy.Spec Tryz.prog 247 [Bn 84,Ad s,Aa n,.ptr 0 0] (lnO l) (Aa (Br 84 s n l).2) (lnO (Br 84 s n l).1):=cT F247 Tryz.ntmps247 fun F hF=>by
 have q:=Adw s 4094 hs
 rw[wkT]
 generalize listR 4094 s=r at *
 obtain ⟨v,b⟩:=r
 cases b
 ·refine T ?_
  refine C q F314 ?_
  exact done rfl (.cons .tmp .nil) [] (lnO { l with tagged:=v }) (fun _ h=>h) rfl rfl U
 ·refine T ?_
  refine C q F314 ?_
  exact done rfl (.cons .tmp .nil) [] (lnO { l with tagged:=v }) (fun _ h=>h) rfl rfl U
theorem Akr (s:ByteArray) (n:Nat) (l:LineM) (hs:s.size≤1000000):Sy.Spec Tryz.prog 247 [Bn 82,Ad s,Aa n,.ptr 0 0] (lnO l) (Aa (Br 82 s n l).2) (lnO (Br 82 s n l).1):=cT F247 Tryz.ntmps247 fun F hF=>by
 have q:=Adw s 65535 hs
 rw[wkR]
 generalize listR 65535 s=r at *
 obtain ⟨v,b⟩:=r
 cases b
 ·refine T ?_
  refine C q F314 ?_
  exact done rfl (.cons .tmp .nil) [] (lnO { l with imports:=l.exports,exports:=v }) (fun _ h=>h) rfl rfl U
 ·refine T ?_
  refine C q F314 ?_
  exact done rfl (.cons .tmp .nil) [] (lnO { l with imports:=l.exports,exports:=v }) (fun _ h=>h) rfl rfl U
theorem Akz (s:ByteArray) (n:Nat) (l:LineM) (hs:s.size≤1000000):Sy.Spec Tryz.prog 247 [Bn 65,Ad s,Aa n,.ptr 0 0] (lnO l) (Aa (Br 65 s n l).2) (lnO (Br 65 s n l).1):=cT F247 Tryz.ntmps247 fun F hF=>by
 have q:=Aa7 s hs
 rw[wkA]
 generalize Bo s=r at *
 obtain ⟨v,b⟩:=r
 cases b
 ·refine T ?_
  refine C q F315 ?_
  exact done rfl (.cons .tmp .nil) [] (lnO { l with addr:=v }) (fun _ h=>h) rfl rfl U
 ·by_cases h:0<v
  ·have f:decide (v>0)=true:=decide_eq_true h
   rw[decide_eq_true h]
   refine T ?_
   refine C q F315 ?_
   exact done rfl (.cons .tmp .nil) [] (lnO { l with addr:=v }) (fun _ h=>h) rfl rfl U
  ·have f:decide (v>0)=false:=decide_eq_false h
   rw[decide_eq_false h]
   refine T ?_
   refine C q F315 ?_
   exact done rfl (.cons .tmp .nil) [] (lnO { l with addr:=v }) (fun _ h=>h) rfl rfl U
theorem Akv (s:ByteArray) (n:Nat) (l:LineM) (hs:s.size≤1000000):Sy.Spec Tryz.prog 247 [Bn 76,Ad s,Aa n,.ptr 0 0] (lnO l) (Aa (Br 76 s n l).2) (lnO (Br 76 s n l).1):=cT F247 Tryz.ntmps247 fun F hF=>by
 have q:=Aa5 s hs
 have hpos:(Bk s).2=true→0<(Bk s).1.length:=fun h=>by
  obtain ⟨_,_,c,_⟩:=Im Bo (Bd 44 s) [] (Bk s).1 (Ly h) List.Pairwise.nil qe
  rw[c,D9];simp
 rw[wkL]
 generalize Bk s=r at *
 obtain ⟨v,b⟩:=r
 cases b
 ·refine T ?_
  refine C q F316 ?_
  exact done rfl (.cons .tmp .nil) [] (lnO { l with addrs:=v }) (fun _ h=>h) rfl rfl U
 ·have h0:(0:Int).toNat<v.length:=hpos rfl
  have hh:v.headD 0=v[(0:Int).toNat]'h0:=by
   cases v with
   | nil=>cases h0
   | cons x t=>rfl
  clear hpos
  dsimp only
  rw[hh]
  by_cases h:0<v[(0:Int).toNat]'h0
  ·have f:decide (v[(0:Int).toNat]'h0>0)=true:=decide_eq_true h
   have f2:(!(decide (v[(0:Int).toNat]'h0>0)))=false:=by rw[f];rfl
   rw[decide_eq_true h]
   refine T ?_
   refine C q F316 ?_
   exact done rfl (.cons .tmp .nil) [] (lnO { l with addrs:=v }) (fun _ h=>h) rfl rfl U
  ·have f:decide (v[(0:Int).toNat]'h0>0)=false:=decide_eq_false h
   have f2:(!(decide (v[(0:Int).toNat]'h0>0)))=true:=by rw[f];rfl
   rw[decide_eq_false h]
   refine T ?_
   refine C q F316 ?_
   exact done rfl (.cons .tmp .nil) [] (lnO { l with addrs:=v }) (fun _ h=>h) rfl rfl U
theorem Akq (s:ByteArray) (n:Nat) (l:LineM) (hs:s.size≤1000000):Sy.Spec Tryz.prog 247 [Bn 83,Ad s,Aa n,.ptr 0 0] (lnO l) (Aa (Br 83 s n l).2) (lnO (Br 83 s n l).1):=cT F247 Tryz.ntmps247 fun F hF=>by
 have q:=Y3 s hs
 have hr:=Qu s
 obtain ⟨m,hm⟩:∃ m:Nat,(prefixR s).1.1=m:=⟨(prefixR s).1.1.toNat,by omega⟩
 rw[hm]at hr
 have q2:=Ahe m (prefixR s).1.2 z_
 rw[wkS]
 generalize prefixR s=r at *
 obtain ⟨⟨a,v⟩,b⟩:=r
 dsimp only at hm q2
 subst hm
 generalize subnetB (m:Int) v=g at *
 cases b
 ·refine T ?_
  refine C q F317 ?_
  exact done rfl (.cons .tmp .nil) [] (lnO { l with addr:=(m:Int),bits:=v }) (fun _ h=>h) rfl rfl U
 ·cases g
  ·refine T ?_
   refine C q F317 ?_
   refine C q2 F318 ?_
   exact done rfl (.cons .tmp .nil) [] (lnO { l with addr:=(m:Int),bits:=v }) (fun _ h=>h) rfl rfl U
  ·refine T ?_
   refine C q F317 ?_
   refine C q2 F318 ?_
   exact done rfl (.cons .tmp .nil) [] (lnO { l with addr:=(m:Int),bits:=v }) (fun _ h=>h) rfl rfl U
theorem Ana (k:UInt8) (s:ByteArray) (n:Nat) (l:LineM) (hs:s.size≤1000000) (hk:k∈([78,75,80,67,77,86,87,84,73,65,76,82,83]:List UInt8)):Sy.Spec Tryz.prog 247 [Bn k,Ad s,Aa n,.ptr 0 0] (lnO l) (Aa (Br k s n l).2) (lnO (Br k s n l).1):=by
 simp only[List.mem_cons,List.not_mem_nil,or_false]at hk
 rcases hk with rfl | rfl | rfl | rfl | rfl | rfl | rfl | rfl | rfl | rfl | rfl | rfl | rfl
 ·exact Akt s n l hs
 ·exact Akw s n l hs
 ·exact Aks s n l hs
 ·exact Aky s n l hs
 ·exact Aku s n l hs
 ·exact Ako s n l hs
 ·exact Akn s n l hs
 ·exact Akp s n l hs
 ·exact Akx s n l hs
 ·exact Akz s n l hs
 ·exact Akv s n l hs
 ·exact Akr s n l hs
 ·exact Akq s n l hs
theorem Alf (hi:Int) (s:ByteArray):(listR hi s).1.length≤16:=by
 cases h:(listR hi s).2 with
 | true =>
  have:=Kj h
  rcases listOK_iff.1 this with e | e
  ·rw[e];simp
  ·exact(rising_iff.1 e).2.2.2
 | false =>
  unfold listR at h ⊢
  split
  ·simp
  ·rename_i hd
   rw[if_neg hd]at h
   rw[show Dr (fun p=>numR p 1 hi) s=([],false) from So _ _ _ h]
   simp
theorem Aht (s:ByteArray) (n:Nat) (l:LineM):(nameD s n l).kind=l.kind∧(nameD s n l).tagged=l.tagged:=by
 unfold nameD
 repeat' split
 all_goals exact⟨rfl,rfl⟩
def Abs:List UInt8:=[78,75,80,67,77,86,87,84,73,65,76,82,83]
theorem Afr (k:UInt8) (s:ByteArray) (n:Nat) (l:LineM) (hk:k∈Abs):(Br k s n l).1.kind=l.kind∧(l.tagged.length≤16→(Br k s n l).1.tagged.length≤16):=by
 simp only[Abs,List.mem_cons,List.not_mem_nil,or_false]at hk
 rcases hk with rfl | rfl | rfl | rfl | rfl | rfl | rfl | rfl | rfl | rfl | rfl | rfl | rfl
 ·rw[wkN]
  have h:=Aht s n l
  split
  ·exact⟨Y,fun h=>h⟩
  ·exact⟨h.1,fun g=>by dsimp only;rw[h.2];exact g⟩
 ·rw[wkK];exact⟨rfl,fun h=>h⟩
 ·rw[wkP];exact⟨rfl,fun h=>h⟩
 ·rw[wkC];exact⟨rfl,fun h=>h⟩
 ·rw[wkM];exact⟨rfl,fun h=>h⟩
 ·rw[wkV];exact⟨rfl,fun h=>h⟩
 ·rw[wkW];exact⟨rfl,fun h=>h⟩
 ·rw[wkT];exact⟨rfl,fun _=>Alf _ _⟩
 ·rw[wkI];exact⟨rfl,fun h=>h⟩
 ·rw[wkA];exact⟨rfl,fun h=>h⟩
 ·rw[wkL];exact⟨rfl,fun h=>h⟩
 ·rw[wkR];exact⟨rfl,fun h=>h⟩
 ·rw[wkS];exact⟨rfl,fun h=>h⟩
theorem Aop (w:List ByteArray):∀ c∈formD w,c∈Abs:=by
 have key:∀ f,f=formD w→∀ c∈f,c∈Abs:=by
  intro f hf
  unfold formD at hf
  repeat' split at hf
  all_goals
   subst hf
   decide
 exact key _ Y
theorem Als (w:List ByteArray):(formD w).length≤6:=by
 unfold formD
 repeat' split
 all_goals decide
theorem port_form {w:List ByteArray} (h0:wdT w 0=(⟨#[112,111,114,116]⟩:ByteArray)) (h6:6≤w.length) (h7:w.length≤7) (ha:wdT w 4≠accessT) (ht:wdT w 4≠trunkT):¬ (formD w=[]∨w.length≠(formD w).length+1):=by
 have e:formD w=(if w.length=7∧wdT w 4≠accessT then [78,78,67,75,87,84] else if w.length=6∧wdT w 4≠trunkT then [78,78,67,75,86] else []):=by simp[formD,h0,k2]
 rcases (by omega:w.length=6∨w.length=7) with l | l
 ·rw[if_neg z_,if_pos ⟨l,ht⟩]at e
  rw[e];simp[l]
 ·rw[if_pos ⟨l,ha⟩]at e
  rw[e];simp[l]
theorem Adu (w:List ByteArray) (row:Int) (hw:w.length≤1000000) (hs:∀ s∈w,s.size≤1000000):Sy.Spec Tryz.prog 149 [.sl 1 Ad w,Aa row] [] (.tup [Al (readD w row).1,Aa (readD w row).2]) []:=cT F149 Tryz.ntmps149 fun F hF=>by
 have q0:=Ane w hw
 have hfl:=Als w
 have hms:(mkT (formD w)).size=(formD w).length:=Bp _
 have hport:=@port_form w
 by_cases hbad:formD w=[]∨w.length≠(formD w).length+1
 ·rw[Te hbad]
  by_cases hf0:formD w=[]
  ·have f0:(mkT (formD w) == (⟨#[]⟩:ByteArray))=true:=Ca (by rw[hf0];rfl)
   generalize formD w=f at *
   by_cases c1:w.length>4
   ·have g1:decide ((w.length:Int)>4)=true:=decide_eq_true z_
    have hn0:(0:Int).toNat<w.length:=by show 0<_;omega
    have hx0:wdT w 0=w[(0:Int).toNat]'hn0:=Ch z_
    by_cases c2:w[(0:Int).toNat]'hn0=(⟨#[112,111,114,116]⟩:ByteArray)
    ·have g2:=Ca c2
     by_cases c3:w.length≤7
     ·have g3:decide ((w.length:Int)≤7)=true:=decide_eq_true z_
      by_cases c4:w.length≥6
      ·have g4:decide ((w.length:Int)≥6)=true:=decide_eq_true z_
       have hn4:(4:Int).toNat<w.length:=by show 4<_;omega
       have hx4:wdT w 4=w[(4:Int).toNat]'hn4:=Ch z_
       by_cases c5:w[(4:Int).toNat]'hn4=accessT
       ·have g5:(!(w[(4:Int).toNat]'hn4 == (⟨#[97,99,99,101,115,115]⟩:ByteArray)))=false:=Hg c5
        refine T ?_
        refine C q0 F245 ?_
        refine Ag 4 (Bi lineZ) Y (.cons (.refl _) (.cons (.refl _) (.cons (.refl _) (.cons (.refl _) (.cons (.refl _) (.cons (.refl _) (.cons (.refl _) (.cons (.refl _) (.cons (.refl _) (.cons (.refl _) (.cons (.refl _) (.cons (.refl _) (.cons (.refl _) (.cons .nil (.cons .nil (.cons .nil (.cons .nil .nil))))))))))))))))) ?_
        refine T ?_
        exact D
       ·have g5:(!(w[(4:Int).toNat]'hn4 == (⟨#[97,99,99,101,115,115]⟩:ByteArray)))=true:=Ko c5
        by_cases c6:w[(4:Int).toNat]'hn4=trunkT
        ·have g6:(!(w[(4:Int).toNat]'hn4 == (⟨#[116,114,117,110,107]⟩:ByteArray)))=false:=Hg c6
         refine T ?_
         refine C q0 F245 ?_
         refine Ag 4 (Bi lineZ) Y (.cons (.refl _) (.cons (.refl _) (.cons (.refl _) (.cons (.refl _) (.cons (.refl _) (.cons (.refl _) (.cons (.refl _) (.cons (.refl _) (.cons (.refl _) (.cons (.refl _) (.cons (.refl _) (.cons (.refl _) (.cons (.refl _) (.cons .nil (.cons .nil (.cons .nil (.cons .nil .nil))))))))))))))))) ?_
         refine T ?_
         exact D
        ·exact absurd hbad (hport (by rw[hx0];exact c2) c4 c3 (by rw[hx4];exact c5) (by rw[hx4];exact c6))
      ·have g4:decide ((w.length:Int)≥6)=false:=decide_eq_false z_
       refine T ?_
       refine C q0 F245 ?_
       refine Ag 4 (Bi lineZ) Y (.cons (.refl _) (.cons (.refl _) (.cons (.refl _) (.cons (.refl _) (.cons (.refl _) (.cons (.refl _) (.cons (.refl _) (.cons (.refl _) (.cons (.refl _) (.cons (.refl _) (.cons (.refl _) (.cons (.refl _) (.cons (.refl _) (.cons .nil (.cons .nil (.cons .nil (.cons .nil .nil))))))))))))))))) ?_
       refine T ?_
       exact D
     ·have g3:decide ((w.length:Int)≤7)=false:=decide_eq_false z_
      refine T ?_
      refine C q0 F245 ?_
      refine Ag 4 (Bi lineZ) Y (.cons (.refl _) (.cons (.refl _) (.cons (.refl _) (.cons (.refl _) (.cons (.refl _) (.cons (.refl _) (.cons (.refl _) (.cons (.refl _) (.cons (.refl _) (.cons (.refl _) (.cons (.refl _) (.cons (.refl _) (.cons (.refl _) (.cons .nil (.cons .nil (.cons .nil (.cons .nil .nil))))))))))))))))) ?_
      refine T ?_
      exact D
    ·have g2:=Cw c2
     refine T ?_
     refine C q0 F245 ?_
     refine Ag 4 (Bi lineZ) Y (.cons (.refl _) (.cons (.refl _) (.cons (.refl _) (.cons (.refl _) (.cons (.refl _) (.cons (.refl _) (.cons (.refl _) (.cons (.refl _) (.cons (.refl _) (.cons (.refl _) (.cons (.refl _) (.cons (.refl _) (.cons (.refl _) (.cons .nil (.cons .nil (.cons .nil (.cons .nil .nil))))))))))))))))) ?_
     refine T ?_
     exact D
   ·have g1:decide ((w.length:Int)>4)=false:=decide_eq_false z_
    refine T ?_
    refine C q0 F245 ?_
    refine Ag 4 (Bi lineZ) Y (.cons (.refl _) (.cons (.refl _) (.cons (.refl _) (.cons (.refl _) (.cons (.refl _) (.cons (.refl _) (.cons (.refl _) (.cons (.refl _) (.cons (.refl _) (.cons (.refl _) (.cons (.refl _) (.cons (.refl _) (.cons (.refl _) (.cons .nil (.cons .nil (.cons .nil (.cons .nil .nil))))))))))))))))) ?_
    refine T ?_
    exact D
  ·have f0:(mkT (formD w) == (⟨#[]⟩:ByteArray))=false:=Cw (fun e=>hf0 (by have:=congrArg (fun b:ByteArray=>b.data.toList) e;simpa [mkT] using this))
   have f1:((w.length:Int) != ((mkT (formD w)).size:Int)+1)=true:=by rw[bne_iff_ne];have:=hbad.resolve_left hf0;omega
   generalize formD w=f at *
   by_cases c1:w.length>4
   ·have g1:decide ((w.length:Int)>4)=true:=decide_eq_true z_
    have hn0:(0:Int).toNat<w.length:=by show 0<_;omega
    have hx0:wdT w 0=w[(0:Int).toNat]'hn0:=Ch z_
    by_cases c2:w[(0:Int).toNat]'hn0=(⟨#[112,111,114,116]⟩:ByteArray)
    ·have g2:=Ca c2
     by_cases c3:w.length≤7
     ·have g3:decide ((w.length:Int)≤7)=true:=decide_eq_true z_
      by_cases c4:w.length≥6
      ·have g4:decide ((w.length:Int)≥6)=true:=decide_eq_true z_
       have hn4:(4:Int).toNat<w.length:=by show 4<_;omega
       have hx4:wdT w 4=w[(4:Int).toNat]'hn4:=Ch z_
       by_cases c5:w[(4:Int).toNat]'hn4=accessT
       ·have g5:(!(w[(4:Int).toNat]'hn4 == (⟨#[97,99,99,101,115,115]⟩:ByteArray)))=false:=Hg c5
        refine T ?_
        refine C q0 F245 ?_
        refine Ag 4 (Bi lineZ) Y (.cons (.refl _) (.cons (.refl _) (.cons (.refl _) (.cons (.refl _) (.cons (.refl _) (.cons (.refl _) (.cons (.refl _) (.cons (.refl _) (.cons (.refl _) (.cons (.refl _) (.cons (.refl _) (.cons (.refl _) (.cons (.refl _) (.cons .nil (.cons .nil (.cons .nil (.cons .nil .nil))))))))))))))))) ?_
        refine T ?_
        exact D
       ·have g5:(!(w[(4:Int).toNat]'hn4 == (⟨#[97,99,99,101,115,115]⟩:ByteArray)))=true:=Ko c5
        by_cases c6:w[(4:Int).toNat]'hn4=trunkT
        ·have g6:(!(w[(4:Int).toNat]'hn4 == (⟨#[116,114,117,110,107]⟩:ByteArray)))=false:=Hg c6
         refine T ?_
         refine C q0 F245 ?_
         refine Ag 4 (Bi lineZ) Y (.cons (.refl _) (.cons (.refl _) (.cons (.refl _) (.cons (.refl _) (.cons (.refl _) (.cons (.refl _) (.cons (.refl _) (.cons (.refl _) (.cons (.refl _) (.cons (.refl _) (.cons (.refl _) (.cons (.refl _) (.cons (.refl _) (.cons .nil (.cons .nil (.cons .nil (.cons .nil .nil))))))))))))))))) ?_
         refine T ?_
         exact D
        ·exact absurd hbad (hport (by rw[hx0];exact c2) c4 c3 (by rw[hx4];exact c5) (by rw[hx4];exact c6))
      ·have g4:decide ((w.length:Int)≥6)=false:=decide_eq_false z_
       refine T ?_
       refine C q0 F245 ?_
       refine Ag 4 (Bi lineZ) Y (.cons (.refl _) (.cons (.refl _) (.cons (.refl _) (.cons (.refl _) (.cons (.refl _) (.cons (.refl _) (.cons (.refl _) (.cons (.refl _) (.cons (.refl _) (.cons (.refl _) (.cons (.refl _) (.cons (.refl _) (.cons (.refl _) (.cons .nil (.cons .nil (.cons .nil (.cons .nil .nil))))))))))))))))) ?_
       refine T ?_
       exact D
     ·have g3:decide ((w.length:Int)≤7)=false:=decide_eq_false z_
      refine T ?_
      refine C q0 F245 ?_
      refine Ag 4 (Bi lineZ) Y (.cons (.refl _) (.cons (.refl _) (.cons (.refl _) (.cons (.refl _) (.cons (.refl _) (.cons (.refl _) (.cons (.refl _) (.cons (.refl _) (.cons (.refl _) (.cons (.refl _) (.cons (.refl _) (.cons (.refl _) (.cons (.refl _) (.cons .nil (.cons .nil (.cons .nil (.cons .nil .nil))))))))))))))))) ?_
      refine T ?_
      exact D
    ·have g2:=Cw c2
     refine T ?_
     refine C q0 F245 ?_
     refine Ag 4 (Bi lineZ) Y (.cons (.refl _) (.cons (.refl _) (.cons (.refl _) (.cons (.refl _) (.cons (.refl _) (.cons (.refl _) (.cons (.refl _) (.cons (.refl _) (.cons (.refl _) (.cons (.refl _) (.cons (.refl _) (.cons (.refl _) (.cons (.refl _) (.cons .nil (.cons .nil (.cons .nil (.cons .nil .nil))))))))))))))))) ?_
     refine T ?_
     exact D
   ·have g1:decide ((w.length:Int)>4)=false:=decide_eq_false z_
    refine T ?_
    refine C q0 F245 ?_
    refine Ag 4 (Bi lineZ) Y (.cons (.refl _) (.cons (.refl _) (.cons (.refl _) (.cons (.refl _) (.cons (.refl _) (.cons (.refl _) (.cons (.refl _) (.cons (.refl _) (.cons (.refl _) (.cons (.refl _) (.cons (.refl _) (.cons (.refl _) (.cons (.refl _) (.cons .nil (.cons .nil (.cons .nil (.cons .nil .nil))))))))))))))))) ?_
    refine T ?_
    exact D
 ·have hb2:=hbad
  simp only[not_or,ne_eq,Decidable.not_not]at hb2
  obtain ⟨hf0,hl⟩:=hb2
  have f0:(mkT (formD w) == (⟨#[]⟩:ByteArray))=false:=Cw (fun e=>hf0 (by have:=congrArg (fun b:ByteArray=>b.data.toList) e;simpa [mkT] using this))
  have f1:((w.length:Int) != ((mkT (formD w)).size:Int)+1)=false:=by rw[bne_eq_false_iff_eq];omega
  have hin:=Aop w
  have hrd:=readD.eq_1 w row
  rw[if_neg hbad]at hrd
  generalize readD w row=res at *
  have hn0:(0:Int).toNat<w.length:=by show 0<_;omega
  have qk:=Anc (w[(0:Int).toNat]'hn0)
  have hx0:w[(0:Int).toNat]'hn0=wdT w 0:=(Ch z_).symm
  rw[show kindL (w[(0:Int).toNat]'hn0)=kindL (wdT w 0) by rw[hx0]]at qk
  clear hport hbad
  generalize kindL (wdT w 0)=kd at *
  generalize formD w=f at *
  refine T ?_
  refine C q0 F245 ?_
  refine Ag 4 (Bi lineZ) Y (.cons (.refl _) (.cons (.refl _) (.cons (.refl _) (.cons (.refl _) (.cons (.refl _) (.cons (.refl _) (.cons (.refl _) (.cons (.refl _) (.cons (.refl _) (.cons (.refl _) (.cons (.refl _) (.cons (.refl _) (.cons (.refl _) (.cons .nil (.cons .nil (.cons .nil (.cons .nil .nil))))))))))))))))) ?_
  refine T ?_
  refine C qk F246 ?_
  refine Ag 7 (Bi (Jv row kd)) Y (.cons (.refl _) (.cons (.refl _) (.cons (.refl _) (.cons (.refl _) (.cons (.refl _) (.cons (.refl _) (.cons (.refl _) (.cons (.refl _) (.cons (.refl _) (.cons (.refl _) (.cons (.refl _) (.cons (.refl _) (.cons (.refl _) (.cons .nil (.cons .nil (.cons .nil (.cons .nil .nil))))))))))))))))) ?_
  refine T ?_
  refine Au (fun x:Nat × Nat × LineM=>x.1≤f.length∧x.2.1≤x.1∧x.2.2.kind=kd∧x.2.2.tagged.length≤16∧Dj f (w.drop 1) 0 (Jv row kd)=Dj (f.drop x.1) (w.drop (x.1+1)) x.2.1 x.2.2)
   (fun x=>[(0,.sl 1 Ad w),(4,.ptr 1001 0),(6,Ad (mkT f)),(7,.ptr 1002 0),(8,Aa x.2.1),(9,Aa x.1)]) (fun x=>[(1001,.box (Bi lineZ)),(1002,.box (Bi x.2.2))]) (fun x=>f.length-x.1) (0,0,Jv row kd) [(1001,4),(1002,7)] ⟨by simp,by simp,rfl,by simp[Jv],by simp⟩ U ?_
  rintro ⟨i,n,l⟩ ⟨h1,h2,h3,h4,hI⟩
  dsimp only at h1 h2 h3 h4 hI ⊢
  have hI0:=hI
  rw[hI]at hrd
  clear hI
  refine T ?_
  refine⟨fun h=>?_,fun h=>?_⟩
  ·have hlt:i<f.length:=qA h
   clear h
   have hbi:Ai (mkT f) ((i:Nat):Int).toNat=f[i]:=by
    have:i<(mkT f).data.toList.length:=by rw[Bv];exact hlt
    rw[Int.toNat_natCast,Hx this];simp[mkT]
   have hlw:((i:Int)+1).toNat<w.length:=by omega
   have hwi:w[i+1]'z_=w[((i:Int)+1).toNat]'hlw:=by
    have e:((i:Int)+1).toNat=i+1:=by omega
    simp only[e]
   have hfk:=hin _ (List.getElem_mem hlt)
   rw[← hbi]at hfk
   have q:=Ana (Ai (mkT f) ((i:Nat):Int).toNat) (w[((i:Int)+1).toNat]'hlw) n l (hs _ (List.getElem_mem hlw)) hfk
   have hkd:=Afr (Ai (mkT f) ((i:Nat):Int).toNat) (w[((i:Int)+1).toNat]'hlw) n l hfk
   rw[List.drop_eq_getElem_cons hlt,List.drop_eq_getElem_cons (by omega:i+1<w.length),Dj,hwi,← hbi]at hrd hI0
   have hlm:((i:Nat):Int).toNat<(mkT f).size:=by rw[hms];show i<_;exact hlt
   generalize Br (Ai (mkT f) ((i:Nat):Int).toNat) (w[((i:Int)+1).toNat]'hlw) n l=r at *
   obtain ⟨l2,e⟩:=r
   dsimp only at hrd hkd q hI0
   by_cases he:e≠0
   ·have g1:(e != 0)=true:=by rw[bne_iff_ne];exact he
    rw[if_pos he]at hrd
    dsimp only at hrd
    rw[if_pos he]at hrd
    subst hrd
    refine T ?_
    refine Xd (Af [(0,1002)] Y F247 q Y W Y V) ?_
    refine T ?_
    refine Ag 1001 (Bi lineZ) Y (.cons (.refl _) (.cons (.refl _) (.cons (.refl _) (.cons (.refl _) (.cons (.refl _) (.cons (.refl _) (.cons (.refl _) (.cons (.refl _) (.cons (.refl _) (.cons (.refl _) (.cons (.refl _) (.cons (.refl _) (.cons (.refl _) (.cons .nil (.cons .nil (.cons .nil (.cons .nil .nil))))))))))))))))) ?_
    refine T ?_
    exact D
   ·have g1:(e != 0)=false:=by rw[bne_eq_false_iff_eq];omega
    rw[if_neg he]at hrd hI0
    by_cases k78:Ai (mkT f) ((i:Nat):Int).toNat=78
    ·have g2:(((Ai (mkT f) ((i:Nat):Int).toNat).toNat:Int) == 78)=true:=by rw[k78];rfl
     rw[if_pos k78]at hrd hI0
     refine T ?_
     refine Xd (Af [(0,1002)] Y F247 q Y W Y V) ?_
     refine T ?_
     exact Ae (i+1,n+1,l2) [] ⟨hlt,by dsimp only;omega,by dsimp only;rw[hkd.1];exact h3,hkd.2 h4,hI0⟩ (by dsimp only;omega) U
    ·have g2:(((Ai (mkT f) ((i:Nat):Int).toNat).toNat:Int) == 78)=false:=by
      rw[beq_eq_false_iff_ne]
      intro e
      exact k78 (UInt8.toNat_inj.1 (by show _=78;omega))
     rw[if_neg k78]at hrd hI0
     refine T ?_
     refine Xd (Af [(0,1002)] Y F247 q Y W Y V) ?_
     refine T ?_
     exact Ae (i+1,n,l2) [] ⟨hlt,by dsimp only;omega,by dsimp only;rw[hkd.1];exact h3,hkd.2 h4,hI0⟩ (by dsimp only;omega) U
  ·have hie:i=f.length:=qB h
   clear h
   rw[hie,List.drop_length]at hrd
   have e:∀ W n l,Dj [] W n l=(l,0):=fun W n l=>by rw[Dj]
   rw[e]at hrd
   dsimp only at hrd
   rw[if_neg qe]at hrd
   have q:=Adv l z_
   by_cases hk2:kd=2
   ·have g1:(l.kind == 2)=true:=by rw[beq_iff_eq];omega
    cases hb:membersB l.vlan l.tagged with
    | true =>
     rw[hb,if_neg qe]at hrd
     rw[hb]at q
     subst hrd
     refine T ?_
     refine C q F248 ?_
     exact D
    | false =>
     rw[hb,if_pos ⟨hk2,rfl⟩]at hrd
     rw[hb]at q
     subst hrd
     refine T ?_
     refine C q F248 ?_
     refine Ag 1001 (Bi lineZ) Y (.cons (.refl _) (.cons (.refl _) (.cons (.refl _) (.cons (.refl _) (.cons (.refl _) (.cons (.refl _) (.cons (.refl _) (.cons (.refl _) (.cons (.refl _) (.cons (.refl _) (.cons (.refl _) (.cons (.refl _) (.cons (.refl _) (.cons .nil (.cons .nil (.cons .nil (.cons .nil .nil))))))))))))))))) ?_
     refine T ?_
     exact D
   ·have g1:(l.kind == 2)=false:=by rw[beq_eq_false_iff_ne];omega
    rw[if_neg (fun h=>hk2 h.1)]at hrd
    subst hrd
    refine T ?_
    exact D
def Qz (x:LineM):List Int:=[(x.dev.size:Int),(x.port.size:Int),(x.peer.size:Int),(x.far.size:Int),(x.name.size:Int),(x.tagged.length:Int),(x.imports.length:Int),(x.exports.length:Int),(x.addrs.length:Int)]
def L4:List Int→Int→Bool × Int
 | [],t=>(false,t)
 | x::r,t=>if 300<x then (true,0) else L4 r (t+x)
def L3:List LineM→Int→Bool
 | [],t=>decide (10000<t)
 | x::r,t=>if (L4 (Qz x) t).1=true then true else L3 r (L4 (Qz x) t).2
def linesGreat (l:List LineM):Bool:=if 400<l.length then true else L3 l 0
theorem X2:∀ (l:List Int) (t:Int),(L4 l t).1=false→∀ x∈l,x≤300
 | [],_,_,_,hx=>by cases hx
 | y::r,t,h,x,hx=>by
  rw[L4]at h
  split at h
  ·cases h
  ·rcases List.mem_cons.1 hx with rfl | hx
   ·omega
   ·exact X2 r _ h x hx
theorem Oo:∀ (l:List LineM) (t:Int),L3 l t=false→∀ x∈l,∀ y∈Qz x,y≤300
 | [],_,_,_,hx=>by cases hx
 | z::r,t,h,x,hx=>by
  rw[L3]at h
  split at h
  ·cases h
  ·rename_i h0
   rcases List.mem_cons.1 hx with rfl | hx
   ·exact X2 _ _ (by simpa using h0)
   ·exact Oo r _ h x hx
theorem Alq {l:List LineM} (h:linesGreat l=false):∀ x∈l,LineFin x:=by
 rw[linesGreat]at h
 split at h
 ·cases h
 ·intro x hx
  have:=Oo l 0 h x hx
  simp only[Qz,List.forall_mem_cons]at this
  exact⟨by omega,by omega,by omega,by omega⟩
theorem Ali (x:LineM):∀ y∈Qz x,0≤y:=by
 simp only[Qz,List.forall_mem_cons]
 refine⟨by omega,by omega,by omega,by omega,by omega,by omega,by omega,by omega,by omega,fun y hy=>by cases hy⟩
theorem Aek (M:List LineM) (hl:M.length<1000000):Sy.Spec Tryz.prog 11 [.sl 17 Al M] [] (Ab (linesGreat M)) []:=cT F11 Tryz.ntmps11 fun F hF=>by
 have hres:=linesGreat.eq_1 M
 generalize linesGreat M=res at *
 by_cases c0:400<M.length
 ·rw[if_pos c0]at hres
  have f0:decide ((M.length:Int)>400)=true:=decide_eq_true z_
  subst hres
  refine T ?_
  exact D
 rw[if_neg c0]at hres
 have f0:decide ((M.length:Int)>400)=false:=decide_eq_false z_
 refine T ?_
 refine Au (fun x:Nat × Int=>res=L3 (M.drop x.1) x.2∧x.1≤M.length∧0≤x.2∧x.2≤2700 * x.1) (fun x=>[(0,.sl 17 Al M),(3,Aa x.2),(4,Aa x.1)]) (fun _=>[]) (fun x=>M.length-x.1) (0,0) [] ⟨hres,by simp,by simp,by simp⟩ U ?_
 rintro ⟨j,t⟩ ⟨hI,hj,ht0,ht⟩
 dsimp only at hI hj ht0 ht ⊢
 refine T ?_
 refine⟨fun h2=>?_,fun h2=>?_⟩
 ·have hlt:j<M.length:=by have:=of_decide_eq_true h2;omega
  have hlt0:((j:Nat):Int).toNat<M.length:=hlt
  clear h2
  have hdr:M.drop j=M[((j:Nat):Int).toNat]'hlt0::M.drop (j+1):=List.drop_eq_getElem_cons hlt
  rw[hdr,L3]at hI
  refine T ?_
  refine De 70 Aa (Qz (M[((j:Nat):Int).toNat]'hlt0)) Y Y ?_
  refine Ac 70 Y ?_
  have hps:=Ali (M[((j:Nat):Int).toNat]'hlt0)
  have hls:(Qz (M[((j:Nat):Int).toNat]'hlt0)).length=9:=rfl
  generalize Qz (M[((j:Nat):Int).toNat]'hlt0)=ls at *
  refine T ?_
  refine Au (fun x:Nat × Int=>L4 ls t=L4 (ls.drop x.1) x.2∧x.1≤9∧0≤x.2∧x.2≤2700 * j+300 * x.1) (fun x=>[(0,.sl 17 Al M),(3,Aa x.2),(4,Aa j),(70,.sl 1 Aa ls),(71,Aa 9),(72,Aa x.1)]) (fun _=>[]) (fun x=>9-x.1) (0,t) [] ⟨Y,by simp,ht0,by dsimp only;omega⟩ U ?_
  rintro ⟨k,u⟩ ⟨hK,hk,hu0,hu⟩
  dsimp only at hK hk hu0 hu ⊢
  refine T ?_
  refine⟨fun h2=>?_,fun h2=>?_⟩
  ·have hkt:k<9:=by have:=of_decide_eq_true h2;omega
   have hkt0:((k:Nat):Int).toNat<ls.length:=by omega
   clear h2
   have hdk:ls.drop k=ls[((k:Nat):Int).toNat]'hkt0::ls.drop (k+1):=List.drop_eq_getElem_cons hkt0
   rw[hdk,L4]at hK
   have hp:=hps (ls[((k:Nat):Int).toNat]'hkt0) (List.getElem_mem _)
   by_cases c1:300<ls[((k:Nat):Int).toNat]'hkt0
   ·rw[if_pos c1]at hK
    rw[hK,if_pos rfl]at hI
    have f1:decide (ls[((k:Nat):Int).toNat]'hkt0>300)=true:=decide_eq_true z_
    subst hI
    refine T ?_
    exact D
   ·rw[if_neg c1]at hK
    have f1:decide (ls[((k:Nat):Int).toNat]'hkt0>300)=false:=decide_eq_false z_
    refine T ?_
    exact Ae (k+1,u+ls[((k:Nat):Int).toNat]'hkt0) [] ⟨hK,hkt,by dsimp only;omega,by dsimp only;omega⟩ (by dsimp only;omega) U
  ·have hk9:k=9:=by have:=of_decide_eq_false h2;omega
   subst hk9
   clear h2
   rw[List.drop_eq_nil_of_le z_,L4]at hK
   rw[hK,if_neg qe]at hI
   refine T ?_
   exact Ae (j+1,u) [] ⟨hI,hlt,hu0,by dsimp only;omega⟩ (by dsimp only;omega) U
 ·have hje:j=M.length:=by have:=of_decide_eq_false h2;omega
  subst hje
  clear h2
  rw[List.drop_length,L3]at hI
  subst hI
  refine T ?_
  exact D
theorem Ut (l:List Int) (hl:l.length≤1000000):Sy.Spec Tryz.prog 42 [.sl 1 Aa l,.sl 1 Aa l] [] (Ab true) []:=cT F42 Tryz.ntmps42 fun F hF=>by
 have f0:((l.length:Int) != (l.length:Int))=false:=by simp
 refine T ?_
 refine Au (fun j:Nat=>j≤l.length) (fun j=>[(0,.sl 1 Aa l),(1,.sl 1 Aa l),(5,Aa j)]) (fun _=>[]) (fun j=>l.length-j) 0 [] qe U ?_
 intro j hj
 refine T ?_
 refine⟨fun h2=>?_,fun h2=>?_⟩
 ·have hlt:j<l.length:=by have:=of_decide_eq_true h2;omega
  have hlt0:((j:Nat):Int).toNat<l.length:=hlt
  clear h2
  have f1:(l[((j:Nat):Int).toNat]'hlt0 != l[((j:Nat):Int).toNat]'hlt0)=false:=by simp
  refine T ?_
  exact Ae (j+1) [] hlt z_ U
 ·refine T ?_
  exact D
theorem Agz (l:List Int) (hl:l.length≤1000000):Sy.Spec Tryz.prog 43 [.sl 1 A3 l,.sl 1 A3 l] [] (Ab true) []:=cT F43 Tryz.ntmps43 fun F hF=>by
 have f0:((l.length:Int) != (l.length:Int))=false:=by simp
 refine T ?_
 refine Au (fun j:Nat=>j≤l.length) (fun j=>[(0,.sl 1 A3 l),(1,.sl 1 A3 l),(5,Aa j)]) (fun _=>[]) (fun j=>l.length-j) 0 [] qe U ?_
 intro j hj
 refine T ?_
 refine⟨fun h2=>?_,fun h2=>?_⟩
 ·have hlt:j<l.length:=by have:=of_decide_eq_true h2;omega
  have hlt0:((j:Nat):Int).toNat<l.length:=hlt
  clear h2
  have f1:(l[((j:Nat):Int).toNat]'hlt0 != l[((j:Nat):Int).toNat]'hlt0)=false:=by simp
  refine T ?_
  exact Ae (j+1) [] hlt z_ U
 ·refine T ?_
  exact D
theorem Ahg (a:LineM) (h:LineFin a):Sy.Spec Tryz.prog 357 [Al a,Al a] [] (Ab true) []:=cT F357 Tryz.ntmps357 fun F hF=>by
 have z1:=h.t;have z2:=h.i;have z3:=h.e;have z4:=h.a
 have f1:(a.row == a.row)=true:=by simp
 have f2:(a.kind == a.kind)=true:=by simp
 have f3:(a.dev == a.dev)=true:=by simp
 have f4:(a.port == a.port)=true:=by simp
 have f5:(a.peer == a.peer)=true:=by simp
 have f6:(a.far == a.far)=true:=by simp
 have f7:(a.name == a.name)=true:=by simp
 have f8:(a.mac == a.mac)=true:=by simp
 have f9:(a.addr == a.addr)=true:=by simp
 have f10:(a.bits == a.bits)=true:=by simp
 have f11:(a.vlan == a.vlan)=true:=by simp
 have f12:(a.num == a.num)=true:=by simp
 have f13:(a.cost == a.cost)=true:=by simp
 refine T ?_
 refine C (Ut a.tagged z_) F42 ?_
 refine C (Ut a.imports z_) F42 ?_
 refine C (Ut a.exports z_) F42 ?_
 refine C (Agz a.addrs z_) F43 ?_
 exact D
theorem Ce {l:List Int} {hi:Int} (h:Du l hi=true):l.length≤16∧∀ x∈l,0≤x∧x≤hi:=by
 rcases listOK_iff.1 h with e | e
 ·subst e;simp
 ·obtain ⟨_,b,_,d⟩:=rising_iff.1 e
  exact⟨d,fun x hx=>⟨by have:=(b x hx).1;omega,(b x hx).2⟩⟩
theorem Uw (l:List Int) (hl:l.length≤16) (hw:∀ x∈l,0≤x∧x≤65535):Sy.Spec Tryz.prog 417 [.sl 1 Aa l] [] (Ad (Ct l)) []:=cT F417 Tryz.ntmps417 fun F hF=>by
 have q:=Adg l z_ fun x hx=>⟨(hw x hx).1,by have:=(hw x hx).2;omega⟩
 rw[Ct]
 by_cases h0:l.length=0
 ·have f:((l.length:Int) == 0)=true:=by rw[beq_iff_eq];omega
  rw[if_pos (List.length_eq_zero_iff.1 h0)]
  refine T ?_
  exact D
 ·have f:((l.length:Int) == 0)=false:=by rw[beq_eq_false_iff_ne];omega
  rw[if_neg (fun e=>h0 (by rw[e];rfl))]
  refine T ?_
  refine C q F443 ?_
  exact D
theorem L0 {n:Int} (h0:0≤n) (h1:n<1000000000):Sy.Spec Tryz.prog 372 [Aa n] [] (Ad (Aw n)) []:=by
 obtain ⟨m,rfl⟩:∃ m:Nat,n=m:=⟨n.toNat,by omega⟩
 exact Kx m z_
theorem L2 {n:Int} (h:0≤n∧n<18446744073709551616):Sy.Spec Tryz.prog 373 [B4 n] [] (Ad (A1 n)) []:=by
 obtain ⟨m,rfl⟩:∃ m:Nat,n=m:=⟨n.toNat,by omega⟩
 exact Ai5 m z_
theorem Arf {n:Int} (h:0≤n∧n<4294967296):Sy.Spec Tryz.prog 418 [A3 n] [] (Ad (B6 n)) []:=by
 obtain ⟨m,rfl⟩:∃ m:Nat,n=m:=⟨n.toNat,by omega⟩
 exact Lv m z_
theorem Ai8 {n b:Int} (h:0≤n∧n<4294967296) (hb:0≤b∧b≤32):Sy.Spec Tryz.prog 420 [Di n b] [] (Ad (C1 n b)) []:=by
 obtain ⟨m,rfl⟩:∃ m:Nat,n=m:=⟨n.toNat,by omega⟩
 exact Y4 m b z_ hb
theorem Ahd (l:LineM) (h:LineR l) (hk:l.kind=1):Sy.Spec Tryz.prog 356 [Al l] [] (.sl 1 Ad (Ao l)) []:=cT F356 Tryz.ntmps356 fun F hF=>by
 have qv:=L0 h.vlan.1 (by have:=h.vlan.2;omega)
 have qn:=L0 h.num.1 (by have:=h.num.2;omega)
 have qm:=L2 h.ok.mac
 have hwo:Ao l=[(⟨#[100,101,118,105,99,101]⟩:ByteArray),l.dev,Aw l.num,A1 l.mac]:=by
  simp only[Ao,hk]
  rfl
 rw[hwo]
 have f1:(l.kind == 1)=true:=by rw[hk];rfl
 clear hk hwo h
 generalize Aw l.vlan=vv at *
 generalize Aw l.num=nn at *
 generalize A1 l.mac=mm at *
 refine T ?_
 refine C qv F372 ?_
 refine C qn F372 ?_
 refine C qm F373 ?_
 refine De 24 Ad [(⟨#[100,101,118,105,99,101]⟩:ByteArray),l.dev,nn,mm] Y Y ?_
 refine Ac 24 Y ?_
 refine T ?_
 exact D
theorem Ahb (l:LineM) (h:LineR l) (hk:l.kind=3):Sy.Spec Tryz.prog 356 [Al l] [] (.sl 1 Ad (Ao l)) []:=cT F356 Tryz.ntmps356 fun F hF=>by
 have qv:=L0 h.vlan.1 (by have:=h.vlan.2;omega)
 have qn:=L0 h.num.1 (by have:=h.num.2;omega)
 have qm:=L2 h.ok.mac
 have hwo:Ao l=[(⟨#[108,105,110,107]⟩:ByteArray),l.dev,l.port,l.peer,l.far]:=by
  simp only[Ao,hk]
  rfl
 rw[hwo]
 have f1:(l.kind == 1)=false:=by rw[hk];rfl
 have f2:(l.kind == 2)=false:=by rw[hk];rfl
 have f3:(l.kind == 3)=true:=by rw[hk];rfl
 clear hk hwo h
 generalize Aw l.vlan=vv at *
 generalize Aw l.num=nn at *
 generalize A1 l.mac=mm at *
 refine T ?_
 refine C qv F372 ?_
 refine C qn F372 ?_
 refine C qm F373 ?_
 refine De 64 Ad [(⟨#[108,105,110,107]⟩:ByteArray),l.dev,l.port,l.peer,l.far] Y Y ?_
 refine Ac 64 Y ?_
 refine T ?_
 exact D
theorem Aha (l:LineM) (h:LineR l) (hk:l.kind=4):Sy.Spec Tryz.prog 356 [Al l] [] (.sl 1 Ad (Ao l)) []:=cT F356 Tryz.ntmps356 fun F hF=>by
 have qv:=L0 h.vlan.1 (by have:=h.vlan.2;omega)
 have qn:=L0 h.num.1 (by have:=h.num.2;omega)
 have qm:=L2 h.ok.mac
 have hwo:Ao l=[(⟨#[115,116,97,116,105,99]⟩:ByteArray),l.dev,Aw l.vlan,A1 l.mac,l.port]:=by
  simp only[Ao,hk]
  rfl
 rw[hwo]
 have f1:(l.kind == 1)=false:=by rw[hk];rfl
 have f2:(l.kind == 2)=false:=by rw[hk];rfl
 have f3:(l.kind == 3)=false:=by rw[hk];rfl
 have f4:(l.kind == 4)=true:=by rw[hk];rfl
 clear hk hwo h
 generalize Aw l.vlan=vv at *
 generalize Aw l.num=nn at *
 generalize A1 l.mac=mm at *
 refine T ?_
 refine C qv F372 ?_
 refine C qn F372 ?_
 refine C qm F373 ?_
 refine De 73 Ad [(⟨#[115,116,97,116,105,99]⟩:ByteArray),l.dev,vv,mm,l.port] Y Y ?_
 refine Ac 73 Y ?_
 refine T ?_
 exact D
theorem Ag9 (l:LineM) (h:LineR l) (hk:l.kind=5):Sy.Spec Tryz.prog 356 [Al l] [] (.sl 1 Ad (Ao l)) []:=cT F356 Tryz.ntmps356 fun F hF=>by
 have qv:=L0 h.vlan.1 (by have:=h.vlan.2;omega)
 have qn:=L0 h.num.1 (by have:=h.num.2;omega)
 have qm:=L2 h.ok.mac
 have q0:=Arf h.ok.addr
 have hwo:Ao l=[(⟨#[118,116,101,112]⟩:ByteArray),l.dev,B6 l.addr]:=by
  simp only[Ao,hk]
  rfl
 rw[hwo]
 have f1:(l.kind == 1)=false:=by rw[hk];rfl
 have f2:(l.kind == 2)=false:=by rw[hk];rfl
 have f3:(l.kind == 3)=false:=by rw[hk];rfl
 have f4:(l.kind == 4)=false:=by rw[hk];rfl
 have f5:(l.kind == 5)=true:=by rw[hk];rfl
 clear hk hwo h
 generalize Aw l.vlan=vv at *
 generalize Aw l.num=nn at *
 generalize A1 l.mac=mm at *
 generalize B6 l.addr=aa at *
 refine T ?_
 refine C qv F372 ?_
 refine C qn F372 ?_
 refine C qm F373 ?_
 refine C q0 F418 ?_
 refine De 81 Ad [(⟨#[118,116,101,112]⟩:ByteArray),l.dev,aa] Y Y ?_
 refine Ac 81 Y ?_
 refine T ?_
 exact D
theorem Ag8 (l:LineM) (h:LineR l) (hk:l.kind=6):Sy.Spec Tryz.prog 356 [Al l] [] (.sl 1 Ad (Ao l)) []:=cT F356 Tryz.ntmps356 fun F hF=>by
 have qv:=L0 h.vlan.1 (by have:=h.vlan.2;omega)
 have qn:=L0 h.num.1 (by have:=h.num.2;omega)
 have qm:=L2 h.ok.mac
 have hwo:Ao l=[(⟨#[118,110,105]⟩:ByteArray),l.dev,Aw l.vlan,Aw l.num]:=by
  simp only[Ao,hk]
  rfl
 rw[hwo]
 have f1:(l.kind == 1)=false:=by rw[hk];rfl
 have f2:(l.kind == 2)=false:=by rw[hk];rfl
 have f3:(l.kind == 3)=false:=by rw[hk];rfl
 have f4:(l.kind == 4)=false:=by rw[hk];rfl
 have f5:(l.kind == 5)=false:=by rw[hk];rfl
 have f6:(l.kind == 6)=true:=by rw[hk];rfl
 clear hk hwo h
 generalize Aw l.vlan=vv at *
 generalize Aw l.num=nn at *
 generalize A1 l.mac=mm at *
 refine T ?_
 refine C qv F372 ?_
 refine C qn F372 ?_
 refine C qm F373 ?_
 refine De 88 Ad [(⟨#[118,110,105]⟩:ByteArray),l.dev,vv,nn] Y Y ?_
 refine Ac 88 Y ?_
 refine T ?_
 exact D
theorem Ag7 (l:LineM) (h:LineR l) (hk:l.kind=7):Sy.Spec Tryz.prog 356 [Al l] [] (.sl 1 Ad (Ao l)) []:=cT F356 Tryz.ntmps356 fun F hF=>by
 have qv:=L0 h.vlan.1 (by have:=h.vlan.2;omega)
 have qn:=L0 h.num.1 (by have:=h.num.2;omega)
 have qm:=L2 h.ok.mac
 have q0:=Th l.addrs (by have:=h.addrs;omega) h.ok.addrs
 have hwo:Ao l=[(⟨#[102,108,111,111,100]⟩:ByteArray),l.dev,Aw l.num,Dn l.addrs]:=by
  simp only[Ao,hk]
  rfl
 rw[hwo]
 have f1:(l.kind == 1)=false:=by rw[hk];rfl
 have f2:(l.kind == 2)=false:=by rw[hk];rfl
 have f3:(l.kind == 3)=false:=by rw[hk];rfl
 have f4:(l.kind == 4)=false:=by rw[hk];rfl
 have f5:(l.kind == 5)=false:=by rw[hk];rfl
 have f6:(l.kind == 6)=false:=by rw[hk];rfl
 have f7:(l.kind == 7)=true:=by rw[hk];rfl
 clear hk hwo h
 generalize Aw l.vlan=vv at *
 generalize Aw l.num=nn at *
 generalize A1 l.mac=mm at *
 generalize Dn l.addrs=aa at *
 refine T ?_
 refine C qv F372 ?_
 refine C qn F372 ?_
 refine C qm F373 ?_
 refine C q0 F419 ?_
 refine De 97 Ad [(⟨#[102,108,111,111,100]⟩:ByteArray),l.dev,nn,aa] Y Y ?_
 refine Ac 97 Y ?_
 refine T ?_
 exact D
theorem Ag6 (l:LineM) (h:LineR l) (hk:l.kind=8):Sy.Spec Tryz.prog 356 [Al l] [] (.sl 1 Ad (Ao l)) []:=cT F356 Tryz.ntmps356 fun F hF=>by
 have qv:=L0 h.vlan.1 (by have:=h.vlan.2;omega)
 have qn:=L0 h.num.1 (by have:=h.num.2;omega)
 have qm:=L2 h.ok.mac
 have q0:=Uw l.imports (Ce h.imports).1 (fun x hx=>(Ce h.imports).2 x hx)
 have q1:=Uw l.exports (Ce h.exports).1 (fun x hx=>(Ce h.exports).2 x hx)
 have hwo:Ao l=[(⟨#[118,114,102]⟩:ByteArray),l.dev,l.name,Ct l.imports,Ct l.exports]:=by
  simp only[Ao,hk]
  rfl
 rw[hwo]
 have f1:(l.kind == 1)=false:=by rw[hk];rfl
 have f2:(l.kind == 2)=false:=by rw[hk];rfl
 have f3:(l.kind == 3)=false:=by rw[hk];rfl
 have f4:(l.kind == 4)=false:=by rw[hk];rfl
 have f5:(l.kind == 5)=false:=by rw[hk];rfl
 have f6:(l.kind == 6)=false:=by rw[hk];rfl
 have f7:(l.kind == 7)=false:=by rw[hk];rfl
 have f8:(l.kind == 8)=true:=by rw[hk];rfl
 clear hk hwo h
 generalize Aw l.vlan=vv at *
 generalize Aw l.num=nn at *
 generalize A1 l.mac=mm at *
 generalize Ct l.imports=ii at *
 generalize Ct l.exports=ee at *
 refine T ?_
 refine C qv F372 ?_
 refine C qn F372 ?_
 refine C qm F373 ?_
 refine C q0 F417 ?_
 refine C q1 F417 ?_
 refine De 110 Ad [(⟨#[118,114,102]⟩:ByteArray),l.dev,l.name,ii,ee] Y Y ?_
 refine Ac 110 Y ?_
 refine T ?_
 exact D
theorem Ag5 (l:LineM) (h:LineR l) (hk:l.kind=9):Sy.Spec Tryz.prog 356 [Al l] [] (.sl 1 Ad (Ao l)) []:=cT F356 Tryz.ntmps356 fun F hF=>by
 have qv:=L0 h.vlan.1 (by have:=h.vlan.2;omega)
 have qn:=L0 h.num.1 (by have:=h.num.2;omega)
 have qm:=L2 h.ok.mac
 have q0:=Ai8 h.ok.addr h.bits
 have hwo:Ao l=[(⟨#[105,114,98]⟩:ByteArray),l.dev,Aw l.vlan,l.name,C1 l.addr l.bits]:=by
  simp only[Ao,hk]
  rfl
 rw[hwo]
 have f1:(l.kind == 1)=false:=by rw[hk];rfl
 have f2:(l.kind == 2)=false:=by rw[hk];rfl
 have f3:(l.kind == 3)=false:=by rw[hk];rfl
 have f4:(l.kind == 4)=false:=by rw[hk];rfl
 have f5:(l.kind == 5)=false:=by rw[hk];rfl
 have f6:(l.kind == 6)=false:=by rw[hk];rfl
 have f7:(l.kind == 7)=false:=by rw[hk];rfl
 have f8:(l.kind == 8)=false:=by rw[hk];rfl
 have f9:(l.kind == 9)=true:=by rw[hk];rfl
 clear hk hwo h
 generalize Aw l.vlan=vv at *
 generalize Aw l.num=nn at *
 generalize A1 l.mac=mm at *
 generalize C1 l.addr l.bits=pp at *
 refine T ?_
 refine C qv F372 ?_
 refine C qn F372 ?_
 refine C qm F373 ?_
 refine C q0 F420 ?_
 refine De 124 Ad [(⟨#[105,114,98]⟩:ByteArray),l.dev,vv,l.name,pp] Y Y ?_
 refine Ac 124 Y ?_
 refine T ?_
 exact D
theorem Ahc (l:LineM) (h:LineR l) (hk:l.kind=2):Sy.Spec Tryz.prog 356 [Al l] [] (.sl 1 Ad (Ao l)) []:=cT F356 Tryz.ntmps356 fun F hF=>by
 have qv:=L0 h.vlan.1 (by have:=h.vlan.2;omega)
 have qn:=L0 h.num.1 (by have:=h.num.2;omega)
 have qm:=L2 h.ok.mac
 have qc:=L0 h.cost.1 (by have:=h.cost.2;omega)
 have q0:=Uw l.tagged (Ce h.tagged).1 (fun x hx=>⟨((Ce h.tagged).2 x hx).1,by have:=((Ce h.tagged).2 x hx).2;omega⟩)
 have hwo:Ao l=K6 l:=by
  simp only[Ao,hk]
  rfl
 rw[hwo,K6]
 have f1:(l.kind == 1)=false:=by rw[hk];rfl
 have f2:(l.kind == 2)=true:=by rw[hk];rfl
 clear hk hwo h
 by_cases h0:l.tagged.length=0
 ·have f0:((l.tagged.length:Int) == 0)=true:=by rw[h0];rfl
  rw[if_pos (List.eq_nil_of_length_eq_zero h0)]
  generalize Aw l.vlan=vv at *
  generalize Aw l.num=nn at *
  generalize A1 l.mac=mm at *
  generalize Aw l.cost=cc at *
  refine T ?_
  refine C qv F372 ?_
  refine C qn F372 ?_
  refine C qm F373 ?_
  refine C qc F372 ?_
  refine De 40 Ad [(⟨#[112,111,114,116]⟩:ByteArray),l.dev,l.port,cc,accessT,vv] Y Y ?_
  refine Ac 40 Y ?_
  refine T ?_
  exact D
 ·have f0:((l.tagged.length:Int) == 0)=false:=by rw[beq_eq_false_iff_ne];omega
  rw[if_neg (fun e=>h0 (by rw[e];rfl))]
  by_cases hv:l.vlan=0
  ·have f3:(l.vlan == 0)=true:=beq_iff_eq.2 hv
   rw[if_pos hv]
   clear hv
   generalize Aw l.vlan=vv at *
   generalize Aw l.num=nn at *
   generalize A1 l.mac=mm at *
   generalize Aw l.cost=cc at *
   generalize Ct l.tagged=tt at *
   refine T ?_
   refine C qv F372 ?_
   refine C qn F372 ?_
   refine C qm F373 ?_
   refine C qc F372 ?_
   refine C q0 F417 ?_
   refine De 53 Ad [(⟨#[112,111,114,116]⟩:ByteArray),l.dev,l.port,cc,trunkT,dash,tt] Y Y ?_
   refine Ac 53 Y ?_
   refine T ?_
   exact D
  ·have f3:(l.vlan == 0)=false:=beq_eq_false_iff_ne.2 hv
   rw[if_neg hv]
   clear hv
   generalize Aw l.vlan=vv at *
   generalize Aw l.num=nn at *
   generalize A1 l.mac=mm at *
   generalize Aw l.cost=cc at *
   generalize Ct l.tagged=tt at *
   refine T ?_
   refine C qv F372 ?_
   refine C qn F372 ?_
   refine C qm F373 ?_
   refine C qc F372 ?_
   refine C q0 F417 ?_
   refine De 53 Ad [(⟨#[112,111,114,116]⟩:ByteArray),l.dev,l.port,cc,trunkT,vv,tt] Y Y ?_
   refine Ac 53 Y ?_
   refine T ?_
   exact D
theorem Ac0 {l:LineM} (h:B1 l=true):1≤l.kind∧l.kind≤9:=by
 rw[B1,Bool.and_eq_true]at h
 by_cases hh:l.kind=1∨l.kind=2∨l.kind=3∨l.kind=4∨l.kind=5∨l.kind=6∨l.kind=7∨l.kind=8∨l.kind=9
 ·omega
 ·simp only[not_or]at hh
  have:=h.1
  simp[A7,hh]at this
theorem Akm (l:LineM) (h:LineR l):Sy.Spec Tryz.prog 356 [Al l] [] (.sl 1 Ad (Ao l)) []:=by
 have hk:=Ac0 h.right
 have hc:l.kind=1∨l.kind=2∨l.kind=3∨l.kind=4∨l.kind=5∨l.kind=6∨l.kind=7∨l.kind=8∨l.kind=9:=by omega
 rcases hc with k | k | k | k | k | k | k | k | k
 ·exact Ahd l h k
 ·exact Ahc l h k
 ·exact Ahb l h k
 ·exact Aha l h k
 ·exact Ag9 l h k
 ·exact Ag8 l h k
 ·exact Ag7 l h k
 ·exact Ag6 l h k
 ·exact Ag5 l h k
theorem Mv {l:List Int} {hi:Int} (h:Du l hi=true) (hh:hi≤65535):(Ct l).size≤2000:=by
 obtain ⟨h1,h2⟩:=Ce h
 rw[Ct]
 split
 ·decide
 ·have h3:=L6 (l.map Aw) comma
  have h4:=Mw (tx:=Aw) l (fun x hx=>by have:=Ek (n:=x) ⟨by have:=(h2 x hx).1;omega,by have:=(h2 x hx).2;omega⟩;omega)
  have h5:comma.size=1:=rfl
  rw[List.length_map,h5]at h3
  rw[Dw];omega
theorem Ack {l:LineM} (h:LineR l):(Ao l).length≤7∧∀ x∈Ao l,x.size≤2000:=by
 have hd:=h.dev;have hp:=h.port;have hpe:=h.peer;have hf:=h.far;have hn:=h.name
 have w64:∀ {n:Int},0≤n→n≤100000000→(Aw n).size≤22:=fun {n} a b=>Ek (n:=n) ⟨by omega,by omega⟩
 have nv:=w64 h.vlan.1 (by have:=h.vlan.2;omega)
 have nn:=w64 h.num.1 (by have:=h.num.2;omega)
 have nc:=w64 h.cost.1 (by have:=h.cost.2;omega)
 have s1:=Mv h.tagged y_
 have s2:=Mv h.imports y_
 have s3:=Mv h.exports y_
 have s4:(Dn l.addrs).size≤2000:=by
  have h1:=L6 (l.addrs.map B6) comma
  have h2:=Mw (tx:=B6) l.addrs (fun x _=>El x)
  have h3:comma.size=1:=rfl
  rw[List.length_map,h3]at h1
  have:=h.addrs
  rw[Dn];omega
 have s5:(A1 l.mac).size≤2000:=by
  have:=Xx l.mac.toNat 6
  rw[A1,Bp];omega
 have s6:(C1 l.addr l.bits).size≤2000:=by
  rw[C1]
  split
  ·have h1:=El l.addr
   have h2:=Cb 2 l.bits.toNat z_
   rw[Bp,List.length_append,List.length_append,List.length_reverse]
   have:(B6 l.addr).data.toList.length=(B6 l.addr).size:=rfl
   simp;omega
  ·decide
 have s7:=El l.addr
 have z1:accessT.size=6:=rfl
 have z2:trunkT.size=5:=rfl
 have z3:dash.size=1:=rfl
 have lz:∀ a:Array UInt8,a.size≤20→(⟨a⟩:ByteArray).size≤2000:=fun a ha=>Nat.le_trans ha y_
 generalize e:Ao l=ws
 rw[Ao,K6]at e
 repeat' split at e
 all_goals subst e
 all_goals refine⟨by simp,?_⟩
 all_goals try simp only[List.forall_mem_cons]
 all_goals repeat' apply And.intro
 all_goals first | omega | (split<;>omega) | (exact lz _ y_) | (intro x hx;cases hx)
theorem LineR.fin {l:LineM} (h:LineR l):LineFin l:=⟨by have:=(Ce h.tagged).1;omega,by have:=(Ce h.imports).1;omega,by have:=(Ce h.exports).1;omega,by have:=h.addrs;omega⟩
theorem Ak0 (l:LineM) (h:LineR l):Sy.Spec Tryz.prog 292 [Al l] [] (Ab true) []:=cT F292 Tryz.ntmps292 fun F hF=>by
 have q1:=Akm l h
 have hz:=Ack h
 have q2:=Adu (Ao l) l.row z_ (fun s hs=>by have:=hz.2 s hs;omega)
 rw[Xi,W9 h.ok h.right]at q2
 have q3:=Ahg l h.fin
 have z1:=(Ce h.tagged).1
 have z2:=(Ce h.imports).1
 have z3:=(Ce h.exports).1
 have z4:=h.addrs
 have f1:decide ((l.tagged.length:Int)>16)=false:=decide_eq_false z_
 have f2:decide ((l.imports.length:Int)>16)=false:=decide_eq_false z_
 have f3:decide ((l.exports.length:Int)>16)=false:=decide_eq_false z_
 have f4:decide ((l.addrs.length:Int)>16)=false:=decide_eq_false z_
 clear h hz
 refine T ?_
 refine C q1 F356 ?_
 refine C q2 F149 ?_
 refine C q3 F357 ?_
 exact D
theorem LineR.f {l:LineM} (h:LineR l):LineF l :=
 ⟨h.fin,h.ok,by have:=h.dev;omega,by have:=h.port;omega,by have:=h.peer;omega,by have:=h.far;omega,by have:=h.name;omega⟩
end Go.Sy.YtjenpnjajjplkaaGreatDoor
namespace Go.Sy.YtjenpnjajjplkaaGreatDoor
open Go.Proofs
theorem Aqb {n:Net} (h:(meshNT n).2.2=0):(meshNT n).1=D7 n∧(meshNT n).2.1=0∧Ah (D7 n)=true∧n.floods.find? (fun f=>!(agreesB n f))=none:=by
 rw[meshNT]at h ⊢
 split at h
 ·simp at h
 rename_i h1
 rw[if_neg h1]
 cases hf:n.floods.find? (fun f=>!(agreesB n f)) with
 | some f=>rw[hf]at h;simp at h
 | none =>
  rw[hf]at h
  dsimp only at h ⊢
  split at h
  ·simp at h
  rename_i h2
  rw[if_neg h2]
  exact⟨Y,Y,by simpa using h2,Y⟩
end Go.Sy.YtjenpnjajjplkaaGreatDoor
namespace Go.Sy.YtjenpnjajjplkaaGreatDoor
open Go.Proofs
attribute [local irreducible] Go.Sy.G Go.Sy.DR
set_option maxRecDepth 100000
set_option maxHeartbeats 4000000
def Vb (n:Net):Prop:=∀ d∈n.devices,0≤d.vtep
theorem Dc:Vb emptyN:=fun d hd=>by cases hd
theorem Ak1 {n:Net} {l:LineM} (hv:Vb n) (hl:LineW l):Vb (putT n l).1:=by
 have same:∀ {m:Net},m.devices=n.devices→Vb m:=fun {m} h d hd=>hv d (by rw[← h];exact hd)
 rw[putT]
 split
 ·rw[putDevice]
  repeat' split
  all_goals (try exact Dc)
  intro d hd
  rcases List.mem_append.1 hd with hd | hd
  ·exact hv d hd
  ·rw[List.mem_singleton.1 hd];exact Int.le_refl _
 split
 ·rw[putPort]
  repeat' split
  all_goals (first | exact Dc | exact same rfl)
 split
 ·rw[putLink]
  dsimp only
  repeat' split
  all_goals (first | exact Dc | exact same rfl)
 split
 ·rw[putStatic]
  dsimp only
  repeat' split
  all_goals (first | exact Dc | exact same rfl)
 split
 ·rw[putVtep]
  dsimp only
  split
  ·exact Dc
  split
  ·exact Dc
  intro d hd
  have hd:d∈Sb n.devices (begT n l 5).1 l.addr:=hd
  rcases Abn hd with h | h
  ·exact hv d h
  ·rw[h];exact hl.ok.addr.1
 split
 ·rw[putVni]
  dsimp only
  repeat' split
  all_goals (first | exact Dc | exact same rfl)
 split
 ·rw[putFlood]
  dsimp only
  repeat' split
  all_goals (first | exact Dc | exact same rfl)
 split
 ·rw[putVrf]
  dsimp only
  repeat' split
  all_goals (first | exact Dc | exact same rfl)
 split
 ·rw[putIrb]
  dsimp only
  repeat' split
  all_goals (first | exact Dc | exact same rfl)
 exact Dc
theorem Ald {n:Net} (h:(meshNT n).2.2≠0):(meshNT n).1=emptyN:=by
 rw[meshNT]at h ⊢
 split
 ·rfl
 rename_i h1
 rw[if_neg h1]at h
 split
 ·rfl
 rename_i h2
 rw[h2]at h
 dsimp only at h
 split
 ·rfl
 rename_i h3
 rw[if_neg h3]at h
 exact absurd Y h
theorem Apu (n:Net) (hn:n.Fin) (ha:Ha n) (hv:Vb n) (l:LineM) (hl:LineW l) (hR:Hn l):Sy.Spec Tryz.prog 38 [Aj n,Al l] [] (.tup [Aj (putT n l).1,Aa (putT n l).2]) []:=cT F38 Tryz.ntmps38 fun F hF=>by
 have hres:=putT.eq_1 n l
 generalize putT n l=res at *
 by_cases h1:l.kind=1
 ·have g1:(l.kind == 1)=true:=by rw[beq_iff_eq];exact h1
  have q:=Ag3 n hn l hl hR
  rw[if_pos h1]at hres
  rw[← hres]at q
  refine T ?_
  refine C q F126 ?_
  exact D
 have g1:(l.kind == 1)=false:=by rw[beq_eq_false_iff_ne];exact h1
 rw[if_neg h1]at hres
 by_cases h2:l.kind=2
 ·have g2:(l.kind == 2)=true:=by rw[beq_iff_eq];exact h2
  have q:=Am7 n hn l hl hR
  rw[if_pos h2]at hres
  rw[← hres]at q
  refine T ?_
  refine C q F127 ?_
  exact D
 have g2:(l.kind == 2)=false:=by rw[beq_eq_false_iff_ne];exact h2
 rw[if_neg h2]at hres
 by_cases h3:l.kind=3
 ·have g3:(l.kind == 3)=true:=by rw[beq_iff_eq];exact h3
  have q:=Ap0 n hn l hl hR
  rw[if_pos h3]at hres
  rw[← hres]at q
  refine T ?_
  refine C q F128 ?_
  exact D
 have g3:(l.kind == 3)=false:=by rw[beq_eq_false_iff_ne];exact h3
 rw[if_neg h3]at hres
 by_cases h4:l.kind=4
 ·have g4:(l.kind == 4)=true:=by rw[beq_iff_eq];exact h4
  have q:=Ag1 n hn l hl hR
  rw[if_pos h4]at hres
  rw[← hres]at q
  refine T ?_
  refine C q F129 ?_
  exact D
 have g4:(l.kind == 4)=false:=by rw[beq_eq_false_iff_ne];exact h4
 rw[if_neg h4]at hres
 by_cases h5:l.kind=5
 ·have g5:(l.kind == 5)=true:=by rw[beq_iff_eq];exact h5
  have q:=Am5 n hn hv l hl hR
  rw[if_pos h5]at hres
  rw[← hres]at q
  refine T ?_
  refine C q F130 ?_
  exact D
 have g5:(l.kind == 5)=false:=by rw[beq_eq_false_iff_ne];exact h5
 rw[if_neg h5]at hres
 by_cases h6:l.kind=6
 ·have g6:(l.kind == 6)=true:=by rw[beq_iff_eq];exact h6
  have q:=Apz n hn l hl hR
  rw[if_pos h6]at hres
  rw[← hres]at q
  refine T ?_
  refine C q F131 ?_
  exact D
 have g6:(l.kind == 6)=false:=by rw[beq_eq_false_iff_ne];exact h6
 rw[if_neg h6]at hres
 by_cases h7:l.kind=7
 ·have g7:(l.kind == 7)=true:=by rw[beq_iff_eq];exact h7
  have q:=Akl n hn l hl hR
  rw[if_pos h7]at hres
  rw[← hres]at q
  refine T ?_
  refine C q F132 ?_
  exact D
 have g7:(l.kind == 7)=false:=by rw[beq_eq_false_iff_ne];exact h7
 rw[if_neg h7]at hres
 by_cases h8:l.kind=8
 ·have g8:(l.kind == 8)=true:=by rw[beq_iff_eq];exact h8
  have q:=Apw n hn l hl hR
  rw[if_pos h8]at hres
  rw[← hres]at q
  refine T ?_
  refine C q F133 ?_
  exact D
 have g8:(l.kind == 8)=false:=by rw[beq_eq_false_iff_ne];exact h8
 rw[if_neg h8]at hres
 by_cases h9:l.kind=9
 ·have g9:(l.kind == 9)=true:=by rw[beq_iff_eq];exact h9
  have q:=Apx n hn ha l hl hR
  rw[if_pos h9]at hres
  rw[← hres]at q
  refine T ?_
  refine C q F134 ?_
  exact D
 have g9:(l.kind == 9)=false:=by rw[beq_eq_false_iff_ne];exact h9
 rw[if_neg h9]at hres
 subst hres
 refine T ?_
 refine Ag 4 (Bj emptyN) Y (.cons .nil (.cons .nil (.cons .nil (.cons .nil (.cons .nil (.cons .nil (.cons .nil (.cons .nil .nil)))))))) ?_
 refine T ?_
 exact D
theorem Akg (M:List LineM) (hM:∀ l∈M,LineW l) (hR:∀ l∈M,Hn l) (hl:M.length<2147483648):Sy.Spec Tryz.prog 18 [.sl 17 Al M] [] (.tup [Aj (Co M).1,Aa (Co M).2.1,Aa (Co M).2.2]) []:=cT F18 Tryz.ntmps18 fun F hF=>by
 have hres:Hw emptyN M=Co M:=rfl
 generalize Co M=res at *
 refine T ?_
 refine Ag 5 (Bj emptyN) Y (.cons .nil (.cons .nil (.cons .nil (.cons .nil (.cons .nil (.cons .nil (.cons .nil (.cons .nil .nil)))))))) ?_
 refine Au (fun x:Nat × Net=>x.1≤M.length∧x.2.Fin∧Ha x.2∧Vb x.2∧Hw x.2 (M.drop x.1)=res) (fun x=>[(0,.sl 17 Al M),(2,.ptr 1002 0),(5,.ptr 1005 0),(6,Aa x.1)]) (fun x=>[(1002,.box [.val (.slice none 0 0),.val (.slice none 0 0),.val (.slice none 0 0),.val (.slice none 0 0),.val (.slice none 0 0),.val (.slice none 0 0),.val (.slice none 0 0),.val (.slice none 0 0)]),(1005,.box (Bj x.2))]) (fun x=>M.length-x.1) (0,emptyN) [(1002,2),(1005,5)] ⟨by omega,Hf,fun x hx=>(by cases hx),Dc,hres⟩ U ?_
 rintro ⟨j,n⟩ ⟨h1,hn,ha,hv,hI⟩
 dsimp only at h1 hn ha hv hI ⊢
 refine T ?_
 refine⟨fun h=>?_,fun h=>?_⟩
 ·have hlt:j<M.length:=qA h
  have hj0:((j:Nat):Int).toNat<M.length:=hlt
  clear h
  have hmem:=List.getElem_mem hj0
  have qp:=Apu n hn ha hv (M[((j:Nat):Int).toNat]'hj0) (hM _ hmem) (hR _ hmem)
  have hp:=Aa9 (l:=(M[((j:Nat):Int).toNat]'hj0)) hn ha (hM _ hmem)
  have hv2:=Ak1 (l:=(M[((j:Nat):Int).toNat]'hj0)) hv (hM _ hmem)
  rw[List.drop_eq_getElem_cons hlt,Hw]at hI
  have hde:M[j]=(M[((j:Nat):Int).toNat]'hj0):=rfl
  rw[hde]at hI
  generalize putT n (M[((j:Nat):Int).toNat]'hj0)=r at *
  obtain ⟨m,e⟩:=r
  dsimp only at qp hI hv2
  by_cases he:e=0
  ·have g:(e != 0)=false:=by rw[he];rfl
   rw[if_neg (fun h=>h he)]at hI
   refine T ?_
   refine C qp F38 ?_
   exact Ae (j+1,m) [] ⟨hlt,hp.fin,hp.addrs,hv2,hI⟩ (by dsimp only;omega) U
  ·have g:(e != 0)=true:=by rw[bne_iff_ne];exact he
   rw[if_pos he]at hI
   subst hI
   refine T ?_
   refine C qp F38 ?_
   refine Ag 1002 (Bj emptyN) Y (.cons .nil (.cons .nil (.cons .nil (.cons .nil (.cons .nil (.cons .nil (.cons .nil (.cons .nil .nil)))))))) ?_
   refine T ?_
   exact D
 ·have hje:j=M.length:=qB h
  clear h
  rw[hje,List.drop_length,Hw,finishT]at hI
  have qm:=Am6 n hn
  have hmf:=Qc hn
  have hok:=Aqb (n:=n)
  have hno:=Ald (n:=n)
  generalize meshNT n=r at *
  obtain ⟨m,row,e⟩:=r
  dsimp only at qm hI hmf hok hno
  by_cases he:e=0
  ·have g:(e != 0)=false:=by rw[he];rfl
   rw[if_neg (fun h=>h he)]at hI
   obtain ⟨e1,_,e3,_⟩:=hok he
   have hr:Ah m=true:=by rw[e1];exact e3
   have ql:=Am4 m hmf hr
   generalize loopT m=lp at *
   obtain ⟨lrow,isl⟩:=lp
   dsimp only at ql hI
   cases isl with
   | true =>
    rw[if_pos rfl]at hI
    subst hI
    refine T ?_
    refine C qm F39 ?_
    refine C ql F40 ?_
    refine Ag 1002 (Bj emptyN) Y (.cons .nil (.cons .nil (.cons .nil (.cons .nil (.cons .nil (.cons .nil (.cons .nil (.cons .nil .nil)))))))) ?_
    refine T ?_
    exact D
   | false =>
    rw[if_neg y_]at hI
    subst hI
    refine T ?_
    refine C qm F39 ?_
    refine C ql F40 ?_
    refine T ?_
    exact D
  ·have g:(e != 0)=true:=by rw[bne_iff_ne];exact he
   rw[if_pos he]at hI
   rw[hno he]at hI
   subst hI
   refine T ?_
   refine C qm F39 ?_
   refine Ag 1002 (Bj emptyN) Y (.cons .nil (.cons .nil (.cons .nil (.cons .nil (.cons .nil (.cons .nil (.cons .nil (.cons .nil .nil)))))))) ?_
   refine T ?_
   exact D
end Go.Sy.YtjenpnjajjplkaaGreatDoor
namespace Go.Sy
def Ae4 (P:Program) (ks2:List EK) (n:Nat):Nat→List Field→List EK→Prop
 | i, [f], [] => f.name ≠ "_" ∧ f.offset = i ∧ EqOK P f.type ks2 ∧ (∃ i1, P.info? f.type = some i1) ∧ P.cellsOf f.type = n
 | i, f :: fs, k :: ks => f.name ≠ "_" ∧ f.offset = i ∧ P.underlying f.type = some k.desc ∧ Ae4 P ks2 n (i + 1) fs ks
 | _,_,_=>False
theorem V1 {P:Program} {κ:Ka} {w:World} {xs ys:Array Value} {ks2:List EK} {n:Nat} {l2 m2:List SV} {r2:Bool} (hl:l2.length=n) (hm:m2.length=n) (h2:eqS ks2 l2 m2=some r2) (d:Nat) :
  ∀ (ks:List EK) (fs:List Field) (i:Nat) (l m:List SV) (r:Bool),Ae4 P ks2 n i fs ks→RdL κ w (l++l2) (xs.toList.drop i)→RdL κ w (m++m2) (ys.toList.drop i)→eqS ks l m=some r →
  (Op.eqFields (d+3) xs ys fs).run P w=.ok (r && r2) w
 | [],[f],i,l,m,r,h,hx,hy,he=>by
  simp only[Ae4]at h
  obtain ⟨a1,a2,a3,⟨i1,a4⟩,a5⟩:=h
  cases l<;>cases m<;>simp[eqS]at he
  subst he
  rw[List.nil_append]at hx hy
  have lx:=RdL.length hx
  have ly:=RdL.length hy
  have hsz:=run_sizeOf (P:=P) (w:=w) a4
  have ex:∀ zs:Array Value,(zs.toList.drop i).length=n→(zs.extract i (i+n)).toList=zs.toList.drop i:=fun zs hz=>by
   rw[Array.toList_extract,List.extract_eq_take_drop]
   exact List.take_of_length_le z_
  have p:∀ zs:Array Value,(part f.type zs i).run P w=.ok (.agg (zs.extract i (i+n))) w:=fun zs=>by
   simp only[part,isAgg,run_underlying a3.under,Sem.run_bind,Result.andThen_ok,hsz,a5,if_true,Sem.run_pure]
  have hin:(Op.equalIn (d+3) f.type (.agg (xs.extract i (i+n))) (.agg (ys.extract i (i+n)))).run P w=.ok r2 w:=by
   rw[run_equalIn_struct w (d+2) f.type _ _ a3.under a3.stood]
   exact Aid (κ:=κ) (d+1) ks2 _ 0 l2 m2 r2 a3.fields (by rw[ex xs z_];simpa using hx) (by rw[ex ys z_];simpa using hy) h2
  simp only[Op.eqFields,if_pos a1,Sem.run_bind,a2,p xs,p ys,Result.andThen_ok,hin]
  cases r2<;>simp
 | k::ks,f::fs,i,[],m,r,h,_,_,he=>by simp[eqS]at he
 | k::ks,f::fs,i,x::l,[],r,h,_,_,he=>by simp[eqS]at he
 | k::ks,f::fs,i,x::l,y::m,r,h,hx,hy,he=>by
  simp only[Ae4]at h
  obtain ⟨h1,h2',h3,h4⟩:=h
  simp only[List.cons_append,RdL]at hx hy
  obtain ⟨v,q,e1,e2,e3⟩:=hx
  obtain ⟨u,p,f1,f2,f3⟩:=hy
  have g1:xs[i]? = some v:=by
   have:=congrArg (fun l=>l[0]?) e1
   simpa using this
  have g2:ys[i]? = some u:=by
   have:=congrArg (fun l=>l[0]?) f1
   simpa using this
  have e4:xs.toList.drop (i+1)=q:=by
   have:=congrArg (List.drop 1) e1
   simpa [Nat.add_comm] using this
  have f4:ys.toList.drop (i+1)=p:=by
   have:=congrArg (List.drop 1) f1
   simpa [Nat.add_comm] using this
  have p1:=Mz (P:=P) w h3 xs g1
  have p2:=Mz (P:=P) w h3 ys g2
  simp only[eqS]at he
  cases hb:eq1 k x y with
  | none=>rw[hb]at he;cases he
  | some b =>
   cases hq:eqS ks l m with
   | none=>rw[hb,hq]at he;cases he
   | some r' =>
    rw[hb,hq]at he
    simp only[Option.some.injEq]at he
    have hrun:=Ajm (P:=P) (κ:=κ) (w:=w) (d+2) h3 hb e2 f2
    have ih:=V1 hl hm h2 d ks fs (i+1) l m r' h4 (by rw[e4];exact e3) (by rw[f4];exact f3) hq
    simp only[Op.eqFields,if_pos h1,Sem.run_bind,h2',p1,p2,Result.andThen_ok,hrun]
    subst he
    cases b
    ·simp
    ·simp[ih]
 | [],[],_,_,_,_,h,_,_,_=>by simp[Ae4]at h
 | [],_::_::_,_,_,_,_,h,_,_,_=>by simp[Ae4]at h
 | _::_,[],_,_,_,_,h,_,_,_=>by simp[Ae4]at h
structure EqT (P:Program) (t:TypeId) (ks ks2:List EK) (n:Nat):Prop where
 under:P.underlying t=some (.struct (P.fieldsOf t))
 stood:P.stoodInHeld t=false
 guard:P.eqGuardType P.depth t=false
 fields:Ae4 P ks2 n 0 (P.fieldsOf t).toList ks
theorem Ab1 {P:Program} {o:Oper} {s:SS} {op:BinOp} {t yt:TypeId} {x y:Operand} {l m l2 m2:List SV} {ks ks2:List EK} {n:Nat} {r r2:Bool} (h:o.op=.binOp op t x y yt) (hop:op=.eql∨op=.neq) (hq:EqT P t ks ks2 n)
  (hx:ev s x=.agg (l++l2)) (hy:ev s y=.agg (m++m2)) (hl:l2.length=n) (hm:m2.length=n) (hr:eqS ks l m=some r) (hr2:eqS ks2 l2 m2=some r2):Good P o s ⟨.val (.bool (if op=.eql then (r && r2) else !(r && r2))),[],[]⟩ :=
 Good.pure fun κ a w _ hrd _=>by
  have h1:=hrd x (by simp[h,Op.operands])
  have h2:=hrd y (by simp[h,Op.operands])
  rw[hx]at h1
  rw[hy]at h2
  simp only[Rd]at h1 h2
  obtain ⟨cs,e1,_,e3⟩:=h1
  obtain ⟨ds,f1,_,f3⟩:=h2
  have hrun:(Op.equal t (.agg cs.toArray) (.agg ds.toArray)).run P w=.ok (r && r2) w:=by
   show (Op.equalIn (9999+1) t (.agg cs.toArray) (.agg ds.toArray)).run P w=.ok (r && r2) w
   rw[run_equalIn_struct w 9999 t _ _ hq.under hq.stood]
   exact V1 (κ:=κ) hl hm hr2 9996 ks _ 0 l m r hq.fields (by simpa using e3) (by simpa using f3) hr
  have hg:(eqGuard op t x y (.agg cs.toArray) (.agg ds.toArray)).run P w=.ok () w:=by
   rcases hop with rfl | rfl<;>simp[eqGuard,hq.guard]
  refine⟨.bool (if op=.eql then (r && r2) else !(r && r2)),?_,by simp[Rd]⟩
  rcases hop with rfl | rfl<;>simp[execOp,h,e1,f1,hg,binOp,hrun]
end Go.Sy
namespace Go.Sy.YtjenpnjajjplkaaGreatDoor
open Go.Proofs
attribute [local irreducible] Go.Sy.G Go.Sy.DR
set_option maxRecDepth 100000
set_option maxHeartbeats 4000000
theorem irb3:((Program.fieldsOf Tryz.prog 132)[3]!).type=130:=by kernel_rfl
theorem irbEqT:EqT Tryz.prog 132 [.int .i64,.int .i64,.int .i64] [.int .u32,.int .i64] 2 where
 under:=by kernel_rfl
 stood:=by kernel_rfl
 guard:=by kernel_rfl
 fields:=by
  have e:(Program.fieldsOf Tryz.prog 132).toList=[(Program.fieldsOf Tryz.prog 132)[0]!,(Program.fieldsOf Tryz.prog 132)[1]!,(Program.fieldsOf Tryz.prog 132)[2]!,(Program.fieldsOf Tryz.prog 132)[3]!]:=by kernel_rfl
  rw[e]
  refine⟨of_decide_eq_true j_,by kernel_rfl,by kernel_rfl,of_decide_eq_true j_,by kernel_rfl,by kernel_rfl,of_decide_eq_true j_,by kernel_rfl,by kernel_rfl,of_decide_eq_true j_,by kernel_rfl,?_,?_,by kernel_rfl⟩
  ·rw[irb3];exact Γ.eqok 130 _ rfl
  ·rw[irb3];exact Go.info_of_underlying (d:=.struct (Program.fieldsOf Tryz.prog 130)) j_
theorem An7 (x:Irb):(!((x.row == x.row && (x.domain == x.domain && (x.vrf == x.vrf && true))) && (x.addr == x.addr && (x.bits == x.bits && true))))=false:=by simp
theorem J3 (l:List Int) (hl:l.length<2147483648):Sy.Spec Tryz.prog 42 [.sl 1 Aa l,.sl 1 Aa l] [] (Ab true) []:=cT F42 Tryz.ntmps42 fun F hF=>by
 have f0:((l.length:Int) != (l.length:Int))=false:=by simp
 refine T ?_
 refine Au (fun j:Nat=>j≤l.length) (fun j=>[(0,.sl 1 Aa l),(1,.sl 1 Aa l),(5,Aa j)]) (fun _=>[]) (fun j=>l.length-j) 0 [] qe U ?_
 intro j hj
 refine T ?_
 refine⟨fun h2=>?_,fun h2=>?_⟩
 ·have hlt:j<l.length:=by have:=of_decide_eq_true h2;omega
  have hlt0:((j:Nat):Int).toNat<l.length:=hlt
  clear h2
  have f1:((l[((j:Nat):Int).toNat]'hlt0) != (l[((j:Nat):Int).toNat]'hlt0))=false:=by simp
  refine T ?_
  exact Ae (j+1) [] hlt z_ U
 ·refine T ?_
  exact D
theorem Y5 (l:List Int) (hl:l.length<2147483648):Sy.Spec Tryz.prog 43 [.sl 1 A3 l,.sl 1 A3 l] [] (Ab true) []:=cT F43 Tryz.ntmps43 fun F hF=>by
 have f0:((l.length:Int) != (l.length:Int))=false:=by simp
 refine T ?_
 refine Au (fun j:Nat=>j≤l.length) (fun j=>[(0,.sl 1 A3 l),(1,.sl 1 A3 l),(5,Aa j)]) (fun _=>[]) (fun j=>l.length-j) 0 [] qe U ?_
 intro j hj
 refine T ?_
 refine⟨fun h2=>?_,fun h2=>?_⟩
 ·have hlt:j<l.length:=by have:=of_decide_eq_true h2;omega
  have hlt0:((j:Nat):Int).toNat<l.length:=hlt
  clear h2
  have f1:((l[((j:Nat):Int).toNat]'hlt0) != (l[((j:Nat):Int).toNat]'hlt0))=false:=by simp
  refine T ?_
  exact Ae (j+1) [] hlt z_ U
 ·refine T ?_
  exact D
theorem Am8 (n:Net) (hn:n.Fin):Sy.Spec Tryz.prog 41 [Aj n,Aj n] [] (Ab true) []:=cT F41 Tryz.ntmps41 fun F hF=>by
 have hd:n.devices.length<2147483648:=hn.devices
 have hp:n.ports.length<2147483648:=hn.ports
 have hl:n.links.length<2147483648:=hn.links
 have ho:n.domains.length<2147483648:=hn.domains
 have hs:n.statics.length<2147483648:=hn.statics
 have hf:n.floods.length<2147483648:=hn.floods
 have hv:n.vrfs.length<2147483648:=hn.vrfs
 have hi:n.irbs.length<2147483648:=hn.irbs
 have f1:((n.devices.length:Int) != (n.devices.length:Int))=false:=by simp
 have f2:((n.links.length:Int) != (n.links.length:Int))=false:=by simp
 have f3:((n.statics.length:Int) != (n.statics.length:Int))=false:=by simp
 have f4:((n.irbs.length:Int) != (n.irbs.length:Int))=false:=by simp
 refine T ?_
 refine A6 2 8 (Aj n) Y Y Y ?_
 refine A6 3 8 (Aj n) Y Y Y ?_
 refine Au (fun j:Nat=>j≤n.devices.length) (fun j=>[(2,.ref 8 (Aj n) 0),(3,.ref 8 (Aj n) 0),(5,Aa j)]) (fun _=>[]) (fun j=>n.devices.length-j) 0 [] qe U ?_
 intro j hj
 refine T ?_
 refine⟨fun h2=>?_,fun h2=>?_⟩
 ·have hlt:j<n.devices.length:=by have:=of_decide_eq_true h2;omega
  have hlt0:((j:Nat):Int).toNat<n.devices.length:=hlt
  clear h2
  refine T ?_
  exact Ae (j+1) [] hlt z_ U
 ·clear h2
  refine T ?_
  refine Au (fun j:Nat=>j≤n.links.length) (fun j=>[(2,.ref 8 (Aj n) 0),(3,.ref 8 (Aj n) 0),(6,Aa j)]) (fun _=>[]) (fun j=>n.links.length-j) 0 [] qe U ?_
  intro j hj
  refine T ?_
  refine⟨fun h2=>?_,fun h2=>?_⟩
  ·have hlt:j<n.links.length:=by have:=of_decide_eq_true h2;omega
   have hlt0:((j:Nat):Int).toNat<n.links.length:=hlt
   clear h2
   refine T ?_
   exact Ae (j+1) [] hlt z_ U
  ·clear h2
   refine T ?_
   refine Au (fun j:Nat=>j≤n.statics.length) (fun j=>[(2,.ref 8 (Aj n) 0),(3,.ref 8 (Aj n) 0),(7,Aa j)]) (fun _=>[]) (fun j=>n.statics.length-j) 0 [] qe U ?_
   intro j hj
   refine T ?_
   refine⟨fun h2=>?_,fun h2=>?_⟩
   ·have hlt:j<n.statics.length:=by have:=of_decide_eq_true h2;omega
    have hlt0:((j:Nat):Int).toNat<n.statics.length:=hlt
    clear h2
    refine T ?_
    exact Ae (j+1) [] hlt z_ U
   ·clear h2
    refine T ?_
    refine Au (fun j:Nat=>j≤n.irbs.length) (fun j=>[(2,.ref 8 (Aj n) 0),(3,.ref 8 (Aj n) 0),(8,Aa j)]) (fun _=>[]) (fun j=>n.irbs.length-j) 0 [] qe U ?_
    intro j hj
    refine T ?_
    refine⟨fun h2=>?_,fun h2=>?_⟩
    ·have hlt:j<n.irbs.length:=by have:=of_decide_eq_true h2;omega
     have hlt0:((j:Nat):Int).toNat<n.irbs.length:=hlt
     clear h2
     refine T ?_
     refine Xd (Ab1 (l:=[Aa _,Aa _,Aa _]) (l2:=[A3 _,Aa _]) (m:=[Aa _,Aa _,Aa _]) (m2:=[A3 _,Aa _]) Y (.inr Y) irbEqT Y Y Y Y Y Y) ?_
     rw[An7]
     refine T ?_
     exact Ae (j+1) [] hlt z_ U
    ·clear h2
     refine T ?_
     exact D
theorem Am9 (n:Net) (hn:n.Fin):Sy.Spec Tryz.prog 19 [Aj n,Aj n] [] (Ab true) []:=cT F19 Tryz.ntmps19 fun F hF=>by
 have qt:=Am8 n hn
 have hd:n.devices.length<2147483648:=hn.devices
 have hp:n.ports.length<2147483648:=hn.ports
 have hl:n.links.length<2147483648:=hn.links
 have ho:n.domains.length<2147483648:=hn.domains
 have hs:n.statics.length<2147483648:=hn.statics
 have hf:n.floods.length<2147483648:=hn.floods
 have hv:n.vrfs.length<2147483648:=hn.vrfs
 have hi:n.irbs.length<2147483648:=hn.irbs
 have f1:((n.ports.length:Int) != (n.ports.length:Int))=false:=by simp
 have f2:((n.domains.length:Int) != (n.domains.length:Int))=false:=by simp
 have f3:((n.floods.length:Int) != (n.floods.length:Int))=false:=by simp
 have f4:((n.vrfs.length:Int) != (n.vrfs.length:Int))=false:=by simp
 refine T ?_
 refine C qt F41 ?_
 refine T ?_
 refine A6 2 8 (Aj n) Y Y Y ?_
 refine A6 3 8 (Aj n) Y Y Y ?_
 refine Au (fun j:Nat=>j≤n.ports.length) (fun j=>[(2,.ref 8 (Aj n) 0),(3,.ref 8 (Aj n) 0),(5,Aa j)]) (fun _=>[]) (fun j=>n.ports.length-j) 0 [] qe U ?_
 intro j hj
 refine T ?_
 refine⟨fun h2=>?_,fun h2=>?_⟩
 ·have hlt:j<n.ports.length:=by have:=of_decide_eq_true h2;omega
  have hlt0:((j:Nat):Int).toNat<n.ports.length:=hlt
  clear h2
  have qtagged:=J3 (n.ports[((j:Nat):Int).toNat]'hlt0).tagged (hn.tagged _ (List.getElem_mem hlt0))
  refine T ?_
  refine C qtagged F42 ?_
  refine T ?_
  exact Ae (j+1) [] hlt z_ U
 ·clear h2
  refine T ?_
  refine Au (fun j:Nat=>j≤n.domains.length) (fun j=>[(2,.ref 8 (Aj n) 0),(3,.ref 8 (Aj n) 0),(8,Aa j)]) (fun _=>[]) (fun j=>n.domains.length-j) 0 [] qe U ?_
  intro j hj
  refine T ?_
  refine⟨fun h2=>?_,fun h2=>?_⟩
  ·have hlt:j<n.domains.length:=by have:=of_decide_eq_true h2;omega
   have hlt0:((j:Nat):Int).toNat<n.domains.length:=hlt
   clear h2
   have qpeers:=J3 (n.domains[((j:Nat):Int).toNat]'hlt0).peers (hn.peers _ (List.getElem_mem hlt0))
   refine T ?_
   refine C qpeers F42 ?_
   refine T ?_
   exact Ae (j+1) [] hlt z_ U
  ·clear h2
   refine T ?_
   refine Au (fun j:Nat=>j≤n.floods.length) (fun j=>[(2,.ref 8 (Aj n) 0),(3,.ref 8 (Aj n) 0),(11,Aa j)]) (fun _=>[]) (fun j=>n.floods.length-j) 0 [] qe U ?_
   intro j hj
   refine T ?_
   refine⟨fun h2=>?_,fun h2=>?_⟩
   ·have hlt:j<n.floods.length:=by have:=of_decide_eq_true h2;omega
    have hlt0:((j:Nat):Int).toNat<n.floods.length:=hlt
    clear h2
    have qaddrs:=Y5 (n.floods[((j:Nat):Int).toNat]'hlt0).addrs (hn.addrs _ (List.getElem_mem hlt0))
    refine T ?_
    refine C qaddrs F43 ?_
    refine T ?_
    exact Ae (j+1) [] hlt z_ U
   ·clear h2
    refine T ?_
    refine Au (fun j:Nat=>j≤n.vrfs.length) (fun j=>[(2,.ref 8 (Aj n) 0),(3,.ref 8 (Aj n) 0),(14,Aa j)]) (fun _=>[]) (fun j=>n.vrfs.length-j) 0 [] qe U ?_
    intro j hj
    refine T ?_
    refine⟨fun h2=>?_,fun h2=>?_⟩
    ·have hlt:j<n.vrfs.length:=by have:=of_decide_eq_true h2;omega
     have hlt0:((j:Nat):Int).toNat<n.vrfs.length:=hlt
     clear h2
     have qimports:=J3 (n.vrfs[((j:Nat):Int).toNat]'hlt0).imports (hn.imports _ (List.getElem_mem hlt0))
     have qexports:=J3 (n.vrfs[((j:Nat):Int).toNat]'hlt0).exports (hn.exports _ (List.getElem_mem hlt0))
     refine T ?_
     refine C qimports F42 ?_
     refine T ?_
     refine C qexports F42 ?_
     refine T ?_
     exact Ae (j+1) [] hlt z_ U
    ·clear h2
     refine T ?_
     exact D
theorem Aqp {l:List LineM} (h:linesGreat l=false):∀ x∈l,LineOK x→LineW x:=by
 intro x hx ho
 refine⟨Alq h x hx,ho,?_,?_,?_,?_,?_⟩
 all_goals
  rw[linesGreat]at h
  split at h
  ·cases h
  ·have:=Oo l 0 h x hx
   simp only[Qz,List.forall_mem_cons]at this
   omega
theorem Ah8 {n:Net} (hn:n.Fin):(finishT n).1.Fin:=by
 unfold finishT
 split
 ·exact Qc hn
 split
 ·exact Hf
 ·exact Qc hn
theorem V4:∀ (M:List LineM) (n:Net),n.Fin→Ha n→(∀ z∈M,LineW z)→(Hw n M).1.Fin
 | [],n,hn,_,_=>Ah8 hn
 | x::M,n,hn,ha,h=>by
  rw[Hw]
  split
  ·exact Hf
  ·have:=Aa9 (l:=x) hn ha (h x qe)
   exact V4 M _ this.fin this.addrs (fun z hz=>h z (by simp[hz]))
theorem Alz {M:List LineM} (h:∀ z∈M,LineW z):(Co M).1.Fin:=V4 M emptyN Hf (fun x hx=>by cases hx) h
end Go.Sy.YtjenpnjajjplkaaGreatDoor
