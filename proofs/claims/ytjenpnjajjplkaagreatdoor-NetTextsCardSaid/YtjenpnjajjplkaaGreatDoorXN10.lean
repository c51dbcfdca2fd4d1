/-
  I53 I54 KM K1 K2 I55 I34 I35 I56 I57 I58 I59 I7l I8l I36 I37 I39 I38 I40 I42 I44 I45 I60 I61 I24 I62 I25 RB13: parts of a proof, joined by program.
-/
import Derived.Test.YtjenpnjajjplkaaGreatDoorXN9
import Derived.Test.YtjenpnjajjplkaaGreatDoorXN7
import Derived.Test.YtjenpnjajjplkaaGreatDoorXN3
import Derived.Test.YtjenpnjajjplkaaGreatDoorXN4
import Derived.Test.YtjenpnjajjplkaaGreatDoorXN5
import Derived.Test.YtjenpnjajjplkaaGreatDoorXN6
import Derived.Test.YtjenpnjajjplkaaGreatDoorXN8
set_option linter.all false
set_option linter.unusedVariables false
set_option linter.unusedSimpArgs false
set_option linter.deprecated false
namespace Go.Sy.YtjenpnjajjplkaaGreatDoor
open Go.Proofs
attribute [local irreducible] Go.Sy.G Go.Sy.DR
set_option maxRecDepth 100000
set_option maxHeartbeats 4000000
theorem T4 {a b:ByteArray} (h:a=b):(!(a == b))=false:=by rw[(Ee a b).2 h];rfl
theorem T3 {a b:ByteArray} (h:a≠b):(!(a == b))=true:=by
 cases hb:(a == b)
 ·rfl
 ·exact absurd ((Ee a b).1 hb) h
theorem Zl (s:ByteArray):Sy.Spec Tryz.prog 377 [Ae s] [] (Aa (digitsD s)) []:=cT F377 Tryz.ntmps377 fun F hF=>by
 have hres:=digitsD.eq_1 s
 generalize digitsD s=res at *
 by_cases h0:s.size=0
 ·have f0:((s.size:Int) == 0)=true:=by rw[beq_iff_eq];omega
  rw[if_pos (.inl h0)]at hres
  subst hres
  refine T ?_
  exact D
 have f0:((s.size:Int) == 0)=false:=by rw[beq_eq_false_iff_ne];omega
 by_cases h3:3<s.size
 ·have f1:decide ((s.size:Int)>3)=true:=decide_eq_true z_
  rw[if_pos (.inr (.inl h3))]at hres
  subst hres
  refine T ?_
  exact D
 have f1:decide ((s.size:Int)>3)=false:=decide_eq_false z_
 refine T ?_
 refine Az s.size (fun j=>∀ i,i<j→Db (Af s i)=true) (fun j=>[(0,Ae s),(3,Aa (E8 s j)),(4,Aa j)]) (fun _=>[]) [] qe U ?_
 intro j hj hI
 have hv:0≤E8 s j∧E8 s j<1000:=by
  have h1:=So hI
  have h2:j=0∨j=1∨j=2∨j=3:=by omega
  rcases h2 with rfl | rfl | rfl | rfl<;>omega
 have hsu:E8 s (j+1)=10 * E8 s j+((Af s j).toNat-48):=rfl
 refine T ?_
 refine⟨fun h=>?_,fun h=>?_⟩
 ·have hlt:j<s.size:=qA h
  clear h
  have ej:Af s ((j:Nat):Int).toNat=Af s j:=rfl
  have hc:=(Af s j).toNat_lt
  by_cases k1:(Af s j).toNat<48
  ·have g1:decide (((Af s ((j:Nat):Int).toNat).toNat:Int)<48)=true:=decide_eq_true (by rw[ej];omega)
   rw[if_pos (.inr (.inr (Lc hlt (by rw[Db,decide_eq_false z_];rfl))))]at hres
   subst hres
   refine T ?_
   exact D
  have g1:decide (((Af s ((j:Nat):Int).toNat).toNat:Int)<48)=false:=decide_eq_false (by rw[ej];omega)
  by_cases k2:57<(Af s j).toNat
  ·have g2:decide (((Af s ((j:Nat):Int).toNat).toNat:Int)>57)=true:=decide_eq_true (by rw[ej];omega)
   rw[if_pos (.inr (.inr (Lc hlt (by rw[Db,decide_eq_false (by omega:¬ (Af s j).toNat≤57),Bool.and_false]))))]at hres
   subst hres
   refine T ?_
   exact D
  have g2:decide (((Af s ((j:Nat):Int).toNat).toNat:Int)>57)=false:=decide_eq_false (by rw[ej];omega)
  have w1:IntKind.i64.wrap ((Af s ((j:Nat):Int).toNat).toNat:Int)=((Af s j).toNat:Int):=wrap_u8 _
  generalize E8 s j=v at *
  refine T ?_
  exact A8 [] hI z_ (fun i hi=>by
   by_cases e:i=j
   ·subst e;rw[Db,decide_eq_true z_,decide_eq_true z_];rfl
   ·exact hI i z_) ⟨⟨Y,Y,congrArg Aa z_,Y,Y,Y,q_⟩,q_,Y,Y⟩
 ·have hje:j=s.size:=qB h
  subst hje
  clear h
  have hdg:=O6 hI
  obtain ⟨n,hn,hnl⟩:=Sn hdg
  rw[if_neg (by simp[h0,hdg];omega),hn]at hres
  rw[hn]at hv ⊢
  have q:=I0 n z_
  by_cases hx:Be (n:Int)=s
  ·have g:=T4 hx
   rw[if_pos hx]at hres
   subst hres
   refine T ?_
   refine C q F427 ?_
   exact D
  ·have g:=T3 hx
   rw[if_neg hx]at hres
   subst hres
   refine T ?_
   refine C q F427 ?_
   exact D
def AddrI (s:ByteArray) (x:Nat × List ByteArray × List UInt8):Prop :=
 x.1≤s.size+1∧x.2.1.length≤4∧(∀ p∈x.2.1,K9 p=true)∧x.2.2.length≤3 ∧
 (x.1≤s.size→Bc 46 s=x.2.1++Bw 46 x.2.2 (s.data.toList.drop x.1))∧(s.size<x.1→Bc 46 s=x.2.1)
theorem Aat (s:ByteArray) (hs:s.size≤1000000):Sy.Spec Tryz.prog 315 [Ae s] [] (.tup [A3 (Bn s).1,Ab (Bn s).2]) []:=cT F315 Tryz.ntmps315 fun F hF=>by
 have hno:((Bc 46 s).length≠4∨∃ x∈Bc 46 s,K9 x=false)→Bn s=(0,false):=Al4
 have hyes:(Bc 46 s).length=4→(∀ x∈Bc 46 s,K9 x=true)→Bn s=(H5 (Bc 46 s),true):=Ajn
 generalize Bn s=res at *
 refine T ?_
 refine At (AddrI s) (fun x=>[(0,Ae s),(4,Aa (H5 x.2.1)),(5,Aa x.2.1.length),(6,Ae (mkT x.2.2)),(7,Aa x.1)]) (fun _=>[]) (fun x=>2000000-x.1) (0,[],[]) [] ⟨by simp,by simp,by simp,by simp,fun _=>by rw[Iy];rfl,fun h=>by dsimp only at h;omega⟩ U ?_
 rintro ⟨i,P,cur⟩ ⟨h1,h2,h3,h4,h5,h6⟩
 dsimp only at h1 h2 h3 h4 h5 h6 ⊢
 have hA:=Jp P.length P rfl h3
 have hA4:(256:Int) ^ P.length≤4294967296:=by
  have h:P.length=0∨P.length=1∨P.length=2∨P.length=3∨P.length=4:=by omega
  rcases h with h | h | h | h | h<;>rw[h]<;>decide
 have hAd:0≤H5 P∧H5 P<4294967296:=⟨hA.1,by omega⟩
 clear hA hA4
 refine T ?_
 refine⟨fun h=>?_,fun h=>?_⟩
 ·have hle:i≤s.size:=qA h
  have hI:=h5 hle
  clear h h5 h6
  have hz1:(mkT cur).size=cur.length:=Bs cur
  have qd:=Zl (mkT cur)
  have hdr:=K5 (mkT cur)
  have hoc:=W8 (mkT cur)
  by_cases a1:i<s.size
  ·have f1:decide ((i:Int)<(s.size:Int))=true:=decide_eq_true z_
   have hlt:i<s.data.toList.length:=a1
   have hb:Af s i=s.data.toList[i]:=Ew hlt
   have ej:Af s ((i:Nat):Int).toNat=Af s i:=rfl
   rw[List.drop_eq_getElem_cons hlt,Bw,← hb]at hI
   by_cases k1:Af s i=46
   ·have g1:(((Af s ((i:Nat):Int).toNat).toNat:Int) != 46)=false:=by rw[ej,k1];rfl
    rw[if_pos k1]at hI
    by_cases k2:255<digitsD (mkT cur)
    ·have g2:decide (digitsD (mkT cur)>255)=true:=decide_eq_true k2
     have e:=hno (.inr ⟨mkT cur,by rw[hI];simp,by rw[hoc];exact decide_eq_false z_⟩)
     subst e
     refine T ?_
     refine C qd F377 ?_
     exact D
    have g2:decide (digitsD (mkT cur)>255)=false:=decide_eq_false k2
    have hoc1:=hoc.trans (decide_eq_true z_)
    by_cases k3:3<P.length
    ·have g3:decide ((P.length:Int)>3)=true:=decide_eq_true z_
     have e:=hno (.inl (by
      rw[hI,List.length_append,List.length_cons]
      obtain ⟨p,t,ht⟩:=Qy 46 (s.data.toList.drop (i+1)) []
      rw[ht,List.length_cons];omega))
     subst e
     refine T ?_
     refine C qd F377 ?_
     exact D
    have g3:decide ((P.length:Int)>3)=false:=decide_eq_false z_
    have hsn:=Ma P (mkT cur)
    have hln:(P++[mkT cur]).length=P.length+1:=by simp
    have hP3:H5 P<16777216:=by
     have h:=Jp P.length P rfl h3
     have h':P.length=0∨P.length=1∨P.length=2∨P.length=3:=by omega
     rcases h' with h' | h' | h' | h'<;>rw[h']at h<;>omega
    have hx:Bc 46 s=(P++[mkT cur])++Bw 46 [] (s.data.toList.drop (i+1)):=by rw[hI];simp
    clear hno hyes hI
    generalize H5 P=v at *
    generalize digitsD (mkT cur)=d at *
    refine T ?_
    refine C qd F377 ?_
    refine C qd F377 ?_
    refine Ad (i+1,P++[mkT cur],([]:List UInt8)) [] ⟨by dsimp only;omega,by dsimp only;omega,fun p hp=>?_,by simp,fun _=>hx,fun h=>by dsimp only at h;omega⟩ (by dsimp only;omega) ⟨⟨Y,Y,congrArg Aa hsn,Y,congrArg Aa (by rw[hln];rfl),Y,Y,Y,Y,Y,q_⟩,q_,Y,Y⟩
    rcases List.mem_append.1 hp with hp | hp
    ·exact h3 p hp
    ·rw[List.mem_singleton.1 hp];exact hoc1
   ·have g1:(((Af s ((i:Nat):Int).toNat).toNat:Int) != 46)=true:=by
     rw[ej,bne_iff_ne]
     intro e
     exact k1 (UInt8.toNat_inj.1 (by show _=46;omega))
    rw[if_neg k1]at hI
    have hx:mkT (cur++[Af s i])=mkT cur++s.extract ((i:Nat):Int).toNat (((i:Nat):Int)+1).toNat:=by
     apply Ho
     rw[Oo,Bo,Bo,← Ci s,Cj,Bo]
     have e1:(((i:Nat):Int)+1).toNat=i+1:=by omega
     simp only[e1,Int.toNat_natCast,Ci]
     rw[List.take_succ_eq_append_getElem hlt,List.drop_append_of_le_length (by rw[List.length_take];omega),List.drop_eq_nil_of_le (by rw[List.length_take];omega),← hb]
     rfl
    have hz2:(s.extract ((i:Nat):Int).toNat (((i:Nat):Int)+1).toNat).size=1:=by rw[ByteArray.size_extract];omega
    have hz3:(mkT cur++s.extract ((i:Nat):Int).toNat (((i:Nat):Int)+1).toNat).size=cur.length+1:=by rw[← hx,Bs];simp
    have g4:(mkT cur).size+(s.extract ((i:Nat):Int).toNat (((i:Nat):Int)+1).toNat).size≤9223372036854775807:=by omega
    clear qd hdr hoc
    by_cases k2:3<cur.length+1
    ·have g2:decide (((mkT cur++s.extract ((i:Nat):Int).toNat (((i:Nat):Int)+1).toNat).size:Int)>3)=true:=decide_eq_true z_
     obtain ⟨p,t,ht⟩:=Qy 46 (s.data.toList.drop (i+1)) (cur++[Af s i])
     have e:=hno (.inr ⟨mkT ((cur++[Af s i])++p),by rw[hI,ht];simp,Ane (by simp;omega)⟩)
     subst e
     refine T ?_
     refine⟨⟨by omega,by omega,by omega⟩,?_⟩
     refine T ?_
     exact D
    have g2:decide (((mkT cur++s.extract ((i:Nat):Int).toNat (((i:Nat):Int)+1).toNat).size:Int)>3)=false:=decide_eq_false z_
    clear hno hyes
    refine T ?_
    refine⟨⟨by omega,by omega,by omega⟩,?_⟩
    refine T ?_
    exact Ad (i+1,P,cur++[Af s i]) [] ⟨by dsimp only;omega,h2,h3,by simp;omega,fun _=>hI,fun h=>by dsimp only at h;omega⟩ (by dsimp only;omega) ⟨⟨Y,Y,Y,Y,Y,Y,congrArg Ae hx,Y,Y,Y,q_⟩,q_,Y,Y⟩
  ·have f1:decide ((i:Int)<(s.size:Int))=false:=decide_eq_false z_
   have hie:i=s.size:=by omega
   have hdp:s.data.toList.drop i=[]:=List.drop_eq_nil_of_le (by show s.size≤i;omega)
   rw[hdp,Bw]at hI
   by_cases k2:255<digitsD (mkT cur)
   ·have g2:decide (digitsD (mkT cur)>255)=true:=decide_eq_true k2
    have e:=hno (.inr ⟨mkT cur,by rw[hI];simp,by rw[hoc];exact decide_eq_false z_⟩)
    subst e
    refine T ?_
    refine C qd F377 ?_
    exact D
   have g2:decide (digitsD (mkT cur)>255)=false:=decide_eq_false k2
   have hoc1:=hoc.trans (decide_eq_true z_)
   by_cases k3:3<P.length
   ·have g3:decide ((P.length:Int)>3)=true:=decide_eq_true z_
    have e:=hno (.inl (by rw[hI,List.length_append,List.length_singleton];omega))
    subst e
    refine T ?_
    refine C qd F377 ?_
    exact D
   have g3:decide ((P.length:Int)>3)=false:=decide_eq_false z_
   have hsn:=Ma P (mkT cur)
   have hln:(P++[mkT cur]).length=P.length+1:=by simp
   have hP3:H5 P<16777216:=by
    have h:=Jp P.length P rfl h3
    have h':P.length=0∨P.length=1∨P.length=2∨P.length=3:=by omega
    rcases h' with h' | h' | h' | h'<;>rw[h']at h<;>omega
   clear hno hyes
   generalize H5 P=v at *
   generalize digitsD (mkT cur)=d at *
   refine T ?_
   refine C qd F377 ?_
   refine C qd F377 ?_
   refine Ad (i+1,P++[mkT cur],([]:List UInt8)) [] ⟨by dsimp only;omega,by dsimp only;omega,fun p hp=>?_,by simp,fun h=>by dsimp only at h;omega,fun _=>hI⟩ (by dsimp only;omega) ⟨⟨Y,Y,congrArg Aa hsn,Y,congrArg Aa (by rw[hln];rfl),Y,Y,Y,Y,Y,q_⟩,q_,Y,Y⟩
   rcases List.mem_append.1 hp with hp | hp
   ·exact h3 p hp
   ·rw[List.mem_singleton.1 hp];exact hoc1
 ·have hgt:s.size<i:=qB h
  have hI:=h6 hgt
  clear h h5 h6
  rw[hI]at hno hyes
  by_cases k:P.length=4
  ·have g:((P.length:Int) != 4)=false:=by rw[bne_eq_false_iff_eq];omega
   have e:=hyes k h3
   have w:IntKind.u32.wrap (H5 P)=H5 P:=by rw[IntKind.wrap_u32];omega
   rw[← w]at e
   subst e
   refine T ?_
   exact D
  ·have g:((P.length:Int) != 4)=true:=by rw[bne_iff_ne];omega
   have e:=hno (.inl k)
   subst e
   refine T ?_
   exact D
theorem Akj {s:ByteArray} (h:s.size≠0):(((Af s (0:Int).toNat).toNat:Int) == 45)=Q5 s:=by
 unfold Q5
 have hl:s.data.toList.length=s.size:=rfl
 match hs:s.data.toList with
 | []=>rw[hs]at hl;exact absurd hl.symm h
 | c::r =>
  have e:Af s (0:Int).toNat=c:=by show Af s 0=c;simp[Af,hs]
  rw[e,List.head?_cons]
  by_cases hc:c=45
  ·subst hc;rfl
  ·have h1:(((c.toNat:Int)) == 45)=false:=by
    rw[beq_eq_false_iff_ne]
    intro e
    exact hc (UInt8.toNat_inj.1 (by show _=45;omega))
   rw[h1]
   symm
   rw[beq_eq_false_iff_ne]
   intro e
   exact hc (Option.some.inj e)
theorem O1 (s:ByteArray) (lo hi:Int) (h0:0≤lo) (hs:s.size≤1000000):Sy.Spec Tryz.prog 311 [Ae s,Aa lo,Aa hi] [] (.tup [Aa (numR s lo hi).1,Ab (numR s lo hi).2]) []:=cT F311 Tryz.ntmps311 fun F hF=>by
 have hres:=numR.eq_1 s lo hi
 generalize numR s lo hi=res at *
 have hnv:=numV.eq_1 s
 have hng:=@neg_digs s
 have hps:=@pos_digs s
 generalize numV s=nv at *
 generalize hD:H2 s=dg at *
 by_cases e0:s.size=0
 ·have f0:decide ((s.size:Int)>0)=false:=decide_eq_false z_
  have hn0:Q5 s=false:=by
   unfold Q5
   rw[List.length_eq_zero_iff.1 (show s.data.toList.length=0 from e0)]
   rfl
  have hl:=(hps hn0).1
  rw[if_pos (.inl z_)]at hres
  subst hres
  have f1:decide ((s.size:Int)-0<1)=true:=decide_eq_true z_
  refine T ?_
  exact D
 have f0:decide ((s.size:Int)>0)=true:=decide_eq_true z_
 have hg:=Akj e0
 cases hn:Q5 s
 ·rw[hn]at hg hnv
  obtain ⟨hL,hB⟩:=hps hn
  by_cases h1:dg.length<1∨10<dg.length
  ·rw[if_pos h1]at hres
   subst hres
   by_cases h2:dg.length<1
   ·exact absurd h2 z_
   ·have f1:decide ((s.size:Int)-0<1)=false:=decide_eq_false z_
    have f2:decide ((s.size:Int)-0>10)=true:=decide_eq_true z_
    refine T ?_
    exact D
  rw[if_neg h1]at hres
  have f1:decide ((s.size:Int)-0<1)=false:=decide_eq_false z_
  have f2:decide ((s.size:Int)-0>10)=false:=decide_eq_false z_
  refine T ?_
  refine Az dg.length (fun j=>C3 (fun _ c=>Db c) dg j) (fun j=>[(0,Ae s),(1,Aa lo),(2,Aa hi),(8,Aa 0),(9,Aa (Hp (dg.take j))),(10,Aa ((j:Nat)))]) (fun _=>[]) [] (Au _ _) U ?_
  intro j hj hI
  have hv:=Ab0 (l:=dg.take j) (by rw[List.length_take];omega) (Wh hI)
  refine T ?_
  refine⟨fun h=>?_,fun h=>?_⟩
  ·have hlt:j<dg.length:=qA h
   clear h
   have hbx:=hB j hlt
   have hno:=fun h=>@all_at' _ Db dg j hlt h
   have hnx:=fun h=>Ao (p:=fun _ c=>Db c) hI hlt h
   have hsucc:Hp (dg.take (j+1))=10 * Hp (dg.take j)+((dg[j].toNat:Int)-48):=by rw[List.take_succ_eq_append_getElem hlt,I3]
   have ej:Af s (((j:Nat):Int)).toNat=dg[j]:=by
    have e1:Af s (((j:Nat):Int)).toNat=Af s j:=by rfl
    rw[e1,hbx]
    simp[hlt]
   rw[← ej]at hno hnx hsucc
   have w1:IntKind.i64.wrap ((Af s (((j:Nat):Int)).toNat).toNat:Int)=((Af s (((j:Nat):Int)).toNat).toNat:Int):=wrap_u8 _
   have hc2:=(Af s (((j:Nat):Int)).toNat).toNat_lt
   generalize Hp (dg.take j)=v at *
   have hx:Db (Af s (((j:Nat):Int)).toNat)=(decide (48≤(Af s (((j:Nat):Int)).toNat).toNat) && decide ((Af s (((j:Nat):Int)).toNat).toNat≤57)):=rfl
   by_cases k1:(Af s (((j:Nat):Int)).toNat).toNat<48
   ·have g1:decide (((Af s (((j:Nat):Int)).toNat).toNat:Int)<48)=true:=decide_eq_true z_
    rw[if_pos (hno (by rw[hx,decide_eq_false z_];rfl))]at hres
    subst hres
    refine T ?_
    exact D
   have g1:decide (((Af s (((j:Nat):Int)).toNat).toNat:Int)<48)=false:=decide_eq_false z_
   by_cases k2:57<(Af s (((j:Nat):Int)).toNat).toNat
   ·have g2:decide (((Af s (((j:Nat):Int)).toNat).toNat:Int)>57)=true:=decide_eq_true z_
    rw[if_pos (hno (by rw[hx,decide_eq_false (by omega:¬ (Af s (((j:Nat):Int)).toNat).toNat≤57),Bool.and_false]))]at hres
    subst hres
    refine T ?_
    exact D
   have g2:decide (((Af s (((j:Nat):Int)).toNat).toNat:Int)>57)=false:=decide_eq_false z_
   have hdgt:Db (Af s (((j:Nat):Int)).toNat)=true:=by rw[hx,decide_eq_true z_,decide_eq_true z_];rfl
   refine T ?_
   exact A8 [] hI z_ (hnx hdgt) ⟨⟨Y,Y,Y,Y,Y,Y,Y,Y,congrArg Aa z_,Y,Y,Y,q_⟩,q_,Y,Y⟩
  ·have hje:j=dg.length:=qB h
   subst hje
   clear h
   rw[if_neg (by rw[Hd hI (Nat.le_refl _)];simp)]at hres
   rw[List.take_length]at hv ⊢
   rw[if_neg qe]at hnv
   subst hnv
   obtain ⟨m,hm⟩:∃ m:Nat,Hp dg=m:=⟨(Hp dg).toNat,by omega⟩
   have q:=Kt m z_
   rw[← hm]at q
   generalize Hp dg=v at *
   by_cases k1:v<lo
   ·have g1:decide (v<lo)=true:=decide_eq_true k1
    rw[if_pos (.inl k1)]at hres
    subst hres
    refine T ?_
    exact D
   have g1:decide (v<lo)=false:=decide_eq_false k1
   by_cases k2:hi<v
   ·have g2:decide (v>hi)=true:=decide_eq_true k2
    rw[if_pos (.inr k2)]at hres
    subst hres
    refine T ?_
    exact D
   have g2:decide (v>hi)=false:=decide_eq_false k2
   rw[if_neg z_]at hres
   by_cases k3:Be v=s
   ·have g3:=T4 k3
    rw[if_pos ((Ee _ _).2 k3)]at hres
    subst hres
    refine T ?_
    refine C q F372 ?_
    exact D
   ·have g3:=T3 k3
    rw[if_neg (fun h=>k3 ((Ee _ _).1 h))]at hres
    subst hres
    refine T ?_
    refine C q F372 ?_
    exact D
 ·rw[hn]at hg hnv
  obtain ⟨hL,hB⟩:=hng hn
  by_cases h1:dg.length<1∨10<dg.length
  ·rw[if_pos h1]at hres
   subst hres
   by_cases h2:dg.length<1
   ·have f1:decide ((s.size:Int)-1<1)=true:=decide_eq_true z_
    refine T ?_
    exact D
   ·have f1:decide ((s.size:Int)-1<1)=false:=decide_eq_false z_
    have f2:decide ((s.size:Int)-1>10)=true:=decide_eq_true z_
    refine T ?_
    exact D
  rw[if_neg h1]at hres
  have f1:decide ((s.size:Int)-1<1)=false:=decide_eq_false z_
  have f2:decide ((s.size:Int)-1>10)=false:=decide_eq_false z_
  refine T ?_
  refine Az dg.length (fun j=>C3 (fun _ c=>Db c) dg j) (fun j=>[(0,Ae s),(1,Aa lo),(2,Aa hi),(8,Aa 1),(9,Aa (Hp (dg.take j))),(10,Aa ((j+1:Nat)))]) (fun _=>[]) [] (Au _ _) U ?_
  intro j hj hI
  have hv:=Ab0 (l:=dg.take j) (by rw[List.length_take];omega) (Wh hI)
  refine T ?_
  refine⟨fun h=>?_,fun h=>?_⟩
  ·have hlt:j<dg.length:=qA h
   clear h
   have hbx:=hB j hlt
   have hno:=fun h=>@all_at' _ Db dg j hlt h
   have hnx:=fun h=>Ao (p:=fun _ c=>Db c) hI hlt h
   have hsucc:Hp (dg.take (j+1))=10 * Hp (dg.take j)+((dg[j].toNat:Int)-48):=by rw[List.take_succ_eq_append_getElem hlt,I3]
   have ej:Af s (((j+1:Nat):Int)).toNat=dg[j]:=by
    have e1:Af s (((j+1:Nat):Int)).toNat=Af s (1+j):=by rw[Nat.add_comm 1 j];rfl
    rw[e1,hbx]
    simp[hlt]
   rw[← ej]at hno hnx hsucc
   have w1:IntKind.i64.wrap ((Af s (((j+1:Nat):Int)).toNat).toNat:Int)=((Af s (((j+1:Nat):Int)).toNat).toNat:Int):=wrap_u8 _
   have hc2:=(Af s (((j+1:Nat):Int)).toNat).toNat_lt
   generalize Hp (dg.take j)=v at *
   have hx:Db (Af s (((j+1:Nat):Int)).toNat)=(decide (48≤(Af s (((j+1:Nat):Int)).toNat).toNat) && decide ((Af s (((j+1:Nat):Int)).toNat).toNat≤57)):=rfl
   by_cases k1:(Af s (((j+1:Nat):Int)).toNat).toNat<48
   ·have g1:decide (((Af s (((j+1:Nat):Int)).toNat).toNat:Int)<48)=true:=decide_eq_true z_
    rw[if_pos (hno (by rw[hx,decide_eq_false z_];rfl))]at hres
    subst hres
    refine T ?_
    exact D
   have g1:decide (((Af s (((j+1:Nat):Int)).toNat).toNat:Int)<48)=false:=decide_eq_false z_
   by_cases k2:57<(Af s (((j+1:Nat):Int)).toNat).toNat
   ·have g2:decide (((Af s (((j+1:Nat):Int)).toNat).toNat:Int)>57)=true:=decide_eq_true z_
    rw[if_pos (hno (by rw[hx,decide_eq_false (by omega:¬ (Af s (((j+1:Nat):Int)).toNat).toNat≤57),Bool.and_false]))]at hres
    subst hres
    refine T ?_
    exact D
   have g2:decide (((Af s (((j+1:Nat):Int)).toNat).toNat:Int)>57)=false:=decide_eq_false z_
   have hdgt:Db (Af s (((j+1:Nat):Int)).toNat)=true:=by rw[hx,decide_eq_true z_,decide_eq_true z_];rfl
   refine T ?_
   exact A8 [] hI z_ (hnx hdgt) ⟨⟨Y,Y,Y,Y,Y,Y,Y,Y,congrArg Aa z_,Y,Y,Y,q_⟩,q_,Y,Y⟩
  ·have hje:j=dg.length:=qB h
   subst hje
   clear h
   rw[if_neg (by rw[Hd hI (Nat.le_refl _)];simp)]at hres
   rw[List.take_length]at hv ⊢
   rw[if_pos rfl]at hnv
   subst hnv
   have q:Sy.Spec Tryz.prog 372 [Aa 0] [] (Ae (Be 0)) []:=Kt 0 y_
   have hd0:(Be 0 == s)=false:=by
    cases hb:(Be 0 == s)
    ·rfl
    ·exfalso
     have e:=(Ee _ _).1 hb
     rw[← e]at hn
     exact absurd hn (by decide +kernel)
   generalize Hp dg=v at *
   by_cases k1:0-v<lo
   ·have g1:decide (0-v<lo)=true:=decide_eq_true k1
    rw[if_pos (.inl k1)]at hres
    subst hres
    refine T ?_
    exact D
   have g1:decide (0-v<lo)=false:=decide_eq_false k1
   by_cases k2:hi<0-v
   ·have g2:decide (0-v>hi)=true:=decide_eq_true k2
    rw[if_pos (.inr k2)]at hres
    subst hres
    refine T ?_
    exact D
   have g2:decide (0-v>hi)=false:=decide_eq_false k2
   rw[if_neg z_]at hres
   obtain rfl:v=0:=by omega
   rw[show (0-0:Int)=0 from rfl,hd0,if_neg qe]at hres
   subst hres
   have g3:(!(Be 0 == s))=true:=by rw[hd0];rfl
   refine T ?_
   refine C q F372 ?_
   exact D
theorem Ac1 (s:ByteArray) (hs:s.size≤1000000):Sy.Spec Tryz.prog 378 [Ae s] [] (.sl 1 Ae (Bc 44 s)) []:=cT F378 Tryz.ntmps378 fun F hF=>by
 rw[Iy]
 refine T ?_
 refine Hj 5 Ae [⟨#[]⟩] Y Y ?_
 refine T ?_
 refine At (fun x:Nat × List ByteArray × List UInt8=>x.1≤s.size∧x.2.1.length≤x.1∧x.2.2.length≤x.1∧Bw 44 [] s.data.toList=x.2.1++Bw 44 x.2.2 (s.data.toList.drop x.1)) (fun x=>[(0,Ae s),(3,.osl 1000),(4,Aa x.1)]) (fun x=>[(1000,.row 1 Ae (x.2.1++[mkT x.2.2]))]) (fun x=>s.size-x.1) (0,[],[]) [(1000,5)] ⟨by simp,by simp,by simp,by simp⟩ U ?_
 rintro ⟨i,P,cur⟩ ⟨h1,h2,h3,hI⟩
 dsimp only at h1 h2 h3 hI ⊢
 refine T ?_
 refine⟨fun h=>?_,fun h=>?_⟩
 ·have hlt0:i<s.size:=qA h
  have hlt:i<s.data.toList.length:=hlt0
  clear h
  have hb:Af s i=s.data.toList[i]:=Ew hlt
  have ej:Af s ((i:Nat):Int).toNat=Af s i:=rfl
  have hln:(P++[mkT cur]).length=P.length+1:=by simp
  rw[List.drop_eq_getElem_cons hlt,Bw,← hb]at hI
  by_cases k1:Af s i=44
  ·have g1:(((Af s ((i:Nat):Int).toNat).toNat:Int) == 44)=true:=by rw[ej,k1];rfl
   rw[if_pos k1]at hI
   refine T ?_
   refine X (Ak Γ.toTy 18 Y Y Y Y Y (.row Y) (.lit (e:=Ae) (l:=[⟨#[]⟩]) Y Y) qe (by simp only[List.length_singleton];omega) (by simp only[List.length_singleton];omega)) ?_
   exact Ad (i+1,P++[mkT cur],([]:List UInt8)) [(1000,18)] ⟨hlt0,by dsimp only;omega,by simp,by rw[hI];simp⟩ (by dsimp only;omega) U
  ·have g1:(((Af s ((i:Nat):Int).toNat).toNat:Int) == 44)=false:=by
    rw[ej,beq_eq_false_iff_ne]
    intro e
    exact k1 (UInt8.toNat_inj.1 (by show _=44;omega))
   rw[if_neg k1]at hI
   have hx:mkT (cur++[Af s i])=mkT cur++s.extract ((i:Nat):Int).toNat (((i:Nat):Int)+1).toNat:=by
    apply Ho
    rw[Oo,Bo,Bo,← Ci s,Cj,Bo]
    have e1:(((i:Nat):Int)+1).toNat=i+1:=by omega
    simp only[e1,Int.toNat_natCast,Ci]
    rw[List.take_succ_eq_append_getElem hlt,List.drop_append_of_le_length (by rw[List.length_take];omega),List.drop_eq_nil_of_le (by rw[List.length_take];omega),← hb]
    rfl
   have hz1:(mkT cur).size=cur.length:=Bs cur
   have hz2:(s.extract ((i:Nat):Int).toNat (((i:Nat):Int)+1).toNat).size≤1:=by rw[ByteArray.size_extract];omega
   have hlst:∀ (h:(((P++[mkT cur]).length:Int)-1).toNat<(P++[mkT cur]).length),(P++[mkT cur])[(((P++[mkT cur]).length:Int)-1).toNat]'h=mkT cur:=fun h=>by
    have e:(((P++[mkT cur]).length:Int)-1).toNat=P.length:=by omega
    simp only[e]
    simp
   have hset:∀ y,(P++[mkT cur]).set (((P++[mkT cur]).length:Int)-1).toNat y=P++[y]:=fun y=>by
    have e:(((P++[mkT cur]).length:Int)-1).toNat=P.length:=by omega
    rw[e,List.set_append_right _ _ (Nat.le_refl _),Nat.sub_self]
    rfl
   generalize hR:P++[mkT cur]=R at *
   have b1:(((R.length:Int))-1).toNat<R.length:=by omega
   have hl0:=hlst b1
   have g4:(R[(((R.length:Int))-1).toNat]'b1).size+(s.extract ((i:Nat):Int).toNat (((i:Nat):Int)+1).toNat).size≤9223372036854775807:=by rw[hl0];omega
   refine T ?_
   refine⟨⟨by omega,by omega,by omega⟩,?_⟩
   refine T ?_
   refine⟨(R[(((R.length:Int))-1).toNat]'b1)++s.extract ((i:Nat):Int).toNat (((i:Nat):Int)+1).toNat,Y,Y,?_⟩
   refine T ?_
   refine Ad (i+1,P,cur++[Af s i]) [] ⟨hlt0,by dsimp only;omega,by simp;omega,hI⟩ (by dsimp only;omega) ⟨⟨Y,Y,Y,Y,Y,Y,q_⟩,⟨.inl (congrArg (Ob.row 1 Ae) ?_),Y,q_⟩,Y,Y⟩
   dsimp only
   rw[hset,hl0,hx]
 ·have hie:i=s.size:=qB h
  subst hie
  clear h
  have hdp:s.data.toList.drop s.size=[]:=List.drop_eq_nil_of_le (Nat.le_refl _)
  rw[hdp,Bw]at hI
  rw[hI]
  refine Ac 1000 Y ?_
  refine T ?_
  exact D
theorem Mm (d:UInt8):∀ (l cur:List UInt8),∀ w∈Bw d cur l,w.size≤cur.length+l.length
 | [],cur,w,hw=>by
  rw[Bw,List.mem_singleton]at hw
  subst hw;rw[Bs];omega
 | c::r,cur,w,hw=>by
  rw[Bw]at hw
  rw[List.length_cons]
  split at hw
  ·rcases List.mem_cons.1 hw with h | h
   ·subst h;rw[Bs];omega
   ·have:=Mm d r [] w h;rw[List.length_nil]at this;omega
  ·have:=Mm d r (cur++[c]) w hw
   rw[List.length_append,List.length_singleton]at this
   omega
theorem T6 (d:UInt8):∀ (l cur:List UInt8),(Bw d cur l).length≤l.length+1
 | [],cur=>by rw[Bw];simp
 | c::r,cur=>by
  rw[Bw]
  split
  ·have:=T6 d r [];simp only[List.length_cons];omega
  ·have:=T6 d r (cur++[c]);rw[List.length_cons];omega
theorem Sr (d:UInt8) (s:ByteArray):(∀ w∈Bc d s,w.size≤s.size)∧(Bc d s).length≤s.size+1:=by
 rw[Iy]
 have e:s.data.toList.length=s.size:=rfl
 exact⟨fun w hw=>by have:=Mm d _ _ w hw;rw[List.length_nil,e]at this;omega,by have:=T6 d s.data.toList [];omega⟩
theorem Ac2 (s:ByteArray) (hi:Int) (hs:s.size≤1000000):Sy.Spec Tryz.prog 376 [Ae s,Aa 1,Aa hi] [] (.tup [.sl 1 Aa (Do (fun p=>numR p 1 hi) s).1,Ab (Do (fun p=>numR p 1 hi) s).2]) []:=cT F376 Tryz.ntmps376 fun F hF=>by
 have qs:=Ac1 s hs
 have hsp:=Sr 44 s
 have hres:=Akv hi s
 generalize Do (fun p=>numR p 1 hi) s=res at *
 generalize Bc 44 s=P at *
 refine T ?_
 refine C qs F378 ?_
 refine Cm 9 1000 1 Aa Y Y ?_
 refine T ?_
 refine At (fun j:Nat=>j≤P.length∧C3 (fun _ p=>(numR p 1 hi).2) P j) (fun j=>[(1,Aa 1),(2,Aa hi),(8,.sl 1 Ae P),(9,.osl 1000),(10,Aa j)]) (fun j=>[(1000,.row 1 Aa ((P.take j).map fun p=>(numR p 1 hi).1))]) (fun j=>P.length-j) 0 [] ⟨by simp,Au _ _⟩ U ?_
 rintro j ⟨hj,hU⟩
 refine T ?_
 refine⟨fun h=>?_,fun h=>?_⟩
 ·have hlt:j<P.length:=qA h
  have hlt0:((j:Nat):Int).toNat<P.length:=hlt
  clear h
  have q:=O1 (P[((j:Nat):Int).toNat]'hlt0) 1 hi y_ (by have:=hsp.1 _ (List.getElem_mem hlt0);omega)
  have hno:=fun h=>@all_at' _ (fun p=>(numR p 1 hi).2) P j hlt h
  have hnx:=fun h=>Ao (p:=fun _ p=>(numR p 1 hi).2) hU hlt h
  have hmp:((P.take (j+1)).map fun p=>(numR p 1 hi).1)=((P.take j).map fun p=>(numR p 1 hi).1)++[(numR (P[((j:Nat):Int).toNat]'hlt0) 1 hi).1]:=by
   rw[List.take_succ_eq_append_getElem hlt,List.map_append];rfl
  have hml:((P.take j).map fun p=>(numR p 1 hi).1).length=j:=by rw[List.length_map,List.length_take];omega
  cases hb:(numR (P[((j:Nat):Int).toNat]'hlt0) 1 hi).2 with
  | false =>
   have hno:=hno hb
   rw[if_neg (fun hh=>by rw[List.all_eq_true.2 hh.1]at hno;cases hno)]at hres
   subst hres
   rw[hb]at q
   refine T ?_
   refine C q F311 ?_
   refine Cf 6 1 Aa Y ?_
   refine T ?_
   exact D
  | true =>
   rw[hb]at q
   have hnx:=hnx hb
   generalize (P.take j).map (fun p=>(numR p 1 hi).1)=R at *
   generalize (numR (P[((j:Nat):Int).toNat]'hlt0) 1 hi).1=v at *
   refine T ?_
   refine C q F311 ?_
   refine X (Ak Γ.toTy 36 Y Y Y Y Y (.row Y) (.lit (e:=Aa) (l:=[v]) Y Y) qe (by simp only[List.length_singleton];omega) (by simp only[List.length_singleton];omega)) ?_
   exact Ad (j+1) [(1000,36)] ⟨hlt,hnx⟩ z_ ⟨⟨Y,Y,Y,Y,Y,Y,Y,Y,Y,Y,q_⟩,⟨.inl (congrArg (Ob.row 1 Aa) hmp),Y,q_⟩,Y,Y⟩
 ·have hje:j=P.length:=qB h
  subst hje
  clear h
  have hall:=List.all_eq_true.1 (Hd hU (Nat.le_refl _))
  rw[List.take_length]
  have q:=Ww (P.map fun p=>(numR p 1 hi).1) 1 hi (by unfold As;rw[List.length_map];omega)
  refine Ac 1000 Y ?_
  cases hb:Dc (P.map fun p=>(numR p 1 hi).1) 1 hi with
  | false =>
   rw[hb,if_neg (fun hh=>by cases hh.2)]at hres
   rw[hb]at q
   subst hres
   refine T ?_
   refine C q F361 ?_
   refine Cf 6 1 Aa Y ?_
   refine T ?_
   exact D
  | true =>
   rw[hb,if_pos ⟨hall,rfl⟩]at hres
   rw[hb]at q
   subst hres
   refine T ?_
   refine C q F361 ?_
   exact D
theorem Aar (s:ByteArray) (hs:s.size≤1000000):Sy.Spec Tryz.prog 316 [Ae s] [] (.tup [.sl 1 A3 (Bk s).1,Ab (Bk s).2]) []:=cT F316 Tryz.ntmps316 fun F hF=>by
 have qs:=Ac1 s hs
 have hsp:=Sr 44 s
 have hres:Bk s=B3 Bn [] (Bc 44 s):=rfl
 generalize Bk s=res at *
 generalize Bc 44 s=P at *
 refine T ?_
 refine C qs F378 ?_
 refine Cm 5 1000 1 A3 Y Y ?_
 refine T ?_
 refine At (fun x:Nat × List Int=>x.1≤P.length∧x.2.length=x.1∧x.1≤16∧res=B3 Bn x.2 (P.drop x.1)) (fun x=>[(4,.sl 1 Ae P),(5,.osl 1000),(6,Aa x.1)]) (fun x=>[(1000,.row 1 A3 x.2)]) (fun x=>P.length-x.1) (0,[]) [] ⟨by simp,by simp,by simp,by simpa using hres⟩ U ?_
 clear hres
 rintro ⟨j,R⟩ ⟨hj,hR,h16,hres⟩
 dsimp only at hj hR h16 hres ⊢
 refine T ?_
 refine⟨fun h=>?_,fun h=>?_⟩
 ·have hlt:j<P.length:=qA h
  have hlt0:((j:Nat):Int).toNat<P.length:=hlt
  clear h
  have q:=Aat (P[((j:Nat):Int).toNat]'hlt0) (by have:=hsp.1 _ (List.getElem_mem hlt0);omega)
  have hPj:P[j]=P[((j:Nat):Int).toNat]'hlt0:=rfl
  rw[List.drop_eq_getElem_cons hlt,B3,hPj]at hres
  generalize Bn (P[((j:Nat):Int).toNat]'hlt0)=rt at *
  obtain ⟨v,b⟩:=rt
  dsimp only at hres q
  cases b with
  | false =>
   rw[if_pos (.inl rfl)]at hres
   subst hres
   refine T ?_
   refine C q F315 ?_
   refine Cf 2 1 A3 Y ?_
   refine T ?_
   exact D
  | true =>
   by_cases k1:j=16
   ·have g1:decide ((j:Int)≥16)=true:=decide_eq_true z_
    rw[if_pos (.inr (.inl z_))]at hres
    subst hres
    refine T ?_
    refine C q F315 ?_
    refine Cf 2 1 A3 Y ?_
    refine T ?_
    exact D
   have g1:decide ((j:Int)≥16)=false:=decide_eq_false z_
   by_cases k2:j=0
   ·have g2:decide ((j:Int)>0)=false:=decide_eq_false z_
    obtain rfl:R=[]:=List.length_eq_zero_iff.1 z_
    rw[if_neg qe]at hres
    refine T ?_
    refine C q F315 ?_
    refine X (Ak Γ.toTy 47 Y Y Y Y Y (.row Y) (.lit (e:=A3) (l:=[v]) Y Y) qe (by simp only[List.length_singleton];omega) (by simp only[List.length_singleton];simp)) ?_
    exact Ad (j+1,[]++[v]) [(1000,47)] ⟨hlt,by simp;omega,by dsimp only;omega,hres⟩ (by dsimp only;omega) U
   have g2:decide ((j:Int)>0)=true:=decide_eq_true z_
   have b1:((j:Int)-1).toNat<R.length:=by omega
   have hlast:R.getLast? = some (R[((j:Int)-1).toNat]'b1):=by
    rw[List.getLast?_eq_getElem?,List.getElem?_eq_getElem z_]
    have e:R.length-1=((j:Int)-1).toNat:=by omega
    simp only[e]
   by_cases k3:v≤R[((j:Int)-1).toNat]'b1
   ·have g3:decide (R[((j:Int)-1).toNat]'b1≥v)=true:=decide_eq_true k3
    rw[if_pos (.inr (.inr ⟨_,hlast,k3⟩))]at hres
    subst hres
    refine T ?_
    refine C q F315 ?_
    refine Cf 2 1 A3 Y ?_
    refine T ?_
    exact D
   have g3:decide (R[((j:Int)-1).toNat]'b1≥v)=false:=decide_eq_false k3
   rw[if_neg (by
    rintro (hh | hh | ⟨x,hx,hxv⟩)
    ·cases hh
    ·omega
    ·rw[hlast]at hx
     rw[← Option.some.inj hx]at hxv
     exact k3 hxv)]at hres
   refine T ?_
   refine C q F315 ?_
   refine X (Ak Γ.toTy 47 Y Y Y Y Y (.row Y) (.lit (e:=A3) (l:=[v]) Y Y) qe (by simp only[List.length_singleton];omega) (by simp only[List.length_singleton];omega)) ?_
   exact Ad (j+1,R++[v]) [(1000,47)] ⟨hlt,by simp;omega,by dsimp only;omega,hres⟩ (by dsimp only;omega) U
 ·have hje:j=P.length:=qB h
  subst hje
  clear h
  rw[List.drop_length,B3]at hres
  subst hres
  refine Ac 1000 Y ?_
  refine T ?_
  exact D
theorem Ao5 (s:ByteArray) (hs:s.size≤1000000):Sy.Spec Tryz.prog 309 [Ae s] [] (Ab (nameB s)) []:=cT F309 Tryz.ntmps309 fun F hF=>by
 have hw:=nameB.eq_1 s
 obtain ⟨r,hr⟩:∃ r,nameB s=r:=⟨_,rfl⟩
 rw[hr]at hw ⊢
 have hL:s.data.toList.length=s.size:=rfl
 by_cases h0:s.size<1
 ·have f0:decide ((s.size:Int)<1)=true:=decide_eq_true z_
  have e:r=false:=by rw[hw,List.length_eq_zero_iff.1 (show s.data.toList.length=0 by omega)];rfl
  subst e
  refine T ?_
  exact D
 have f0:decide ((s.size:Int)<1)=false:=decide_eq_false z_
 by_cases h1:s.size>12
 ·have f1:decide ((s.size:Int)>12)=true:=decide_eq_true z_
  have e:r=false:=by rw[hw,decide_eq_false (by omega:¬ s.size≤12),Bool.and_false]
  subst e
  refine T ?_
  exact D
 have f1:decide ((s.size:Int)>12)=false:=decide_eq_false z_
 have hN:r=(letB (Af s (0:Int).toNat) && s.data.toList.all fun c=>letB c || Db c):=by
  rw[hw,decide_eq_true (by omega:s.size≤12),Bool.and_true]
  match hs:s.data.toList,hL with
  | [],hL=>simp at hL;omega
  | c::t,_ =>
   have e:Af s (0:Int).toNat=c:=by show Af s 0=c;simp[Af,hs]
   rw[e,Am6,List.all_cons]
   cases letB c<;>simp
 clear hw
 have hx0:letB (Af s (0:Int).toNat)=(decide (97≤(Af s (0:Int).toNat).toNat) && decide ((Af s (0:Int).toNat).toNat≤122)):=rfl
 by_cases k1:(Af s (0:Int).toNat).toNat<97
 ·have g1:decide (((Af s (0:Int).toNat).toNat:Int)<97)=true:=decide_eq_true z_
  have e:r=false:=by rw[hN,hx0,decide_eq_false z_];rfl
  subst e
  refine T ?_
  exact D
 have g1:decide (((Af s (0:Int).toNat).toNat:Int)<97)=false:=decide_eq_false z_
 by_cases k2:(Af s (0:Int).toNat).toNat>122
 ·have g2:decide (((Af s (0:Int).toNat).toNat:Int)>122)=true:=decide_eq_true z_
  have e:r=false:=by rw[hN,hx0,decide_eq_false (by omega:¬ (Af s (0:Int).toNat).toNat≤122),Bool.and_false];rfl
  subst e
  refine T ?_
  exact D
 have g2:decide (((Af s (0:Int).toNat).toNat:Int)>122)=false:=decide_eq_false z_
 rw[hx0,decide_eq_true z_,decide_eq_true z_,Bool.true_and,Bool.true_and]at hN
 clear hx0 k1 k2
 refine T ?_
 refine Az s.size (fun j=>C3 (fun _ c=>letB c || Db c) s.data.toList j) (fun j=>[(0,Ae s),(3,Aa j)]) (fun _=>[]) [] (Au _ _) U ?_
 intro j hj hI
 clear g1 g2
 refine T ?_
 refine⟨fun h=>?_,fun h=>?_⟩
 ·have hlt:j<s.data.toList.length:=qA h
  have hb:Af s j=s.data.toList[j]:=Ew hlt
  have hno:=fun h=>@all_at' _ (fun c=>letB c || Db c) s.data.toList j hlt h
  have hnx:=fun h=>Ao (p:=fun _ c=>letB c || Db c) hI hlt h
  rw[← hb]at hno hnx
  clear h
  have hx:(letB (Af s j) || Db (Af s j))=((decide (97≤(Af s j).toNat) && decide ((Af s j).toNat≤122)) || (decide (48≤(Af s j).toNat) && decide ((Af s j).toNat≤57))):=rfl
  have ej:Af s ((j:Nat):Int).toNat=Af s j:=rfl
  rw[hx]at hno hnx
  clear hx
  by_cases k1:(Af s j).toNat<97
  ·have g1:decide (((Af s ((j:Nat):Int).toNat).toNat:Int)<97)=true:=decide_eq_true (by rw[ej];omega)
   by_cases k3:(Af s j).toNat<48
   ·have g3:decide (((Af s ((j:Nat):Int).toNat).toNat:Int)<48)=true:=decide_eq_true (by rw[ej];omega)
    have e:r=false:=by rw[hN,hno (by rw[decide_eq_false (by omega:¬ 97≤(Af s j).toNat),decide_eq_false (by omega:¬ 48≤(Af s j).toNat)];rfl)]
    subst e
    refine T ?_
    exact D
   have g3:decide (((Af s ((j:Nat):Int).toNat).toNat:Int)<48)=false:=decide_eq_false (by rw[ej];omega)
   by_cases k4:(Af s j).toNat>57
   ·have g4:decide (((Af s ((j:Nat):Int).toNat).toNat:Int)>57)=true:=decide_eq_true (by rw[ej];omega)
    have e:r=false:=by rw[hN,hno (by rw[decide_eq_false (by omega:¬ 97≤(Af s j).toNat),decide_eq_false (by omega:¬ (Af s j).toNat≤57),Bool.and_false];rfl)]
    subst e
    refine T ?_
    exact D
   have g4:decide (((Af s ((j:Nat):Int).toNat).toNat:Int)>57)=false:=decide_eq_false (by rw[ej];omega)
   refine T ?_
   exact A8 [] hI z_ (hnx (by rw[decide_eq_true (by omega:48≤(Af s j).toNat),decide_eq_true (by omega:(Af s j).toNat≤57),Bool.and_self,Bool.or_true])) U
  have g1:decide (((Af s ((j:Nat):Int).toNat).toNat:Int)<97)=false:=decide_eq_false (by rw[ej];omega)
  by_cases k2:(Af s j).toNat>122
  ·have g2:decide (((Af s ((j:Nat):Int).toNat).toNat:Int)>122)=true:=decide_eq_true (by rw[ej];omega)
   have g3:decide (((Af s ((j:Nat):Int).toNat).toNat:Int)<48)=false:=decide_eq_false (by rw[ej];omega)
   have g4:decide (((Af s ((j:Nat):Int).toNat).toNat:Int)>57)=true:=decide_eq_true (by rw[ej];omega)
   have e:r=false:=by rw[hN,hno (by rw[decide_eq_false (by omega:¬ (Af s j).toNat≤122),decide_eq_false (by omega:¬ (Af s j).toNat≤57),Bool.and_false,Bool.and_false];rfl)]
   subst e
   refine T ?_
   exact D
  have g2:decide (((Af s ((j:Nat):Int).toNat).toNat:Int)>122)=false:=decide_eq_false (by rw[ej];omega)
  refine T ?_
  exact A8 [] hI z_ (hnx (by rw[decide_eq_true (by omega:97≤(Af s j).toNat),decide_eq_true (by omega:(Af s j).toNat≤122)];rfl)) U
 ·have hjs:j=s.size:=qB h
  subst hjs
  rw[Hd hI (Nat.le_refl _)]at hN
  subst hN
  clear h
  refine T ?_
  exact D
theorem Aaq (l:List UInt8) (h:l.length≤6):Sy.Spec Tryz.prog 426 [.sl 1 Bd l] [] (B4 (Wj l)) []:=cT F426 Tryz.ntmps426 fun F hF=>by
 conv=>whnf
 refine Du l.length (fun j=>[(0,.sl 1 Bd l),(3,B4 (Wj (l.take j))),(4,Aa j)]) (fun _=>[]) [] ⟨⟨Y,Y,Y,Y,Y,Y,q_⟩,q_,Y,Y⟩ ?_
 intro j hj
 have hlt2:=Aia _ (l.take j) rfl
 refine oO ?_
 refine⟨fun h2=>?_,fun h2=>?_⟩
 ·have hlt:j<l.length:=by have:=of_decide_eq_true h2;omega
  have hj0:((j:Nat):Int).toNat<l.length:=by simpa using hlt
  have hs:=Ai4 l hlt
  have hll:(l.take j).length=j:=by rw[List.length_take];omega
  rw[hll]at hlt2
  have h5:Wj (l.take j)<1099511627776:=Nat.lt_of_lt_of_le hlt2 (by
   have:(256:Nat) ^ j≤256 ^ 5:=Nat.pow_le_pow_right y_ z_
   exact this)
  obtain ⟨c,hc⟩:∃ c,l[((j:Nat):Int).toNat]'hj0=c:=⟨_,rfl⟩
  have hc':l[j]=c:=hc
  rw[hc']at hs
  have hcn:=c.toNat_lt
  generalize Wj (l.take j)=m at *
  refine oO ?_
  refine⟨Y,by omega,hj0,?_⟩
  rw[hc]
  conv=>whnf
  refine iW ?_
  refine D0 [] hlt ⟨⟨Y,Y,congrArg (fun z:Int=>SV.val (.int .u64 z)) ?_,Y,Y,Y,q_⟩,q_,Y,Y⟩
  rw[hs,IntKind.wrap_u64,IntKind.wrap_u64,IntKind.wrap_u64]
  omega
 ·have hje:j=l.length:=by have:=of_decide_eq_false h2;omega
  subst hje
  rw[List.take_length]
  refine oO ?_
  exact dN
theorem Acy (m:Nat) (h:m<18446744073709551616):Sy.Spec Tryz.prog 375 [B4 m] [] (Ab (Og m)) []:=cT F375 Tryz.ntmps375 fun F hF=>by
 have e:=Anu m
 have hl:(be 6 m).length=6:=J5 m 6
 have h0:(0:Int).toNat<(be 6 m).length:=by rw[hl];decide
 have hg:(be 6 m)[(0:Int).toNat]'h0=UInt8.ofNat (m / 256 ^ 5):=rfl
 conv=>whnf
 refine C5 (Ag [(0,4)] Y F425 (Ah0 m h) Y q_ Y ⟨.inr Y,q_⟩) Y Y ?_
 refine Ac 4 Y ?_
 refine oO ?_
 refine⟨Y,by decide,h0,?_⟩
 rw[hg]
 conv=>whnf
 refine⟨by decide,?_⟩
 conv=>whnf
 refine Aq Y (.cons .tmp .nil) ?_ Y
 refine congrArg Ab ?_
 rw[← e,Bool.eq_iff_iff]
 rw[Int.tmod_eq_emod_of_nonneg z_]
 simp
 omega
def hexD16:ByteArray:=⟨#[48,49,50,51,52,53,54,55,56,57,97,98,99,100,101,102]⟩
theorem Wa:∀ d:Fin 16,hexD16.extract d.1 (d.1+1)=mkT [Dg d.1]:=by decide +kernel
theorem Vf (m:Nat):∀ j,(Qf m j).length≤3 * j
 | 0=>by simp[Qf]
 | j+1=>by
  have:=Vf m j
  rw[Qf,List.length_append,List.length_append]
  split<;>simp<;>omega
theorem Yd (m j:Nat) (hj:j<6) (h:((j:Nat):Int).toNat<(be 6 m).length):((be 6 m)[((j:Nat):Int).toNat]'h).toNat=Bg m j:=by
 have h6:j=0∨j=1∨j=2∨j=3∨j=4∨j=5:=by omega
 unfold Bg
 rcases h6 with rfl | rfl | rfl | rfl | rfl | rfl
 ·show (UInt8.ofNat (m / 256 ^ 5)).toNat=_;simp
 ·show (UInt8.ofNat (m / 256 ^ 4)).toNat=_;simp
 ·show (UInt8.ofNat (m / 256 ^ 3)).toNat=_;simp
 ·show (UInt8.ofNat (m / 256 ^ 2)).toNat=_;simp
 ·show (UInt8.ofNat (m / 256 ^ 1)).toNat=_;simp
 ·show (UInt8.ofNat (m / 256 ^ 0)).toNat=_;simp
theorem Aig (m:Nat) (h:m<18446744073709551616):Sy.Spec Tryz.prog 373 [B4 m] [] (Ae (Ba m)) []:=cT F373 Tryz.ntmps373 fun F hF=>by
 have hl:(be 6 m).length=6:=J5 m 6
 have hbe:=Yd m
 rw[Ba,Int.toNat_natCast]
 refine T ?_
 refine X (Ag [(0,8)] Y F425 (Ah0 m h) Y q_ Y ⟨.inr Y,q_⟩) ?_
 refine Ac 8 Y ?_
 generalize be 6 m=B at *
 refine T ?_
 refine At (fun j:Nat=>j≤6) (fun j=>[(3,Ae hexD16),(4,.sl 1 Bd B),(5,Ae (mkT (Qf m j))),(6,Aa j)]) (fun _=>[]) (fun j=>6-j) 0 [] qe U ?_
 intro j hj
 refine T ?_
 refine⟨fun h2=>?_,fun h2=>?_⟩
 ·have hlt:j<6:=by have:=of_decide_eq_true h2;omega
  clear h2
  have hj0:((j:Nat):Int).toNat<B.length:=by omega
  have hbj:=hbe j hlt hj0
  have hn:Bg m j<256:=Nat.mod_lt _ y_
  have hsu:Qf m (j+1)=Qf m j++(if 0<j then [58] else [])++[Dg (Bg m j / 16),Dg (Bg m j % 16)]:=rfl
  have hul:=Vf m j
  have eA:IntKind.u8.wrap (((B[((j:Nat):Int).toNat]'hj0).toNat:Int).tdiv 16)=((Bg m j / 16:Nat):Int):=by
   rw[hbj,Int.tdiv_eq_ediv_of_nonneg z_,IntKind.wrap_u8];omega
  have eA1:IntKind.u8.wrap (IntKind.u8.wrap (((B[((j:Nat):Int).toNat]'hj0).toNat:Int).tdiv 16)+1)=((Bg m j / 16+1:Nat):Int):=by
   rw[eA,IntKind.wrap_u8];omega
  have eR:((B[((j:Nat):Int).toNat]'hj0).toNat:Int).tmod 16=((Bg m j % 16:Nat):Int):=by
   rw[hbj,Int.tmod_eq_emod_of_nonneg z_];omega
  have eR1:IntKind.u8.wrap (((B[((j:Nat):Int).toNat]'hj0).toNat:Int).tmod 16+1)=((Bg m j % 16+1:Nat):Int):=by
   rw[eR,IntKind.wrap_u8];omega
  generalize Qf m j=ws at *
  have hz1:(mkT ws).size=ws.length:=Bs ws
  by_cases k:0<j
  ·have f:decide ((j:Int)>0)=true:=decide_eq_true z_
   rw[if_pos k]at hsu
   have z1:(mkT ws).size+(⟨#[58]⟩:ByteArray).size≤9223372036854775807:=by
    have:(⟨#[58]⟩:ByteArray).size=1:=rfl
    omega
   have hz2:(mkT ws++(⟨#[58]⟩:ByteArray)).size=ws.length+1:=by rw[ByteArray.size_append,hz1];rfl
   have x1:(hexD16.extract (IntKind.u8.wrap (((B[((j:Nat):Int).toNat]'hj0).toNat:Int).tdiv 16)).toNat (IntKind.u8.wrap (IntKind.u8.wrap (((B[((j:Nat):Int).toNat]'hj0).toNat:Int).tdiv 16)+1)).toNat).size≤16:=by
    rw[ByteArray.size_extract,show hexD16.size=16 from rfl];omega
   have x2:(hexD16.extract (((B[((j:Nat):Int).toNat]'hj0).toNat:Int).tmod 16).toNat (IntKind.u8.wrap (((B[((j:Nat):Int).toNat]'hj0).toNat:Int).tmod 16+1)).toNat).size≤16:=by
    rw[ByteArray.size_extract,show hexD16.size=16 from rfl];omega
   have z2:(mkT ws++(⟨#[58]⟩:ByteArray)).size+(hexD16.extract (IntKind.u8.wrap (((B[((j:Nat):Int).toNat]'hj0).toNat:Int).tdiv 16)).toNat (IntKind.u8.wrap (IntKind.u8.wrap (((B[((j:Nat):Int).toNat]'hj0).toNat:Int).tdiv 16)+1)).toNat).size≤9223372036854775807:=by omega
   have z3:((mkT ws++(⟨#[58]⟩:ByteArray))++hexD16.extract (IntKind.u8.wrap (((B[((j:Nat):Int).toNat]'hj0).toNat:Int).tdiv 16)).toNat (IntKind.u8.wrap (IntKind.u8.wrap (((B[((j:Nat):Int).toNat]'hj0).toNat:Int).tdiv 16)+1)).toNat).size+(hexD16.extract (((B[((j:Nat):Int).toNat]'hj0).toNat:Int).tmod 16).toNat (IntKind.u8.wrap (((B[((j:Nat):Int).toNat]'hj0).toNat:Int).tmod 16+1)).toNat).size≤9223372036854775807:=by
    rw[ByteArray.size_append];omega
   have hfin:mkT (Qf m (j+1))=(mkT ws++(⟨#[58]⟩:ByteArray))++hexD16.extract (IntKind.u8.wrap (((B[((j:Nat):Int).toNat]'hj0).toNat:Int).tdiv 16)).toNat (IntKind.u8.wrap (IntKind.u8.wrap (((B[((j:Nat):Int).toNat]'hj0).toNat:Int).tdiv 16)+1)).toNat++hexD16.extract (((B[((j:Nat):Int).toNat]'hj0).toNat:Int).tmod 16).toNat (IntKind.u8.wrap (((B[((j:Nat):Int).toNat]'hj0).toNat:Int).tmod 16+1)).toNat:=by
    rw[eA1,eA,eR1,eR,Int.toNat_natCast,Int.toNat_natCast,Int.toNat_natCast,Int.toNat_natCast,Wa ⟨Bg m j / 16,by omega⟩,Wa ⟨Bg m j % 16,by omega⟩]
    rw[show (⟨#[58]⟩:ByteArray)=mkT [58] from rfl]
    simp only[Ez]
    rw[hsu]
    simp
   refine T ?_
   refine⟨⟨by omega,by omega,by rw[show hexD16.size=16 from Y];omega⟩,?_⟩
   refine T ?_
   refine⟨⟨by omega,by omega,by rw[show hexD16.size=16 from Y];omega⟩,?_⟩
   refine T ?_
   exact Ad (j+1) [] hlt z_ ⟨⟨Y,Y,Y,Y,congrArg Ae hfin,Y,Y,Y,q_⟩,q_,Y,Y⟩
  ·have f:decide ((j:Int)>0)=false:=decide_eq_false z_
   rw[if_neg k,List.append_nil]at hsu
   have hz2:(mkT ws).size=ws.length:=by exact hz1
   have x1:(hexD16.extract (IntKind.u8.wrap (((B[((j:Nat):Int).toNat]'hj0).toNat:Int).tdiv 16)).toNat (IntKind.u8.wrap (IntKind.u8.wrap (((B[((j:Nat):Int).toNat]'hj0).toNat:Int).tdiv 16)+1)).toNat).size≤16:=by
    rw[ByteArray.size_extract,show hexD16.size=16 from rfl];omega
   have x2:(hexD16.extract (((B[((j:Nat):Int).toNat]'hj0).toNat:Int).tmod 16).toNat (IntKind.u8.wrap (((B[((j:Nat):Int).toNat]'hj0).toNat:Int).tmod 16+1)).toNat).size≤16:=by
    rw[ByteArray.size_extract,show hexD16.size=16 from rfl];omega
   have z2:(mkT ws).size+(hexD16.extract (IntKind.u8.wrap (((B[((j:Nat):Int).toNat]'hj0).toNat:Int).tdiv 16)).toNat (IntKind.u8.wrap (IntKind.u8.wrap (((B[((j:Nat):Int).toNat]'hj0).toNat:Int).tdiv 16)+1)).toNat).size≤9223372036854775807:=by omega
   have z3:(mkT ws++hexD16.extract (IntKind.u8.wrap (((B[((j:Nat):Int).toNat]'hj0).toNat:Int).tdiv 16)).toNat (IntKind.u8.wrap (IntKind.u8.wrap (((B[((j:Nat):Int).toNat]'hj0).toNat:Int).tdiv 16)+1)).toNat).size+(hexD16.extract (((B[((j:Nat):Int).toNat]'hj0).toNat:Int).tmod 16).toNat (IntKind.u8.wrap (((B[((j:Nat):Int).toNat]'hj0).toNat:Int).tmod 16+1)).toNat).size≤9223372036854775807:=by
    rw[ByteArray.size_append];omega
   have hfin:mkT (Qf m (j+1))=mkT ws++hexD16.extract (IntKind.u8.wrap (((B[((j:Nat):Int).toNat]'hj0).toNat:Int).tdiv 16)).toNat (IntKind.u8.wrap (IntKind.u8.wrap (((B[((j:Nat):Int).toNat]'hj0).toNat:Int).tdiv 16)+1)).toNat++hexD16.extract (((B[((j:Nat):Int).toNat]'hj0).toNat:Int).tmod 16).toNat (IntKind.u8.wrap (((B[((j:Nat):Int).toNat]'hj0).toNat:Int).tmod 16+1)).toNat:=by
    rw[eA1,eA,eR1,eR,Int.toNat_natCast,Int.toNat_natCast,Int.toNat_natCast,Int.toNat_natCast,Wa ⟨Bg m j / 16,by omega⟩,Wa ⟨Bg m j % 16,by omega⟩]
    skip
    simp only[Ez]
    rw[hsu]
    simp
   refine T ?_
   refine⟨⟨by omega,by omega,by rw[show hexD16.size=16 from Y];omega⟩,?_⟩
   refine T ?_
   refine⟨⟨by omega,by omega,by rw[show hexD16.size=16 from Y];omega⟩,?_⟩
   refine T ?_
   exact Ad (j+1) [] hlt z_ ⟨⟨Y,Y,Y,Y,congrArg Ae hfin,Y,Y,Y,q_⟩,q_,Y,Y⟩
 ·have hje:j=6:=by have:=of_decide_eq_false h2;omega
  subst hje
  refine T ?_
  exact D
theorem Apo (s:ByteArray) (i:Nat) (h:i<17):0≤D6 s i∧D6 s i<18014398509481984:=by
 have h0:=Kv s 0;have h1:=Xl s
 have mono:∀ a,D6 s a≤D6 s (a+1):=fun a=>by
  have h2:=(Kv s a).1
  have h3:=(Sh (Af s a)).1
  rw[D6]
  split<;>omega
 have up:∀ k a,a+k=17→D6 s a≤D6 s 17:=fun k=>by
  induction k with
  | zero=>intro a ha;rw[show a=17 by omega];exact Int.le_refl _
  | succ k ih=>intro a ha;exact Int.le_trans (mono a) (ih (a+1) z_)
 have:=up (17-i) i z_
 have:=(Kv s i).1
 omega
theorem Apa (s:ByteArray):Sy.Spec Tryz.prog 312 [Ae s] [] (.tup [B4 (macR s).1,Ab (macR s).2]) []:=cT F312 Tryz.ntmps312 fun F hF=>by
 by_cases h0:s.size=17
 ·have f0:((s.size:Int) != 17)=false:=by rw[bne_eq_false_iff_eq];omega
  have hres:=App s h0
  generalize macR s=res at *
  refine T ?_
  refine At (fun i:Nat=>i≤17) (fun i=>[(0,Ae s),(4,B4 (D6 s i)),(5,Aa i)]) (fun _=>[]) (fun i=>17-i) 0 [] qe U ?_
  intro i hi
  refine T ?_
  refine⟨fun h=>?_,fun h=>?_⟩
  ·have hlt:i<17:=qA h
   clear h
   have hlts:i<s.size:=by omega
   have hn:=Apo s i hlt
   have hsu:D6 s (i+1)=if i % 3=2 then D6 s i else D6 s i * 16+digD (Af s ((i:Nat):Int).toNat):=rfl
   generalize D6 s i=n at *
   clear hres
   have hc:=(Af s ((i:Nat):Int).toNat).toNat_lt
   have hdg:=digD.eq_1 (Af s ((i:Nat):Int).toNat)
   have hdi:=digI.eq_1 (Af s ((i:Nat):Int).toNat)
   have em:((i:Int)).tmod 3=((i % 3:Nat):Int):=by rw[Int.tmod_eq_emod_of_nonneg z_];omega
   by_cases k1:48≤(Af s ((i:Nat):Int).toNat).toNat
   ·have g1:decide (((Af s ((i:Nat):Int).toNat).toNat:Int)≥48)=true:=decide_eq_true z_
    by_cases k2:(Af s ((i:Nat):Int).toNat).toNat≤57
    ·have g2:decide (((Af s ((i:Nat):Int).toNat).toNat:Int)≤57)=true:=decide_eq_true z_
     have g3:decide (((Af s ((i:Nat):Int).toNat).toNat:Int)≥97)=false:=decide_eq_false z_
     have hd:digD (Af s ((i:Nat):Int).toNat)=((Af s ((i:Nat):Int).toNat).toNat:Int)-48:=by rw[hdg,hdi];repeat' split<;>omega
     by_cases k3:i % 3=2
     ·have g5:((i:Int).tmod 3 != 2)=false:=by rw[em,bne_eq_false_iff_eq];omega
      rw[if_pos k3]at hsu
      refine T ?_
      exact Ad (i+1) [] hlt z_ ⟨⟨Y,Y,congrArg B4 hsu,Y,Y,Y,q_⟩,q_,Y,Y⟩
     ·have g5:((i:Int).tmod 3 != 2)=true:=by rw[em,bne_iff_ne];omega
      rw[if_neg k3,hd]at hsu
      refine T ?_
      exact Ad (i+1) [] hlt z_ ⟨⟨Y,Y,congrArg B4 (by rw[hsu];simp only[IntKind.wrap_u64];omega),Y,Y,Y,q_⟩,q_,Y,Y⟩
    ·have g2:decide (((Af s ((i:Nat):Int).toNat).toNat:Int)≤57)=false:=decide_eq_false z_
     by_cases k4:97≤(Af s ((i:Nat):Int).toNat).toNat
     ·have g3:decide (((Af s ((i:Nat):Int).toNat).toNat:Int)≥97)=true:=decide_eq_true z_
      by_cases k5:(Af s ((i:Nat):Int).toNat).toNat≤102
      ·have g4:decide (((Af s ((i:Nat):Int).toNat).toNat:Int)≤102)=true:=decide_eq_true z_
       have hd:digD (Af s ((i:Nat):Int).toNat)=((Af s ((i:Nat):Int).toNat).toNat:Int)-87:=by rw[hdg,hdi];repeat' split<;>omega
       by_cases k3:i % 3=2
       ·have g5:((i:Int).tmod 3 != 2)=false:=by rw[em,bne_eq_false_iff_eq];omega
        rw[if_pos k3]at hsu
        refine T ?_
        exact Ad (i+1) [] hlt z_ ⟨⟨Y,Y,congrArg B4 hsu,Y,Y,Y,q_⟩,q_,Y,Y⟩
       ·have g5:((i:Int).tmod 3 != 2)=true:=by rw[em,bne_iff_ne];omega
        rw[if_neg k3,hd]at hsu
        refine T ?_
        exact Ad (i+1) [] hlt z_ ⟨⟨Y,Y,congrArg B4 (by rw[hsu];simp only[IntKind.wrap_u64];omega),Y,Y,Y,q_⟩,q_,Y,Y⟩
      ·have g4:decide (((Af s ((i:Nat):Int).toNat).toNat:Int)≤102)=false:=decide_eq_false z_
       have hd:digD (Af s ((i:Nat):Int).toNat)=0:=by rw[hdg,hdi];repeat' split<;>omega
       by_cases k3:i % 3=2
       ·have g5:((i:Int).tmod 3 != 2)=false:=by rw[em,bne_eq_false_iff_eq];omega
        rw[if_pos k3]at hsu
        refine T ?_
        exact Ad (i+1) [] hlt z_ ⟨⟨Y,Y,congrArg B4 hsu,Y,Y,Y,q_⟩,q_,Y,Y⟩
       ·have g5:((i:Int).tmod 3 != 2)=true:=by rw[em,bne_iff_ne];omega
        rw[if_neg k3,hd]at hsu
        refine T ?_
        exact Ad (i+1) [] hlt z_ ⟨⟨Y,Y,congrArg B4 (by rw[hsu];simp only[IntKind.wrap_u64];omega),Y,Y,Y,q_⟩,q_,Y,Y⟩
     ·have g3:decide (((Af s ((i:Nat):Int).toNat).toNat:Int)≥97)=false:=decide_eq_false z_
      have hd:digD (Af s ((i:Nat):Int).toNat)=0:=by rw[hdg,hdi];repeat' split<;>omega
      by_cases k3:i % 3=2
      ·have g5:((i:Int).tmod 3 != 2)=false:=by rw[em,bne_eq_false_iff_eq];omega
       rw[if_pos k3]at hsu
       refine T ?_
       exact Ad (i+1) [] hlt z_ ⟨⟨Y,Y,congrArg B4 hsu,Y,Y,Y,q_⟩,q_,Y,Y⟩
      ·have g5:((i:Int).tmod 3 != 2)=true:=by rw[em,bne_iff_ne];omega
       rw[if_neg k3,hd]at hsu
       refine T ?_
       exact Ad (i+1) [] hlt z_ ⟨⟨Y,Y,congrArg B4 (by rw[hsu];simp only[IntKind.wrap_u64];omega),Y,Y,Y,q_⟩,q_,Y,Y⟩
   ·have g1:decide (((Af s ((i:Nat):Int).toNat).toNat:Int)≥48)=false:=decide_eq_false z_
    have g3:decide (((Af s ((i:Nat):Int).toNat).toNat:Int)≥97)=false:=decide_eq_false z_
    have hd:digD (Af s ((i:Nat):Int).toNat)=0:=by rw[hdg,hdi];repeat' split<;>omega
    by_cases k3:i % 3=2
    ·have g5:((i:Int).tmod 3 != 2)=false:=by rw[em,bne_eq_false_iff_eq];omega
     rw[if_pos k3]at hsu
     refine T ?_
     exact Ad (i+1) [] hlt z_ ⟨⟨Y,Y,congrArg B4 hsu,Y,Y,Y,q_⟩,q_,Y,Y⟩
    ·have g5:((i:Int).tmod 3 != 2)=true:=by rw[em,bne_iff_ne];omega
     rw[if_neg k3,hd]at hsu
     refine T ?_
     exact Ad (i+1) [] hlt z_ ⟨⟨Y,Y,congrArg B4 (by rw[hsu];simp only[IntKind.wrap_u64];omega),Y,Y,Y,q_⟩,q_,Y,Y⟩
  ·have hie:i=17:=qB h
   subst hie
   clear h
   have h17:=Xl s
   obtain ⟨m,hm⟩:∃ m:Nat,D6 s 17=m:=⟨(D6 s 17).toNat,by omega⟩
   rw[hm]at hres h17 ⊢
   have q:=Aig m z_
   by_cases hx:Ba (m:Int)=s
   ·have g:=T4 hx
    rw[if_pos hx]at hres
    subst hres
    refine T ?_
    refine C q F373 ?_
    exact D
   ·have g:=T3 hx
    rw[if_neg hx]at hres
    subst hres
    refine T ?_
    refine C q F373 ?_
    exact D
 ·have f0:((s.size:Int) != 17)=true:=by rw[bne_iff_ne];omega
  rw[Anb h0]
  refine T ?_
  exact D
theorem Ajs (m:Nat) (h:m<18446744073709551616):∃ x:Int,Sy.Spec Tryz.prog 374 [B4 m] [] (.tup [A3 x,Ab (Ha m)]) []:=by
 have hl:(be 6 m).length=6:=J5 m 6
 have h0:(0:Int).toNat<(be 6 m).length:=by rw[hl];decide
 have h1:(1:Int).toNat<(be 6 m).length:=by rw[hl];decide
 have c0:((be 6 m)[(0:Int).toNat]'h0).toNat=Bg m 0:=Yd m 0 y_ h0
 have c1:((be 6 m)[(1:Int).toNat]'h1).toNat=Bg m 1:=Yd m 1 y_ h1
 have d0:Bg m 0=m / 1099511627776 % 256:=rfl
 have d1:Bg m 1=m / 4294967296 % 256:=rfl
 have hb:Ha (m:Int)=decide ((m:Int) % 281474976710656 / 4294967296=512):=rfl
 have qb:=Ah0 m h
 generalize be 6 m=B at *
 by_cases k0:Bg m 0=2
 ·have g0:(((B[(0:Int).toNat]'h0).toNat:Int) != 2)=false:=by rw[bne_eq_false_iff_eq];omega
  by_cases k1:Bg m 1=0
  ·have g1:(((B[(1:Int).toNat]'h1).toNat:Int) != 0)=false:=by rw[bne_eq_false_iff_eq];omega
   have e:Ha (m:Int)=true:=by rw[hb];exact decide_eq_true z_
   have q:=Aaq (B.drop 2) (by rw[List.length_drop];omega)
   refine⟨IntKind.u32.wrap (Wj (B.drop 2)),?_⟩
   rw[e]
   refine Lg Γ hm 100 F374 Tryz.ntmps374 Y fun F hF=>by
    refine T ?_
    refine X (Ag [(0,6)] Y F425 qb Y q_ Y ⟨.inr Y,q_⟩) ?_
    refine Ac 6 Y ?_
    refine T ?_
    refine X (Hn (lo:=2) (hi:=B.length) Γ.toTy (B.drop 2) Y Y Y Y (.inr ⟨_,_,Y,Y⟩) (.inl ⟨Y,Y⟩) z_ (Nat.le_refl _) (by rw[List.take_length])) ?_
    refine C q F426 ?_
    exact D
  ·have g1:(((B[(1:Int).toNat]'h1).toNat:Int) != 0)=true:=by rw[bne_iff_ne];omega
   have e:Ha (m:Int)=false:=by rw[hb];exact decide_eq_false z_
   refine⟨0,?_⟩
   rw[e]
   refine Lg Γ hm 100 F374 Tryz.ntmps374 Y fun F hF=>by
    refine T ?_
    refine X (Ag [(0,6)] Y F425 qb Y q_ Y ⟨.inr Y,q_⟩) ?_
    refine Ac 6 Y ?_
    refine T ?_
    exact D
 ·have g0:(((B[(0:Int).toNat]'h0).toNat:Int) != 2)=true:=by rw[bne_iff_ne];omega
  have e:Ha (m:Int)=false:=by rw[hb];exact decide_eq_false z_
  refine⟨0,?_⟩
  rw[e]
  refine Lg Γ hm 100 F374 Tryz.ntmps374 Y fun F hF=>by
   refine T ?_
   refine X (Ag [(0,6)] Y F425 qb Y q_ Y ⟨.inr Y,q_⟩) ?_
   refine Ac 6 Y ?_
   refine T ?_
   exact D
theorem Adv (m:Nat):∀ j,(Qf m j).length≤3 * j
 | 0=>by simp[Qf]
 | j+1=>by
  have:=Adv m j
  rw[Qf,List.length_append,List.length_append]
  split<;>simp<;>omega
theorem Wo {α:Type} {tx:α→ByteArray}:∀ (l:List α),(∀ x∈l,(tx x).size≤100)→Aid (l.map tx)≤100 * l.length
 | [],_=>by simp[Aid]
 | x::l,h=>by
  have h1:=h x qe
  have h2:=Wo l (fun y hy=>h y (by simp[hy]))
  simp only[Aid,List.map_cons,List.sum_cons,List.length_cons]at h2 ⊢
  omega
theorem Jo (a:Int):(Cp a).size≤100:=by
 have:=Tx a.toNat 4
 rw[Cp,Bs];omega
theorem Vi (tx:Int→ByteArray) (l:List Int) {j:Nat} (hlt:j<l.length) (hlt0:((j:Nat):Int).toNat<l.length) :
  Jh ((l.take (j+1)).map tx) comma=(if j=0 then Jh ((l.take j).map tx) comma else Jh ((l.take j).map tx) comma++comma)++tx (l[((j:Nat):Int).toNat]'hlt0):=by
 have htk:l.take (j+1)=l.take j++[l[((j:Nat):Int).toNat]'hlt0]:=List.take_succ_eq_append_getElem hlt
 rw[htk,List.map_append,List.map_cons,List.map_nil]
 by_cases h0:j=0
 ·rw[if_pos h0]
  subst h0
  apply Ho
  rw[Oo]
  simp only[Jh,List.take_zero,List.map_nil,List.nil_append,List.map_cons]
  simp[Lib.join_cons,Lib.joinTail,Lib.join]
 ·rw[if_neg h0]
  refine Ahc _ _ _ fun e=>?_
  have:=congrArg List.length e
  rw[List.length_map,List.length_take,List.length_nil]at this
  omega
theorem Ac3 (l:List Int) (hl:l.length≤100000) (hw:∀ x∈l,0≤x∧x<1000000000000000000):Sy.Spec Tryz.prog 443 [.sl 1 Aa l] [] (Ae (Ii l)) []:=cT F443 Tryz.ntmps443 fun F hF=>by
 have hall:l.take l.length=l:=List.take_length
 refine T ?_
 refine At (fun j:Nat=>j≤l.length∧(Ii (l.take j)).size≤30 * j) (fun j=>[(0,.sl 1 Aa l),(3,Ae (Ii (l.take j))),(4,Aa j)]) (fun _=>[]) (fun j=>l.length-j) 0 [] ⟨by simp,by rw[List.take_zero];decide⟩ U ?_
 rintro j ⟨hj,hz⟩
 refine T ?_
 refine⟨fun h=>?_,fun h=>?_⟩
 ·have hlt:j<l.length:=qA h
  have hlt0:((j:Nat):Int).toNat<l.length:=hlt
  clear h hall
  have hx:=hw _ (List.getElem_mem hlt0)
  obtain ⟨m,hm⟩:∃ m:Nat,l[((j:Nat):Int).toNat]'hlt0=m:=⟨(l[((j:Nat):Int).toNat]'hlt0).toNat,by omega⟩
  have q:=Kt m z_
  rw[← hm]at q
  have hns:(Be (l[((j:Nat):Int).toNat]'hlt0)).size≤19:=by rw[hm];exact Er z_
  have hsn:Ii (l.take (j+1))=(if j=0 then Ii (l.take j) else Ii (l.take j)++comma)++Be (l[((j:Nat):Int).toNat]'hlt0):=Vi Be l hlt hlt0
  have hcz:comma.size=1:=rfl
  generalize Be (l[((j:Nat):Int).toNat]'hlt0)=t at *
  generalize hu:Ii (l.take j)=u at *
  by_cases k:0<j
  ·have f:decide ((j:Int)>0)=true:=decide_eq_true z_
   rw[if_neg z_]at hsn
   have z1:u.size+(⟨#[44]⟩:ByteArray).size≤9223372036854775807:=by show u.size+comma.size≤_;omega
   have z2:(u++(⟨#[44]⟩:ByteArray)).size+t.size≤9223372036854775807:=by show (u++comma).size+t.size≤_;rw[ByteArray.size_append];omega
   have z3:(Ii (l.take (j+1))).size≤30 * (j+1):=by rw[hsn,ByteArray.size_append,ByteArray.size_append];omega
   refine T ?_
   refine C q F372 ?_
   exact Ad (j+1) [] ⟨hlt,z3⟩ z_ ⟨⟨Y,Y,congrArg Ae hsn,Y,Y,Y,q_⟩,q_,Y,Y⟩
  ·have f:decide ((j:Int)>0)=false:=decide_eq_false z_
   rw[if_pos z_]at hsn
   have z2:u.size+t.size≤9223372036854775807:=by omega
   have z3:(Ii (l.take (j+1))).size≤30 * (j+1):=by rw[hsn,ByteArray.size_append];omega
   refine T ?_
   refine C q F372 ?_
   exact Ad (j+1) [] ⟨hlt,z3⟩ z_ ⟨⟨Y,Y,congrArg Ae hsn,Y,Y,Y,q_⟩,q_,Y,Y⟩
 ·have hje:j=l.length:=qB h
  subst hje
  clear h
  rw[hall]
  refine T ?_
  exact D
theorem Aas (l:List Int) (hl:l.length≤100000) (hw:∀ x∈l,0≤x∧x<4294967296):Sy.Spec Tryz.prog 419 [.sl 1 A3 l] [] (Ae (D7 l)) []:=cT F419 Tryz.ntmps419 fun F hF=>by
 have hall:l.take l.length=l:=List.take_length
 refine T ?_
 refine At (fun j:Nat=>j≤l.length∧(D7 (l.take j)).size≤110 * j) (fun j=>[(0,.sl 1 A3 l),(3,Ae (D7 (l.take j))),(4,Aa j)]) (fun _=>[]) (fun j=>l.length-j) 0 [] ⟨by simp,by rw[List.take_zero];decide⟩ U ?_
 rintro j ⟨hj,hz⟩
 refine T ?_
 refine⟨fun h=>?_,fun h=>?_⟩
 ·have hlt:j<l.length:=qA h
  have hlt0:((j:Nat):Int).toNat<l.length:=hlt
  clear h hall
  have hx:=hw _ (List.getElem_mem hlt0)
  obtain ⟨m,hm⟩:∃ m:Nat,l[((j:Nat):Int).toNat]'hlt0=m:=⟨(l[((j:Nat):Int).toNat]'hlt0).toNat,by omega⟩
  have q:=Lr m z_
  rw[← hm]at q
  have hns:(Cp (l[((j:Nat):Int).toNat]'hlt0)).size≤100:=Jo _
  have hsn:D7 (l.take (j+1))=(if j=0 then D7 (l.take j) else D7 (l.take j)++comma)++Cp (l[((j:Nat):Int).toNat]'hlt0):=Vi Cp l hlt hlt0
  have hcz:comma.size=1:=rfl
  generalize Cp (l[((j:Nat):Int).toNat]'hlt0)=t at *
  generalize hu:D7 (l.take j)=u at *
  by_cases k:0<j
  ·have f:decide ((j:Int)>0)=true:=decide_eq_true z_
   rw[if_neg z_]at hsn
   have z1:u.size+(⟨#[44]⟩:ByteArray).size≤9223372036854775807:=by show u.size+comma.size≤_;omega
   have z2:(u++(⟨#[44]⟩:ByteArray)).size+t.size≤9223372036854775807:=by show (u++comma).size+t.size≤_;rw[ByteArray.size_append];omega
   have z3:(D7 (l.take (j+1))).size≤110 * (j+1):=by rw[hsn,ByteArray.size_append,ByteArray.size_append];omega
   refine T ?_
   refine C q F418 ?_
   exact Ad (j+1) [] ⟨hlt,z3⟩ z_ ⟨⟨Y,Y,congrArg Ae hsn,Y,Y,Y,q_⟩,q_,Y,Y⟩
  ·have f:decide ((j:Int)>0)=false:=decide_eq_false z_
   rw[if_pos z_]at hsn
   have z2:u.size+t.size≤9223372036854775807:=by omega
   have z3:(D7 (l.take (j+1))).size≤110 * (j+1):=by rw[hsn,ByteArray.size_append];omega
   refine T ?_
   refine C q F418 ?_
   exact Ad (j+1) [] ⟨hlt,z3⟩ z_ ⟨⟨Y,Y,congrArg Ae hsn,Y,Y,Y,q_⟩,q_,Y,Y⟩
 ·have hje:j=l.length:=qB h
  subst hje
  clear h
  rw[hall]
  refine T ?_
  exact D
theorem Yq (a:Nat) (b:Int) (ha:a<4294967296) (hb:0≤b∧b≤32):Sy.Spec Tryz.prog 420 [Dn a b] [] (Ae (D4 a b)) []:=cT F420 Tryz.ntmps420 fun F hF=>by
 have q1:=I6 (a:Int) b
 rw[decide_eq_true hb]at q1
 have q2:=Lr a ha
 have hsz:=Jo (a:Int)
 obtain ⟨n,hn⟩:∃ n:Nat,b=n:=⟨b.toNat,by omega⟩
 subst hn
 have q3:=I0 n z_
 have hns:=Er (n:=n) z_
 have he:D4 a (n:Int)=Cp (a:Int)++(⟨#[47]⟩:ByteArray)++Be (n:Int):=by
  rw[D4,if_pos hb,Dy]
  apply Ho
  rw[Oo,Oo,Bo,Bo]
  rfl
 rw[he]
 generalize Cp (a:Int)=t at *
 generalize Be (n:Int)=u at *
 have h47:(⟨#[47]⟩:ByteArray).size=1:=rfl
 have z1:t.size+(⟨#[47]⟩:ByteArray).size≤9223372036854775807:=by omega
 have z2:(t++(⟨#[47]⟩:ByteArray)).size+u.size≤9223372036854775807:=by rw[ByteArray.size_append];omega
 refine T ?_
 refine C q1 F358 ?_
 refine C q2 F418 ?_
 refine C q3 F427 ?_
 exact D
theorem Ac6 (x y:Int) (hb g:Bool) (q1:Sy.Spec Tryz.prog 374 [B4 x] [] (.tup [A3 y,Ab hb]) []) (q2:Sy.Spec Tryz.prog 375 [B4 x] [] (Ab g) []) :
  Sy.Spec Tryz.prog 313 [B4 x] [] (Ab (decide (x<281474976710656) && !hb && !g)) []:=cT F313 Tryz.ntmps313 fun F hF=>by
 cases hk:decide (x<281474976710656)
 ·refine T ?_
  refine C q1 F374 ?_
  exact D
 ·cases hb
  ·refine T ?_
   refine C q1 F374 ?_
   refine C q2 F375 ?_
   exact D
  ·refine T ?_
   refine C q1 F374 ?_
   exact D
theorem Ac5 (m:Nat) (h:m<18446744073709551616):Sy.Spec Tryz.prog 313 [B4 m] [] (Ab (statB m)) []:=by
 obtain ⟨x,q1⟩:=Ajs m h
 have q:=Ac6 m x _ _ q1 (Acy m h)
 have e:statB (m:Int)=(decide ((m:Int)<281474976710656) && !(Ha m) && !(Og m)):=by
  have e1:decide ((m:Int)<281474976710656)=decide ((m:Int)≤281474976710655):=by
   rw[Bool.eq_iff_iff,decide_eq_true_eq,decide_eq_true_eq];omega
  rw[e1,statB,Int.toNat_natCast]
 rw[e]
 exact q
theorem Agq (a:Nat) (b:Int) (ha:a<4294967296):Sy.Spec Tryz.prog 318 [Dn a b] [] (Ab (subnetB a b)) []:=cT F318 Tryz.ntmps318 fun F hF=>by
 have q1:=Ub a b ha
 have q2:=Acv a b ha
 have hs:=subnetB.eq_1 (a:Int) b
 generalize subnetB (a:Int) b=r at *
 generalize Eb (a:Int) b=fi at *
 generalize lastI (a:Int) b=la at *
 by_cases h1:1≤b
 ·have f1:decide (b≥1)=true:=decide_eq_true h1
  by_cases h2:b≤30
  ·have f2:decide (b≤30)=true:=decide_eq_true h2
   by_cases h3:(a:Int)=fi
   ·have f3:((a:Int) != fi)=false:=by rw[bne_eq_false_iff_eq];exact h3
    have hr:r=false:=by rw[hs];simp[h3]
    subst hr
    refine T ?_
    refine C q1 F359 ?_
    exact D
   ·have f3:((a:Int) != fi)=true:=by rw[bne_iff_ne];exact h3
    by_cases h4:(a:Int)=la
    ·have f4:((a:Int) != la)=false:=by rw[bne_eq_false_iff_eq];exact h4
     have hr:r=false:=by rw[hs];simp[h4]
     subst hr
     refine T ?_
     refine C q1 F359 ?_
     refine C q2 F360 ?_
     refine Aq Y (.cons .tmp .nil) (congrArg Ab f4.symm) Y
    ·have f4:((a:Int) != la)=true:=by rw[bne_iff_ne];exact h4
     have hr:r=true:=by rw[hs];simp[h1,h2,h3,h4]
     subst hr
     refine T ?_
     refine C q1 F359 ?_
     refine C q2 F360 ?_
     refine Aq Y (.cons .tmp .nil) (congrArg Ab f4.symm) Y
  ·have f2:decide (b≤30)=false:=decide_eq_false h2
   have hr:r=false:=by rw[hs];simp[h2]
   subst hr
   refine T ?_
   exact D
 ·have f1:decide (b≥1)=false:=decide_eq_false h1
  have hr:r=false:=by rw[hs];simp[h1]
  subst hr
  refine T ?_
  exact D
theorem Ac9 (s:ByteArray) (hi:Int) (hs:s.size≤1000000):Sy.Spec Tryz.prog 314 [Ae s,Aa hi] [] (.tup [.sl 1 Aa (listR hi s).1,Ab (listR hi s).2]) []:=cT F314 Tryz.ntmps314 fun F hF=>by
 have q:=Ac2 s hi hs
 have hres:=listR.eq_1 hi s
 generalize listR hi s=res at *
 by_cases h:s=dash
 ·have f:(s == (⟨#[45]⟩:ByteArray))=true:=B8 h
  rw[if_pos h]at hres
  subst hres
  refine T ?_
  refine Cf 4 1 Aa Y ?_
  refine T ?_
  exact D
 ·have f:(s == (⟨#[45]⟩:ByteArray))=false:=Cu h
  rw[if_neg h]at hres
  subst hres
  refine T ?_
  refine C q F376 ?_
  exact D
theorem Aob {d:UInt8} {s:ByteArray} (h:d∉s.data.toList):cutT d s=(s,⟨#[]⟩,false):=by
 rw[cutT,if_neg (fun hh=>h (Ahd hh))]
theorem Adl {l:List UInt8} {i:Nat} {d:UInt8} (h:∀ k,k<i→l.getD k 0≠d) (hi:i≤l.length):d∉l.take i:=by
 intro hm
 obtain ⟨k,hk,e⟩:=List.getElem_of_mem hm
 rw[List.length_take]at hk
 have hk2:k<i:=by omega
 have:=h k hk2
 rw[List.getElem_take]at e
 have hkl:k<l.length:=by omega
 apply this
 simp only[List.getD,List.getElem?_eq_getElem hkl,Option.getD_some]
 exact e
theorem Vo (s:ByteArray) (i j:Nat):s.extract i j=mkT ((s.data.toList.take j).drop i):=by
 have:=Cj s.data.toList i j
 rwa [Ci]at this
theorem Yp (s:ByteArray) (hs:s.size≤1000000):Sy.Spec Tryz.prog 317 [Ae s] [] (.tup [Dn (prefixR s).1.1 (prefixR s).1.2,Ab (prefixR s).2]) []:=cT F317 Tryz.ntmps317 fun F hF=>by
 have hL:s.data.toList.length=s.size:=rfl
 have hres:=prefixR.eq_1 s
 generalize prefixR s=res at *
 refine T ?_
 refine At (fun i:Nat=>i≤s.size∧∀ k,k<i→Af s k≠47) (fun i=>[(0,Ae s),(2,.ptr 1001 0),(4,Aa i)]) (fun _=>[(1001,.box [A3 0,Aa 0])]) (fun i=>s.size-i) 0 [(1001,2)] ⟨by simp,by simp⟩ U ?_
 rintro i ⟨hi,hI⟩
 have ej:Af s ((i:Nat):Int).toNat=Af s i:=rfl
 by_cases a1:i<s.size
 ·have f1:decide ((i:Int)<(s.size:Int))=true:=decide_eq_true z_
  by_cases k1:Af s i=47
  ·have g1:(((Af s ((i:Nat):Int).toNat).toNat:Int) != 47)=false:=by rw[ej,k1];rfl
   have g2:((i:Int) == (s.size:Int))=false:=by rw[beq_eq_false_iff_ne];omega
   have hlt:i<s.data.toList.length:=a1
   have hb:Af s i=s.data.toList[i]:=Ew hlt
   have hcut:cutT 47 s=(s.extract (0:Int).toNat ((i:Nat):Int).toNat,s.extract (((i:Nat):Int)+1).toNat ((s.size:Nat):Int).toNat,true):=by
    have e1:(((i:Nat):Int)+1).toNat=i+1:=by omega
    rw[Vo,Vo,e1,Int.toNat_natCast,Int.toNat_natCast]
    have e:=Aoc 47 (s.data.toList.take i) (s.data.toList.drop (i+1)) (Adl (fun k hk=>hI k hk) z_)
    have e2:s.data.toList.take i++47::s.data.toList.drop (i+1)=s.data.toList:=by
     have e3:=List.drop_eq_getElem_cons hlt
     rw[← hb,k1]at e3
     rw[← e3,List.take_append_drop]
    rw[e2,Ci]at e
    rw[e]
    show _=(mkT ((s.data.toList.take i).drop 0),_,true)
    rw[List.drop_zero,← hL,List.take_length]
   rw[hcut]at hres
   dsimp only at hres
   have hz1:(s.extract (0:Int).toNat ((i:Nat):Int).toNat).size≤s.size:=by rw[ByteArray.size_extract];omega
   have q1:=Aat (s.extract (0:Int).toNat ((i:Nat):Int).toNat) z_
   have q2:=Zl (s.extract (((i:Nat):Int)+1).toNat ((s.size:Nat):Int).toNat)
   have hdr:=K5 (s.extract (((i:Nat):Int)+1).toNat ((s.size:Nat):Int).toNat)
   rw[T7]at hres
   generalize Bn (s.extract (0:Int).toNat ((i:Nat):Int).toNat)=rt at *
   generalize digitsD (s.extract (((i:Nat):Int)+1).toNat ((s.size:Nat):Int).toNat)=d at *
   obtain ⟨v,b⟩:=rt
   dsimp only at hres q1
   cases b with
   | false =>
    rw[if_pos (.inr (.inl rfl))]at hres
    subst hres
    refine T ?_
    refine⟨⟨by omega,by omega,by omega⟩,?_⟩
    refine T ?_
    refine C q1 F315 ?_
    refine⟨⟨by omega,by omega,by omega⟩,?_⟩
    refine T ?_
    refine C q2 F377 ?_
    exact D
   | true =>
    by_cases k2:d>32
    ·have g3:decide (d>32)=true:=decide_eq_true k2
     rw[if_pos (by
      refine .inr (.inr ?_)
      split
      ·rfl
      ·exact decide_eq_false z_)]at hres
     subst hres
     refine T ?_
     refine⟨⟨by omega,by omega,by omega⟩,?_⟩
     refine T ?_
     refine C q1 F315 ?_
     refine⟨⟨by omega,by omega,by omega⟩,?_⟩
     refine T ?_
     refine C q2 F377 ?_
     exact D
    ·have g3:decide (d>32)=false:=decide_eq_false k2
     rw[if_neg (by omega:¬ d=1000),if_neg (by simp;omega)]at hres
     subst hres
     refine T ?_
     refine⟨⟨by omega,by omega,by omega⟩,?_⟩
     refine T ?_
     refine C q1 F315 ?_
     refine⟨⟨by omega,by omega,by omega⟩,?_⟩
     refine T ?_
     refine C q2 F377 ?_
     exact D
  ·have g1:(((Af s ((i:Nat):Int).toNat).toNat:Int) != 47)=true:=by
    rw[ej,bne_iff_ne]
    intro e
    exact k1 (UInt8.toNat_inj.1 (by show _=47;omega))
   refine T ?_
   refine Ad (i+1) [] ⟨a1,fun k hk=>?_⟩ z_ U
   by_cases e:k=i
   ·subst e;exact k1
   ·exact hI k z_
 ·have f1:decide ((i:Int)<(s.size:Int))=false:=decide_eq_false z_
  have g2:((i:Int) == (s.size:Int))=true:=by rw[beq_iff_eq];omega
  have hno:(47:UInt8)∉s.data.toList:=by
   have:=Adl (l:=s.data.toList) (i:=s.size) (d:=47) (fun k hk=>hI k z_) z_
   rwa [← hL,List.take_length]at this
  rw[Aob hno,if_pos (.inl rfl)]at hres
  subst hres
  refine T ?_
  exact D
theorem Aml (w:List ByteArray) (hw:w.length≤1000000):Sy.Spec Tryz.prog 245 [.sl 1 Ae w] [] (Ae (mkT (formD w))) []:=cT F245 Tryz.ntmps245 fun F hF=>by
 have hf:=formD.eq_1 w
 by_cases h0:w.length=0
 ·have f0:((w.length:Int) == 0)=true:=by rw[beq_iff_eq];omega
  rw[List.length_eq_zero_iff.1 h0]
  rw[List.length_eq_zero_iff.1 h0]at f0
  have e:formD []=[]:=by decide +kernel
  rw[e]
  refine T ?_
  exact D
 have f0:((w.length:Int) == 0)=false:=by rw[beq_eq_false_iff_ne];omega
 have hn0:(0:Int).toNat<w.length:=by show 0<_;omega
 have hx0:wdT w 0=w[(0:Int).toNat]'hn0:=Ce z_
 rw[hx0]at hf
 generalize formD w=res at *
 generalize hg:w[(0:Int).toNat]'hn0=w0 at *
 by_cases c1:w0=(⟨#[100,101,118,105,99,101]⟩:ByteArray)
 ·have b1:=B8 c1
  rw[c1,k1]at hf
  simp at hf
  subst hf
  rw[← hg]at *
  refine T ?_
  exact D
 have b1:=Cu c1
 by_cases c3:w0=(⟨#[108,105,110,107]⟩:ByteArray)
 ·have b3:=B8 c3
  rw[c3,k3]at hf
  simp at hf
  subst hf
  rw[← hg]at *
  refine T ?_
  exact D
 have b3:=Cu c3
 by_cases c4:w0=(⟨#[115,116,97,116,105,99]⟩:ByteArray)
 ·have b4:=B8 c4
  rw[c4,k4]at hf
  simp at hf
  subst hf
  rw[← hg]at *
  refine T ?_
  exact D
 have b4:=Cu c4
 by_cases c5:w0=(⟨#[118,116,101,112]⟩:ByteArray)
 ·have b5:=B8 c5
  rw[c5,k5]at hf
  simp at hf
  subst hf
  rw[← hg]at *
  refine T ?_
  exact D
 have b5:=Cu c5
 by_cases c6:w0=(⟨#[118,110,105]⟩:ByteArray)
 ·have b6:=B8 c6
  rw[c6,k6]at hf
  simp at hf
  subst hf
  rw[← hg]at *
  refine T ?_
  exact D
 have b6:=Cu c6
 by_cases c7:w0=(⟨#[102,108,111,111,100]⟩:ByteArray)
 ·have b7:=B8 c7
  rw[c7,k7]at hf
  simp at hf
  subst hf
  rw[← hg]at *
  refine T ?_
  exact D
 have b7:=Cu c7
 by_cases c8:w0=(⟨#[118,114,102]⟩:ByteArray)
 ·have b8:=B8 c8
  rw[c8,k8]at hf
  simp at hf
  subst hf
  rw[← hg]at *
  refine T ?_
  exact D
 have b8:=Cu c8
 by_cases c9:w0=(⟨#[105,114,98]⟩:ByteArray)
 ·have b9:=B8 c9
  rw[c9,k9]at hf
  simp at hf
  subst hf
  rw[← hg]at *
  refine T ?_
  exact D
 have b9:=Cu c9
 by_cases c2:w0=(⟨#[112,111,114,116]⟩:ByteArray)
 ·have b2:=B8 c2
  rw[c2,k2]at hf
  clear c2
  rw[← hg]at *
  by_cases l7:w.length=7
  ·have g7:((w.length:Int) == 7)=true:=by rw[beq_iff_eq];omega
   have g6:((w.length:Int) == 6)=false:=by rw[beq_eq_false_iff_ne];omega
   have hn4:(4:Int).toNat<w.length:=by show 4<_;omega
   have hx4:wdT w 4=w[(4:Int).toNat]'hn4:=Ce z_
   rw[hx4]at hf
   by_cases d1:w[(4:Int).toNat]'hn4=accessT
   ·have e1:(!(w[(4:Int).toNat]'hn4 == (⟨#[97,99,99,101,115,115]⟩:ByteArray)))=false:=Hc d1
    rw[if_neg y_,if_neg y_,if_neg y_,if_neg y_,if_neg y_,if_neg y_,if_neg y_,if_neg y_,if_pos rfl,if_neg (fun h=>h.2 d1),if_neg z_]at hf
    subst hf
    refine T ?_
    exact D
   ·have e1:(!(w[(4:Int).toNat]'hn4 == (⟨#[97,99,99,101,115,115]⟩:ByteArray)))=true:=Kl d1
    rw[if_neg y_,if_neg y_,if_neg y_,if_neg y_,if_neg y_,if_neg y_,if_neg y_,if_neg y_,if_pos rfl,if_pos ⟨l7,d1⟩]at hf
    subst hf
    refine T ?_
    exact D
  ·have g7:((w.length:Int) == 7)=false:=by rw[beq_eq_false_iff_ne];omega
   by_cases l6:w.length=6
   ·have g6:((w.length:Int) == 6)=true:=by rw[beq_iff_eq];omega
    have hn4:(4:Int).toNat<w.length:=by show 4<_;omega
    have hx4:wdT w 4=w[(4:Int).toNat]'hn4:=Ce z_
    rw[hx4]at hf
    by_cases d1:w[(4:Int).toNat]'hn4=trunkT
    ·have e1:(!(w[(4:Int).toNat]'hn4 == (⟨#[116,114,117,110,107]⟩:ByteArray)))=false:=Hc d1
     rw[if_neg y_,if_neg y_,if_neg y_,if_neg y_,if_neg y_,if_neg y_,if_neg y_,if_neg y_,if_pos rfl,if_neg (fun h=>l7 h.1),if_neg (fun h=>h.2 d1)]at hf
     subst hf
     refine T ?_
     exact D
    ·have e1:(!(w[(4:Int).toNat]'hn4 == (⟨#[116,114,117,110,107]⟩:ByteArray)))=true:=Kl d1
     rw[if_neg y_,if_neg y_,if_neg y_,if_neg y_,if_neg y_,if_neg y_,if_neg y_,if_neg y_,if_pos rfl,if_neg (fun h=>l7 h.1),if_pos ⟨l6,d1⟩]at hf
     subst hf
     refine T ?_
     exact D
   ·have g6:((w.length:Int) == 6)=false:=by rw[beq_eq_false_iff_ne];omega
    simp[l7,l6]at hf
    subst hf
    refine T ?_
    exact D
 have b2:=Cu c2
 have hk0:kindL w0=0:=by
  unfold kindL
  rw[if_neg c1,if_neg c2,if_neg c3,if_neg c4,if_neg c5,if_neg c6,if_neg c7,if_neg c8,if_neg c9]
 rw[hk0]at hf
 simp at hf
 subst hf
 rw[← hg]at *
 refine T ?_
 exact D
def kindsL:List ByteArray:=[⟨#[]⟩,(⟨#[100,101,118,105,99,101]⟩:ByteArray),(⟨#[112,111,114,116]⟩:ByteArray),(⟨#[108,105,110,107]⟩:ByteArray),(⟨#[115,116,97,116,105,99]⟩:ByteArray),(⟨#[118,116,101,112]⟩:ByteArray),(⟨#[118,110,105]⟩:ByteArray),(⟨#[102,108,111,111,100]⟩:ByteArray),(⟨#[118,114,102]⟩:ByteArray),(⟨#[105,114,98]⟩:ByteArray)]
theorem Apu (s:ByteArray) (i:Nat) (h1:1≤i) (hi:i<kindsL.length) (h:kindsL[i]=s):kindL s=i:=by
 have h10:kindsL.length=10:=rfl
 have hc:i=1∨i=2∨i=3∨i=4∨i=5∨i=6∨i=7∨i=8∨i=9:=by omega
 subst h
 rcases hc with rfl | rfl | rfl | rfl | rfl | rfl | rfl | rfl | rfl
 ·exact k1
 ·exact k2
 ·exact k3
 ·exact k4
 ·exact k5
 ·exact k6
 ·exact k7
 ·exact k8
 ·exact k9
theorem Akt (s:ByteArray) (h:∀ i (hi:i<kindsL.length),1≤i→kindsL[i]≠s):kindL s=0:=by
 have n:∀ i (hi:i<kindsL.length),1≤i→¬ s=kindsL[i]:=fun i hi h1 e=>h i hi h1 e.symm
 unfold kindL
 exact(if_neg (n 1 y_ y_)).trans ((if_neg (n 2 y_ y_)).trans ((if_neg (n 3 y_ y_)).trans ((if_neg (n 4 y_ y_)).trans ((if_neg (n 5 y_ y_)).trans ((if_neg (n 6 y_ y_)).trans ((if_neg (n 7 y_ y_)).trans ((if_neg (n 8 y_ y_)).trans (if_neg (n 9 y_ y_)))))))))
theorem Amk (s:ByteArray):Sy.Spec Tryz.prog 246 [Ae s] [] (Aa (kindL s)) []:=cT F246 Tryz.ntmps246 fun F hF=>by
 have hat:=Apu s
 have hnone:=Akt s
 have h10:kindsL.length=10:=rfl
 generalize kindL s=k at *
 refine T ?_
 refine Hj 5 Ae kindsL Y Y ?_
 refine Ac 5 Y ?_
 generalize kindsL=P at *
 refine T ?_
 refine At (fun i:Nat=>1≤i∧i≤P.length∧∀ j (hj:j<P.length),1≤j→j<i→P[j]≠s) (fun i=>[(0,Ae s),(3,.sl 1 Ae P),(4,Aa i)]) (fun _=>[]) (fun i=>P.length-i) 1 [] ⟨by omega,by omega,fun j hj h1 h2=>by omega⟩ U ?_
 rintro i ⟨h1,h2,h3⟩
 refine T ?_
 refine⟨fun h=>?_,fun h=>?_⟩
 ·have hlt:i<P.length:=qA h
  have hlt0:((i:Nat):Int).toNat<P.length:=hlt
  clear h
  by_cases e:P[((i:Nat):Int).toNat]'hlt0=s
  ·have f:=B8 e
   have:=hat i h1 hlt e
   subst this
   refine T ?_
   exact D
  ·have f:=Cu e
   refine T ?_
   refine Ad (i+1) [] ⟨by omega,hlt,fun j hj a b=>?_⟩ z_ U
   by_cases hji:j=i
   ·subst hji;exact e
   ·exact h3 j hj a z_
 ·have hje:i=P.length:=qB h
  clear h
  have:=hnone fun j hj a=>h3 j hj a z_
  subst this
  refine T ?_
  exact D
theorem Ac8 (l:LineM) (hl:l.tagged.length≤1000000):Sy.Spec Tryz.prog 248 [Am l] [] (Ab (membersB l.vlan l.tagged)) []:=cT F248 Tryz.ntmps248 fun F hF=>by
 have hm2:=membersB.eq_1 l.vlan l.tagged
 generalize membersB l.vlan l.tagged=r at *
 refine T ?_
 refine A4 1 17 (Am l) Y Y Y ?_
 refine At (fun j:Nat=>j≤l.tagged.length∧∀ k (hk:k<l.tagged.length),k<j→l.tagged[k]≠l.vlan) (fun j=>[(1,.ref 17 (Am l) 0),(3,Aa j)]) (fun _=>[]) (fun j=>l.tagged.length-j) 0 [] ⟨by omega,fun k hk h=>by omega⟩ U ?_
 rintro j ⟨hj,hI⟩
 refine T ?_
 refine⟨fun h=>?_,fun h=>?_⟩
 ·have hlt:j<l.tagged.length:=qA h
  have hlt0:((j:Nat):Int).toNat<l.tagged.length:=hlt
  clear h
  by_cases e:l.tagged[((j:Nat):Int).toNat]'hlt0=l.vlan
  ·have f:(l.tagged[((j:Nat):Int).toNat]'hlt0 == l.vlan)=true:=by rw[beq_iff_eq];exact e
   have hr:r=false:=by
    rw[hm2]
    have:l.tagged.contains l.vlan=true:=by rw[List.contains_iff_mem,← e];exact List.getElem_mem _
    rw[this];simp
   subst hr
   refine T ?_
   exact D
  ·have f:(l.tagged[((j:Nat):Int).toNat]'hlt0 == l.vlan)=false:=by rw[beq_eq_false_iff_ne];exact e
   refine T ?_
   refine Ad (j+1) [] ⟨hlt,fun k hk hkj=>?_⟩ z_ U
   by_cases hji:k=j
   ·subst hji;exact e
   ·exact hI k hk z_
 ·have hje:j=l.tagged.length:=qB h
  clear h
  have hc:l.tagged.contains l.vlan=false:=by
   rw[Bool.eq_false_iff]
   intro hc
   rw[List.contains_iff_mem]at hc
   obtain ⟨k,hk,e⟩:=List.getElem_of_mem hc
   exact hI k hk z_ e
  rw[hc,Bool.not_false,Bool.and_true]at hm2
  by_cases v:0<l.vlan
  ·have f:decide (l.vlan>0)=true:=decide_eq_true v
   rw[decide_eq_true v,Bool.true_or]at hm2
   subst hm2
   refine T ?_
   exact D
  ·have f:decide (l.vlan>0)=false:=decide_eq_false v
   by_cases z:0<l.tagged.length
   ·have g:decide ((l.tagged.length:Int)>0)=true:=decide_eq_true z_
    have hr:r=true:=by rw[hm2];cases ht:l.tagged with | nil=>rw[ht]at z;cases z | cons=>simp
    subst hr
    refine T ?_
    refine Aq Y (.cons .tmp .nil) (congrArg Ab g.symm) Y
   ·have g:decide ((l.tagged.length:Int)>0)=false:=decide_eq_false z_
    have hr:r=false:=by rw[hm2,decide_eq_false v,List.length_eq_zero_iff.1 (by omega:l.tagged.length=0)];rfl
    subst hr
    refine T ?_
    refine Aq Y (.cons .tmp .nil) (congrArg Ab g.symm) Y
abbrev lnO (l:LineM):Obs:=[(0,.box (Bj l))]
theorem Amj (s:ByteArray) (n:Nat) (l:LineM):Sy.Spec Tryz.prog 310 [Ae s,Aa n,.ptr 0 0] (lnO l) (.tup []) (lnO (nameD s n l)):=cT F310 Tryz.ntmps310 fun F hF=>by
 have hd:=nameD.eq_1 s n l
 generalize nameD s n l=r at *
 by_cases h0:n=0
 ·have f:((n:Int) == 0)=true:=by rw[beq_iff_eq];omega
  rw[if_pos h0]at hd
  subst hd
  refine T ?_
  exact done rfl .nil [] (lnO { l with dev:=s }) (fun _ h=>h) rfl rfl U
 have f:((n:Int) == 0)=false:=by rw[beq_eq_false_iff_ne];omega
 rw[if_neg h0]at hd
 by_cases h8:l.kind=8
 ·have f8:(l.kind == 8)=true:=by rw[beq_iff_eq];exact h8
  rw[if_pos (.inl h8)]at hd
  subst hd
  refine T ?_
  exact done rfl .nil [] (lnO { l with name:=s }) (fun _ h=>h) rfl rfl U
 have f8:(l.kind == 8)=false:=by rw[beq_eq_false_iff_ne];exact h8
 by_cases h9:l.kind=9
 ·have f9:(l.kind == 9)=true:=by rw[beq_iff_eq];exact h9
  rw[if_pos (.inr h9)]at hd
  subst hd
  refine T ?_
  exact done rfl .nil [] (lnO { l with name:=s }) (fun _ h=>h) rfl rfl U
 have f9:(l.kind == 9)=false:=by rw[beq_eq_false_iff_ne];exact h9
 rw[if_neg (fun h=>h.elim h8 h9)]at hd
 by_cases h1:n=1
 ·subst h1
  rw[if_pos rfl]at hd
  subst hd
  refine T ?_
  exact C0 rfl .nil [] (lnO { l with port:=s }) (fun _ h=>h) rfl rfl U
 have g1:((n:Int) == 1)=false:=by rw[beq_eq_false_iff_ne];omega
 rw[if_neg h1]at hd
 by_cases h2:n=2
 ·subst h2
  rw[if_pos rfl]at hd
  subst hd
  refine T ?_
  exact C0 rfl .nil [] (lnO { l with peer:=s }) (fun _ h=>h) rfl rfl U
 have g2:((n:Int) == 2)=false:=by rw[beq_eq_false_iff_ne];omega
 rw[if_neg h2]at hd
 by_cases h3:n=3
 ·subst h3
  rw[if_pos rfl]at hd
  subst hd
  refine T ?_
  exact C0 rfl .nil [] (lnO { l with far:=s }) (fun _ h=>h) rfl rfl U
 have g3:((n:Int) == 3)=false:=by rw[beq_eq_false_iff_ne];omega
 rw[if_neg h3]at hd
 subst hd
 refine T ?_
 exact C0 Y .nil [] (lnO r) (fun _ h=>h) Y Y U
theorem Aj1 (s:ByteArray) (n:Nat) (l:LineM) (hs:s.size≤1000000):Sy.Spec Tryz.prog 247 [Bd 78,Ae s,Aa n,.ptr 0 0] (lnO l) (Aa (Bp 78 s n l).2) (lnO (Bp 78 s n l).1):=cT F247 Tryz.ntmps247 fun F hF=>by
 have q1:=Ao5 s hs
 have q2:=Amj s n l
 rw[wkN]
 generalize nameD s n l=r at *
 cases hb:nameB s with
 | false =>
  rw[if_pos rfl]
  rw[hb]at q1
  refine T ?_
  refine C q1 F309 ?_
  exact done Y (.cons .tmp .nil) [] (lnO l) (fun _ h=>h) Y Y U
 | true =>
  rw[if_neg qe]
  rw[hb]at q1
  refine T ?_
  refine C q1 F309 ?_
  refine X (Ag [] Y F310 q2 Y W Y V) ?_
  exact done Y (.cons .tmp .nil) [] (lnO r) (fun _ h=>h) Y Y U
theorem Aj4 (s:ByteArray) (n:Nat) (l:LineM) (hs:s.size≤1000000):Sy.Spec Tryz.prog 247 [Bd 75,Ae s,Aa n,.ptr 0 0] (lnO l) (Aa (Bp 75 s n l).2) (lnO (Bp 75 s n l).1):=cT F247 Tryz.ntmps247 fun F hF=>by
 rw[wkK]
 by_cases h1:s=accessT
 ·have f1:(!(s == (⟨#[97,99,99,101,115,115]⟩:ByteArray)))=false:=Hc h1
  rw[if_neg (fun h=>h.1 h1)]
  refine T ?_
  exact done Y (.cons .tmp .nil) [] (lnO l) (fun _ h=>h) Y Y U
 have f1:(!(s == (⟨#[97,99,99,101,115,115]⟩:ByteArray)))=true:=Kl h1
 by_cases h2:s=trunkT
 ·have f2:(!(s == (⟨#[116,114,117,110,107]⟩:ByteArray)))=false:=Hc h2
  rw[if_neg (fun h=>h.2 h2)]
  refine T ?_
  exact done Y (.cons .tmp .nil) [] (lnO l) (fun _ h=>h) Y Y U
 have f2:(!(s == (⟨#[116,114,117,110,107]⟩:ByteArray)))=true:=Kl h2
 rw[if_pos ⟨h1,h2⟩]
 refine T ?_
 exact done Y (.cons .tmp .nil) [] (lnO l) (fun _ h=>h) Y Y U
theorem Aj0 (s:ByteArray) (n:Nat) (l:LineM) (hs:s.size≤1000000):Sy.Spec Tryz.prog 247 [Bd 80,Ae s,Aa n,.ptr 0 0] (lnO l) (Aa (Bp 80 s n l).2) (lnO (Bp 80 s n l).1):=cT F247 Tryz.ntmps247 fun F hF=>by
 have q:Sy.Spec Tryz.prog 311 [Ae s,Aa 0,Aa 65535] [] (.tup [Aa (numR s 0 65535).1,Ab (numR s 0 65535).2]) []:=O1 s 0 65535 y_ hs
 rw[wkP]
 generalize numR s 0 65535=r at *
 obtain ⟨v,b⟩:=r
 cases b
 ·refine T ?_
  refine C q F311 ?_
  exact done rfl (.cons .tmp .nil) [] (lnO { l with num:=v }) (fun _ h=>h) rfl rfl U
 ·refine T ?_
  refine C q F311 ?_
  exact done rfl (.cons .tmp .nil) [] (lnO { l with num:=v }) (fun _ h=>h) rfl rfl U
theorem Aj6 (s:ByteArray) (n:Nat) (l:LineM) (hs:s.size≤1000000):Sy.Spec Tryz.prog 247 [Bd 67,Ae s,Aa n,.ptr 0 0] (lnO l) (Aa (Bp 67 s n l).2) (lnO (Bp 67 s n l).1):=cT F247 Tryz.ntmps247 fun F hF=>by
 have q:Sy.Spec Tryz.prog 311 [Ae s,Aa 1,Aa 65535] [] (.tup [Aa (numR s 1 65535).1,Ab (numR s 1 65535).2]) []:=O1 s 1 65535 y_ hs
 rw[wkC]
 generalize numR s 1 65535=r at *
 obtain ⟨v,b⟩:=r
 cases b
 ·refine T ?_
  refine C q F311 ?_
  exact done rfl (.cons .tmp .nil) [] (lnO { l with cost:=v }) (fun _ h=>h) rfl rfl U
 ·refine T ?_
  refine C q F311 ?_
  exact done rfl (.cons .tmp .nil) [] (lnO { l with cost:=v }) (fun _ h=>h) rfl rfl U
theorem Ajw (s:ByteArray) (n:Nat) (l:LineM) (hs:s.size≤1000000):Sy.Spec Tryz.prog 247 [Bd 86,Ae s,Aa n,.ptr 0 0] (lnO l) (Aa (Bp 86 s n l).2) (lnO (Bp 86 s n l).1):=cT F247 Tryz.ntmps247 fun F hF=>by
 have q:Sy.Spec Tryz.prog 311 [Ae s,Aa 1,Aa 4094] [] (.tup [Aa (Bl s).1,Ab (Bl s).2]) []:=O1 s 1 4094 y_ hs
 rw[wkV]
 generalize Bl s=r at *
 obtain ⟨v,b⟩:=r
 cases b
 ·refine T ?_
  refine C q F311 ?_
  exact done rfl (.cons .tmp .nil) [] (lnO { l with vlan:=v }) (fun _ h=>h) rfl rfl U
 ·refine T ?_
  refine C q F311 ?_
  exact done rfl (.cons .tmp .nil) [] (lnO { l with vlan:=v }) (fun _ h=>h) rfl rfl U
theorem Aj5 (s:ByteArray) (n:Nat) (l:LineM) (hs:s.size≤1000000):Sy.Spec Tryz.prog 247 [Bd 73,Ae s,Aa n,.ptr 0 0] (lnO l) (Aa (Bp 73 s n l).2) (lnO (Bp 73 s n l).1):=cT F247 Tryz.ntmps247 fun F hF=>by
 have q:Sy.Spec Tryz.prog 311 [Ae s,Aa 1,Aa 16777215] [] (.tup [Aa (Ht s).1,Ab (Ht s).2]) []:=O1 s 1 16777215 y_ hs
 rw[wkI]
 generalize Ht s=r at *
 obtain ⟨v,b⟩:=r
 cases b
 ·refine T ?_
  refine C q F311 ?_
  exact done rfl (.cons .tmp .nil) [] (lnO { l with num:=v }) (fun _ h=>h) rfl rfl U
 ·refine T ?_
  refine C q F311 ?_
  exact done rfl (.cons .tmp .nil) [] (lnO { l with num:=v }) (fun _ h=>h) rfl rfl U
theorem Ajv (s:ByteArray) (n:Nat) (l:LineM) (hs:s.size≤1000000):Sy.Spec Tryz.prog 247 [Bd 87,Ae s,Aa n,.ptr 0 0] (lnO l) (Aa (Bp 87 s n l).2) (lnO (Bp 87 s n l).1):=cT F247 Tryz.ntmps247 fun F hF=>by
 have q:Sy.Spec Tryz.prog 311 [Ae s,Aa 1,Aa 4094] [] (.tup [Aa (Bl s).1,Ab (Bl s).2]) []:=O1 s 1 4094 y_ hs
 rw[wkW]
 generalize Bl s=r at *
 obtain ⟨v,b⟩:=r
 cases b
 ·by_cases h:s=dash
  ·have f:(s == (⟨#[45]⟩:ByteArray))=true:=B8 h
   have f2:(!(s == (⟨#[45]⟩:ByteArray)))=false:=Hc h
   rw[decide_eq_true h]
   refine T ?_
   refine C q F311 ?_
   exact done rfl (.cons .tmp .nil) [] (lnO { l with vlan:=v }) (fun _ h=>h) rfl rfl U
  ·have f:(s == (⟨#[45]⟩:ByteArray))=false:=Cu h
   have f2:(!(s == (⟨#[45]⟩:ByteArray)))=true:=Kl h
   rw[decide_eq_false h]
   refine T ?_
   refine C q F311 ?_
   exact done rfl (.cons .tmp .nil) [] (lnO { l with vlan:=v }) (fun _ h=>h) rfl rfl U
 ·refine T ?_
  refine C q F311 ?_
  exact done rfl (.cons .tmp .nil) [] (lnO { l with vlan:=v }) (fun _ h=>h) rfl rfl U
theorem Aj2 (s:ByteArray) (n:Nat) (l:LineM) (hs:s.size≤1000000):Sy.Spec Tryz.prog 247 [Bd 77,Ae s,Aa n,.ptr 0 0] (lnO l) (Aa (Bp 77 s n l).2) (lnO (Bp 77 s n l).1):=cT F247 Tryz.ntmps247 fun F hF=>by
 have q:=Apa s
 obtain ⟨m,hm,hm2⟩:=Xk s
 have q2:=Ac5 m z_
 rw[wkM]
 generalize macR s=r at *
 obtain ⟨v,b⟩:=r
 dsimp only at hm
 subst hm
 generalize statB (m:Int)=g at *
 cases b
 ·refine T ?_
  refine C q F312 ?_
  exact done rfl (.cons .tmp .nil) [] (lnO { l with mac:=(m:Int) }) (fun _ h=>h) rfl rfl U
 ·cases g
  ·refine T ?_
   refine C q F312 ?_
   refine C q2 F313 ?_
   exact done rfl (.cons .tmp .nil) [] (lnO { l with mac:=(m:Int) }) (fun _ h=>h) rfl rfl U
  ·refine T ?_
   refine C q F312 ?_
   refine C q2 F313 ?_
   exact done rfl (.cons .tmp .nil) [] (lnO { l with mac:=(m:Int) }) (fun _ h=>h) rfl rfl U
theorem Ajx (s:ByteArray) (n:Nat) (l:LineM) (hs:s.size≤1000000):Sy.Spec Tryz.prog 247 [Bd 84,Ae s,Aa n,.ptr 0 0] (lnO l) (Aa (Bp 84 s n l).2) (lnO (Bp 84 s n l).1):=cT F247 Tryz.ntmps247 fun F hF=>by
 have q:=Ac9 s 4094 hs
 rw[wkT]
 generalize listR 4094 s=r at *
 obtain ⟨v,b⟩:=r
 cases b
 ·refine T ?_
  refine C q F314 ?_
  exact done rfl (.cons .tmp .nil) [] (lnO { l with tagged:=v }) (fun _ h=>h) rfl rfl U
 ·refine T ?_
  refine C q F314 ?_
  exact done rfl (.cons .tmp .nil) [] (lnO { l with tagged:=v }) (fun _ h=>h) rfl rfl U
theorem Ajz (s:ByteArray) (n:Nat) (l:LineM) (hs:s.size≤1000000):Sy.Spec Tryz.prog 247 [Bd 82,Ae s,Aa n,.ptr 0 0] (lnO l) (Aa (Bp 82 s n l).2) (lnO (Bp 82 s n l).1):=cT F247 Tryz.ntmps247 fun F hF=>by
 have q:=Ac9 s 65535 hs
 rw[wkR]
 generalize listR 65535 s=r at *
 obtain ⟨v,b⟩:=r
 cases b
 ·refine T ?_
  refine C q F314 ?_
  exact done rfl (.cons .tmp .nil) [] (lnO { l with imports:=l.exports,exports:=v }) (fun _ h=>h) rfl rfl U
 ·refine T ?_
  refine C q F314 ?_
  exact done rfl (.cons .tmp .nil) [] (lnO { l with imports:=l.exports,exports:=v }) (fun _ h=>h) rfl rfl U
theorem Aj7 (s:ByteArray) (n:Nat) (l:LineM) (hs:s.size≤1000000):Sy.Spec Tryz.prog 247 [Bd 65,Ae s,Aa n,.ptr 0 0] (lnO l) (Aa (Bp 65 s n l).2) (lnO (Bp 65 s n l).1):=cT F247 Tryz.ntmps247 fun F hF=>by
 have q:=Aat s hs
 rw[wkA]
 generalize Bn s=r at *
 obtain ⟨v,b⟩:=r
 cases b
 ·refine T ?_
  refine C q F315 ?_
  exact done rfl (.cons .tmp .nil) [] (lnO { l with addr:=v }) (fun _ h=>h) rfl rfl U
 ·by_cases h:0<v
  ·have f:decide (v>0)=true:=decide_eq_true h
   rw[decide_eq_true h]
   refine T ?_
   refine C q F315 ?_
   exact done rfl (.cons .tmp .nil) [] (lnO { l with addr:=v }) (fun _ h=>h) rfl rfl U
  ·have f:decide (v>0)=false:=decide_eq_false h
   rw[decide_eq_false h]
   refine T ?_
   refine C q F315 ?_
   exact done rfl (.cons .tmp .nil) [] (lnO { l with addr:=v }) (fun _ h=>h) rfl rfl U
theorem Aj3 (s:ByteArray) (n:Nat) (l:LineM) (hs:s.size≤1000000):Sy.Spec Tryz.prog 247 [Bd 76,Ae s,Aa n,.ptr 0 0] (lnO l) (Aa (Bp 76 s n l).2) (lnO (Bp 76 s n l).1):=cT F247 Tryz.ntmps247 fun F hF=>by
 have q:=Aar s hs
 have hpos:(Bk s).2=true→0<(Bk s).1.length:=fun h=>by
  obtain ⟨_,_,c,_⟩:=Ik Bn (Bc 44 s) [] (Bk s).1 (Lu h) List.Pairwise.nil qe
  rw[c,D8];simp
 rw[wkL]
 generalize Bk s=r at *
 obtain ⟨v,b⟩:=r
 cases b
 ·refine T ?_
  refine C q F316 ?_
  exact done rfl (.cons .tmp .nil) [] (lnO { l with addrs:=v }) (fun _ h=>h) rfl rfl U
 ·have h0:(0:Int).toNat<v.length:=hpos rfl
  have hh:v.headD 0=v[(0:Int).toNat]'h0:=by
   cases v with
   | nil=>cases h0
   | cons x t=>rfl
  clear hpos
  dsimp only
  rw[hh]
  by_cases h:0<v[(0:Int).toNat]'h0
  ·have f:decide (v[(0:Int).toNat]'h0>0)=true:=decide_eq_true h
   have f2:(!(decide (v[(0:Int).toNat]'h0>0)))=false:=by rw[f];rfl
   rw[decide_eq_true h]
   refine T ?_
   refine C q F316 ?_
   exact done rfl (.cons .tmp .nil) [] (lnO { l with addrs:=v }) (fun _ h=>h) rfl rfl U
  ·have f:decide (v[(0:Int).toNat]'h0>0)=false:=decide_eq_false h
   have f2:(!(decide (v[(0:Int).toNat]'h0>0)))=true:=by rw[f];rfl
   rw[decide_eq_false h]
   refine T ?_
   refine C q F316 ?_
   exact done rfl (.cons .tmp .nil) [] (lnO { l with addrs:=v }) (fun _ h=>h) rfl rfl U
theorem Ajy (s:ByteArray) (n:Nat) (l:LineM) (hs:s.size≤1000000):Sy.Spec Tryz.prog 247 [Bd 83,Ae s,Aa n,.ptr 0 0] (lnO l) (Aa (Bp 83 s n l).2) (lnO (Bp 83 s n l).1):=cT F247 Tryz.ntmps247 fun F hF=>by
 have q:=Yp s hs
 have hr:=Qm s
 obtain ⟨m,hm⟩:∃ m:Nat,(prefixR s).1.1=m:=⟨(prefixR s).1.1.toNat,by omega⟩
 rw[hm]at hr
 have q2:=Agq m (prefixR s).1.2 z_
 rw[wkS]
 generalize prefixR s=r at *
 obtain ⟨⟨a,v⟩,b⟩:=r
 dsimp only at hm q2
 subst hm
 generalize subnetB (m:Int) v=g at *
 cases b
 ·refine T ?_
  refine C q F317 ?_
  exact done rfl (.cons .tmp .nil) [] (lnO { l with addr:=(m:Int),bits:=v }) (fun _ h=>h) rfl rfl U
 ·cases g
  ·refine T ?_
   refine C q F317 ?_
   refine C q2 F318 ?_
   exact done rfl (.cons .tmp .nil) [] (lnO { l with addr:=(m:Int),bits:=v }) (fun _ h=>h) rfl rfl U
  ·refine T ?_
   refine C q F317 ?_
   refine C q2 F318 ?_
   exact done rfl (.cons .tmp .nil) [] (lnO { l with addr:=(m:Int),bits:=v }) (fun _ h=>h) rfl rfl U
theorem Ami (k:UInt8) (s:ByteArray) (n:Nat) (l:LineM) (hs:s.size≤1000000) (hk:k∈([78,75,80,67,77,86,87,84,73,65,76,82,83]:List UInt8)):Sy.Spec Tryz.prog 247 [Bd k,Ae s,Aa n,.ptr 0 0] (lnO l) (Aa (Bp k s n l).2) (lnO (Bp k s n l).1):=by
 simp only[List.mem_cons,List.not_mem_nil,or_false]at hk
 rcases hk with rfl | rfl | rfl | rfl | rfl | rfl | rfl | rfl | rfl | rfl | rfl | rfl | rfl
 ·exact Aj1 s n l hs
 ·exact Aj4 s n l hs
 ·exact Aj0 s n l hs
 ·exact Aj6 s n l hs
 ·exact Aj2 s n l hs
 ·exact Ajw s n l hs
 ·exact Ajv s n l hs
 ·exact Ajx s n l hs
 ·exact Aj5 s n l hs
 ·exact Aj7 s n l hs
 ·exact Aj3 s n l hs
 ·exact Ajz s n l hs
 ·exact Ajy s n l hs
theorem Ako (hi:Int) (s:ByteArray):(listR hi s).1.length≤16:=by
 cases h:(listR hi s).2 with
 | true =>
  have:=Kg h
  rcases listOK_iff.1 this with e | e
  ·rw[e];simp
  ·exact(rising_iff.1 e).2.2.2
 | false =>
  unfold listR at h ⊢
  split
  ·simp
  ·rename_i hd
   rw[if_neg hd]at h
   rw[show Do (fun p=>numR p 1 hi) s=([],false) from Sc _ _ _ h]
   simp
theorem Ag4 (s:ByteArray) (n:Nat) (l:LineM):(nameD s n l).kind=l.kind∧(nameD s n l).tagged=l.tagged:=by
 unfold nameD
 repeat' split
 all_goals exact⟨rfl,rfl⟩
def Abe:List UInt8:=[78,75,80,67,77,86,87,84,73,65,76,82,83]
theorem Ae5 (k:UInt8) (s:ByteArray) (n:Nat) (l:LineM) (hk:k∈Abe):(Bp k s n l).1.kind=l.kind∧(l.tagged.length≤16→(Bp k s n l).1.tagged.length≤16):=by
 simp only[Abe,List.mem_cons,List.not_mem_nil,or_false]at hk
 rcases hk with rfl | rfl | rfl | rfl | rfl | rfl | rfl | rfl | rfl | rfl | rfl | rfl | rfl
 ·rw[wkN]
  have h:=Ag4 s n l
  split
  ·exact⟨Y,fun h=>h⟩
  ·exact⟨h.1,fun g=>by dsimp only;rw[h.2];exact g⟩
 ·rw[wkK];exact⟨rfl,fun h=>h⟩
 ·rw[wkP];exact⟨rfl,fun h=>h⟩
 ·rw[wkC];exact⟨rfl,fun h=>h⟩
 ·rw[wkM];exact⟨rfl,fun h=>h⟩
 ·rw[wkV];exact⟨rfl,fun h=>h⟩
 ·rw[wkW];exact⟨rfl,fun h=>h⟩
 ·rw[wkT];exact⟨rfl,fun _=>Ako _ _⟩
 ·rw[wkI];exact⟨rfl,fun h=>h⟩
 ·rw[wkA];exact⟨rfl,fun h=>h⟩
 ·rw[wkL];exact⟨rfl,fun h=>h⟩
 ·rw[wkR];exact⟨rfl,fun h=>h⟩
 ·rw[wkS];exact⟨rfl,fun h=>h⟩
theorem An1 (w:List ByteArray):∀ c∈formD w,c∈Abe:=by
 have key:∀ f,f=formD w→∀ c∈f,c∈Abe:=by
  intro f hf
  unfold formD at hf
  repeat' split at hf
  all_goals
   subst hf
   decide
 exact key _ Y
theorem Akz (w:List ByteArray):(formD w).length≤6:=by
 unfold formD
 repeat' split
 all_goals decide
theorem port_form {w:List ByteArray} (h0:wdT w 0=(⟨#[112,111,114,116]⟩:ByteArray)) (h6:6≤w.length) (h7:w.length≤7) (ha:wdT w 4≠accessT) (ht:wdT w 4≠trunkT):¬ (formD w=[]∨w.length≠(formD w).length+1):=by
 have e:formD w=(if w.length=7∧wdT w 4≠accessT then [78,78,67,75,87,84] else if w.length=6∧wdT w 4≠trunkT then [78,78,67,75,86] else []):=by simp[formD,h0,k2]
 rcases (by omega:w.length=6∨w.length=7) with l | l
 ·rw[if_neg z_,if_pos ⟨l,ht⟩]at e
  rw[e];simp[l]
 ·rw[if_pos ⟨l,ha⟩]at e
  rw[e];simp[l]
theorem Ac7 (w:List ByteArray) (row:Int) (hw:w.length≤1000000) (hs:∀ s∈w,s.size≤1000000):Sy.Spec Tryz.prog 149 [.sl 1 Ae w,Aa row] [] (.tup [Am (readD w row).1,Aa (readD w row).2]) []:=cT F149 Tryz.ntmps149 fun F hF=>by
 have q0:=Aml w hw
 have hfl:=Akz w
 have hms:(mkT (formD w)).size=(formD w).length:=Bs _
 have hport:=@port_form w
 by_cases hbad:formD w=[]∨w.length≠(formD w).length+1
 ·rw[S3 hbad]
  by_cases hf0:formD w=[]
  ·have f0:(mkT (formD w) == (⟨#[]⟩:ByteArray))=true:=B8 (by rw[hf0];rfl)
   generalize formD w=f at *
   by_cases c1:w.length>4
   ·have g1:decide ((w.length:Int)>4)=true:=decide_eq_true z_
    have hn0:(0:Int).toNat<w.length:=by show 0<_;omega
    have hx0:wdT w 0=w[(0:Int).toNat]'hn0:=Ce z_
    by_cases c2:w[(0:Int).toNat]'hn0=(⟨#[112,111,114,116]⟩:ByteArray)
    ·have g2:=B8 c2
     by_cases c3:w.length≤7
     ·have g3:decide ((w.length:Int)≤7)=true:=decide_eq_true z_
      by_cases c4:w.length≥6
      ·have g4:decide ((w.length:Int)≥6)=true:=decide_eq_true z_
       have hn4:(4:Int).toNat<w.length:=by show 4<_;omega
       have hx4:wdT w 4=w[(4:Int).toNat]'hn4:=Ce z_
       by_cases c5:w[(4:Int).toNat]'hn4=accessT
       ·have g5:(!(w[(4:Int).toNat]'hn4 == (⟨#[97,99,99,101,115,115]⟩:ByteArray)))=false:=Hc c5
        refine T ?_
        refine C q0 F245 ?_
        refine Ah 4 (Bj lineZ) Y (.cons (.refl _) (.cons (.refl _) (.cons (.refl _) (.cons (.refl _) (.cons (.refl _) (.cons (.refl _) (.cons (.refl _) (.cons (.refl _) (.cons (.refl _) (.cons (.refl _) (.cons (.refl _) (.cons (.refl _) (.cons (.refl _) (.cons .nil (.cons .nil (.cons .nil (.cons .nil .nil))))))))))))))))) ?_
        refine T ?_
        exact D
       ·have g5:(!(w[(4:Int).toNat]'hn4 == (⟨#[97,99,99,101,115,115]⟩:ByteArray)))=true:=Kl c5
        by_cases c6:w[(4:Int).toNat]'hn4=trunkT
        ·have g6:(!(w[(4:Int).toNat]'hn4 == (⟨#[116,114,117,110,107]⟩:ByteArray)))=false:=Hc c6
         refine T ?_
         refine C q0 F245 ?_
         refine Ah 4 (Bj lineZ) Y (.cons (.refl _) (.cons (.refl _) (.cons (.refl _) (.cons (.refl _) (.cons (.refl _) (.cons (.refl _) (.cons (.refl _) (.cons (.refl _) (.cons (.refl _) (.cons (.refl _) (.cons (.refl _) (.cons (.refl _) (.cons (.refl _) (.cons .nil (.cons .nil (.cons .nil (.cons .nil .nil))))))))))))))))) ?_
         refine T ?_
         exact D
        ·exact absurd hbad (hport (by rw[hx0];exact c2) c4 c3 (by rw[hx4];exact c5) (by rw[hx4];exact c6))
      ·have g4:decide ((w.length:Int)≥6)=false:=decide_eq_false z_
       refine T ?_
       refine C q0 F245 ?_
       refine Ah 4 (Bj lineZ) Y (.cons (.refl _) (.cons (.refl _) (.cons (.refl _) (.cons (.refl _) (.cons (.refl _) (.cons (.refl _) (.cons (.refl _) (.cons (.refl _) (.cons (.refl _) (.cons (.refl _) (.cons (.refl _) (.cons (.refl _) (.cons (.refl _) (.cons .nil (.cons .nil (.cons .nil (.cons .nil .nil))))))))))))))))) ?_
       refine T ?_
       exact D
     ·have g3:decide ((w.length:Int)≤7)=false:=decide_eq_false z_
      refine T ?_
      refine C q0 F245 ?_
      refine Ah 4 (Bj lineZ) Y (.cons (.refl _) (.cons (.refl _) (.cons (.refl _) (.cons (.refl _) (.cons (.refl _) (.cons (.refl _) (.cons (.refl _) (.cons (.refl _) (.cons (.refl _) (.cons (.refl _) (.cons (.refl _) (.cons (.refl _) (.cons (.refl _) (.cons .nil (.cons .nil (.cons .nil (.cons .nil .nil))))))))))))))))) ?_
      refine T ?_
      exact D
    ·have g2:=Cu c2
     refine T ?_
     refine C q0 F245 ?_
     refine Ah 4 (Bj lineZ) Y (.cons (.refl _) (.cons (.refl _) (.cons (.refl _) (.cons (.refl _) (.cons (.refl _) (.cons (.refl _) (.cons (.refl _) (.cons (.refl _) (.cons (.refl _) (.cons (.refl _) (.cons (.refl _) (.cons (.refl _) (.cons (.refl _) (.cons .nil (.cons .nil (.cons .nil (.cons .nil .nil))))))))))))))))) ?_
     refine T ?_
     exact D
   ·have g1:decide ((w.length:Int)>4)=false:=decide_eq_false z_
    refine T ?_
    refine C q0 F245 ?_
    refine Ah 4 (Bj lineZ) Y (.cons (.refl _) (.cons (.refl _) (.cons (.refl _) (.cons (.refl _) (.cons (.refl _) (.cons (.refl _) (.cons (.refl _) (.cons (.refl _) (.cons (.refl _) (.cons (.refl _) (.cons (.refl _) (.cons (.refl _) (.cons (.refl _) (.cons .nil (.cons .nil (.cons .nil (.cons .nil .nil))))))))))))))))) ?_
    refine T ?_
    exact D
  ·have f0:(mkT (formD w) == (⟨#[]⟩:ByteArray))=false:=Cu (fun e=>hf0 (by have:=congrArg (fun b:ByteArray=>b.data.toList) e;simpa [mkT] using this))
   have f1:((w.length:Int) != ((mkT (formD w)).size:Int)+1)=true:=by rw[bne_iff_ne];have:=hbad.resolve_left hf0;omega
   generalize formD w=f at *
   by_cases c1:w.length>4
   ·have g1:decide ((w.length:Int)>4)=true:=decide_eq_true z_
    have hn0:(0:Int).toNat<w.length:=by show 0<_;omega
    have hx0:wdT w 0=w[(0:Int).toNat]'hn0:=Ce z_
    by_cases c2:w[(0:Int).toNat]'hn0=(⟨#[112,111,114,116]⟩:ByteArray)
    ·have g2:=B8 c2
     by_cases c3:w.length≤7
     ·have g3:decide ((w.length:Int)≤7)=true:=decide_eq_true z_
      by_cases c4:w.length≥6
      ·have g4:decide ((w.length:Int)≥6)=true:=decide_eq_true z_
       have hn4:(4:Int).toNat<w.length:=by show 4<_;omega
       have hx4:wdT w 4=w[(4:Int).toNat]'hn4:=Ce z_
       by_cases c5:w[(4:Int).toNat]'hn4=accessT
       ·have g5:(!(w[(4:Int).toNat]'hn4 == (⟨#[97,99,99,101,115,115]⟩:ByteArray)))=false:=Hc c5
        refine T ?_
        refine C q0 F245 ?_
        refine Ah 4 (Bj lineZ) Y (.cons (.refl _) (.cons (.refl _) (.cons (.refl _) (.cons (.refl _) (.cons (.refl _) (.cons (.refl _) (.cons (.refl _) (.cons (.refl _) (.cons (.refl _) (.cons (.refl _) (.cons (.refl _) (.cons (.refl _) (.cons (.refl _) (.cons .nil (.cons .nil (.cons .nil (.cons .nil .nil))))))))))))))))) ?_
        refine T ?_
        exact D
       ·have g5:(!(w[(4:Int).toNat]'hn4 == (⟨#[97,99,99,101,115,115]⟩:ByteArray)))=true:=Kl c5
        by_cases c6:w[(4:Int).toNat]'hn4=trunkT
        ·have g6:(!(w[(4:Int).toNat]'hn4 == (⟨#[116,114,117,110,107]⟩:ByteArray)))=false:=Hc c6
         refine T ?_
         refine C q0 F245 ?_
         refine Ah 4 (Bj lineZ) Y (.cons (.refl _) (.cons (.refl _) (.cons (.refl _) (.cons (.refl _) (.cons (.refl _) (.cons (.refl _) (.cons (.refl _) (.cons (.refl _) (.cons (.refl _) (.cons (.refl _) (.cons (.refl _) (.cons (.refl _) (.cons (.refl _) (.cons .nil (.cons .nil (.cons .nil (.cons .nil .nil))))))))))))))))) ?_
         refine T ?_
         exact D
        ·exact absurd hbad (hport (by rw[hx0];exact c2) c4 c3 (by rw[hx4];exact c5) (by rw[hx4];exact c6))
      ·have g4:decide ((w.length:Int)≥6)=false:=decide_eq_false z_
       refine T ?_
       refine C q0 F245 ?_
       refine Ah 4 (Bj lineZ) Y (.cons (.refl _) (.cons (.refl _) (.cons (.refl _) (.cons (.refl _) (.cons (.refl _) (.cons (.refl _) (.cons (.refl _) (.cons (.refl _) (.cons (.refl _) (.cons (.refl _) (.cons (.refl _) (.cons (.refl _) (.cons (.refl _) (.cons .nil (.cons .nil (.cons .nil (.cons .nil .nil))))))))))))))))) ?_
       refine T ?_
       exact D
     ·have g3:decide ((w.length:Int)≤7)=false:=decide_eq_false z_
      refine T ?_
      refine C q0 F245 ?_
      refine Ah 4 (Bj lineZ) Y (.cons (.refl _) (.cons (.refl _) (.cons (.refl _) (.cons (.refl _) (.cons (.refl _) (.cons (.refl _) (.cons (.refl _) (.cons (.refl _) (.cons (.refl _) (.cons (.refl _) (.cons (.refl _) (.cons (.refl _) (.cons (.refl _) (.cons .nil (.cons .nil (.cons .nil (.cons .nil .nil))))))))))))))))) ?_
      refine T ?_
      exact D
    ·have g2:=Cu c2
     refine T ?_
     refine C q0 F245 ?_
     refine Ah 4 (Bj lineZ) Y (.cons (.refl _) (.cons (.refl _) (.cons (.refl _) (.cons (.refl _) (.cons (.refl _) (.cons (.refl _) (.cons (.refl _) (.cons (.refl _) (.cons (.refl _) (.cons (.refl _) (.cons (.refl _) (.cons (.refl _) (.cons (.refl _) (.cons .nil (.cons .nil (.cons .nil (.cons .nil .nil))))))))))))))))) ?_
     refine T ?_
     exact D
   ·have g1:decide ((w.length:Int)>4)=false:=decide_eq_false z_
    refine T ?_
    refine C q0 F245 ?_
    refine Ah 4 (Bj lineZ) Y (.cons (.refl _) (.cons (.refl _) (.cons (.refl _) (.cons (.refl _) (.cons (.refl _) (.cons (.refl _) (.cons (.refl _) (.cons (.refl _) (.cons (.refl _) (.cons (.refl _) (.cons (.refl _) (.cons (.refl _) (.cons (.refl _) (.cons .nil (.cons .nil (.cons .nil (.cons .nil .nil))))))))))))))))) ?_
    refine T ?_
    exact D
 ·have hb2:=hbad
  simp only[not_or,ne_eq,Decidable.not_not]at hb2
  obtain ⟨hf0,hl⟩:=hb2
  have f0:(mkT (formD w) == (⟨#[]⟩:ByteArray))=false:=Cu (fun e=>hf0 (by have:=congrArg (fun b:ByteArray=>b.data.toList) e;simpa [mkT] using this))
  have f1:((w.length:Int) != ((mkT (formD w)).size:Int)+1)=false:=by rw[bne_eq_false_iff_eq];omega
  have hin:=An1 w
  have hrd:=readD.eq_1 w row
  rw[if_neg hbad]at hrd
  generalize readD w row=res at *
  have hn0:(0:Int).toNat<w.length:=by show 0<_;omega
  have qk:=Amk (w[(0:Int).toNat]'hn0)
  have hx0:w[(0:Int).toNat]'hn0=wdT w 0:=(Ce z_).symm
  rw[show kindL (w[(0:Int).toNat]'hn0)=kindL (wdT w 0) by rw[hx0]]at qk
  clear hport hbad
  generalize kindL (wdT w 0)=kd at *
  generalize formD w=f at *
  refine T ?_
  refine C q0 F245 ?_
  refine Ah 4 (Bj lineZ) Y (.cons (.refl _) (.cons (.refl _) (.cons (.refl _) (.cons (.refl _) (.cons (.refl _) (.cons (.refl _) (.cons (.refl _) (.cons (.refl _) (.cons (.refl _) (.cons (.refl _) (.cons (.refl _) (.cons (.refl _) (.cons (.refl _) (.cons .nil (.cons .nil (.cons .nil (.cons .nil .nil))))))))))))))))) ?_
  refine T ?_
  refine C qk F246 ?_
  refine Ah 7 (Bj (Js row kd)) Y (.cons (.refl _) (.cons (.refl _) (.cons (.refl _) (.cons (.refl _) (.cons (.refl _) (.cons (.refl _) (.cons (.refl _) (.cons (.refl _) (.cons (.refl _) (.cons (.refl _) (.cons (.refl _) (.cons (.refl _) (.cons (.refl _) (.cons .nil (.cons .nil (.cons .nil (.cons .nil .nil))))))))))))))))) ?_
  refine T ?_
  refine At (fun x:Nat × Nat × LineM=>x.1≤f.length∧x.2.1≤x.1∧x.2.2.kind=kd∧x.2.2.tagged.length≤16∧De f (w.drop 1) 0 (Js row kd)=De (f.drop x.1) (w.drop (x.1+1)) x.2.1 x.2.2)
   (fun x=>[(0,.sl 1 Ae w),(4,.ptr 1001 0),(6,Ae (mkT f)),(7,.ptr 1002 0),(8,Aa x.2.1),(9,Aa x.1)]) (fun x=>[(1001,.box (Bj lineZ)),(1002,.box (Bj x.2.2))]) (fun x=>f.length-x.1) (0,0,Js row kd) [(1001,4),(1002,7)] ⟨by simp,by simp,rfl,by simp[Js],by simp⟩ U ?_
  rintro ⟨i,n,l⟩ ⟨h1,h2,h3,h4,hI⟩
  dsimp only at h1 h2 h3 h4 hI ⊢
  have hI0:=hI
  rw[hI]at hrd
  clear hI
  refine T ?_
  refine⟨fun h=>?_,fun h=>?_⟩
  ·have hlt:i<f.length:=qA h
   clear h
   have hbi:Af (mkT f) ((i:Nat):Int).toNat=f[i]:=by
    have:i<(mkT f).data.toList.length:=by rw[Bo];exact hlt
    rw[Int.toNat_natCast,Ew this];simp[mkT]
   have hlw:((i:Int)+1).toNat<w.length:=by omega
   have hwi:w[i+1]'z_=w[((i:Int)+1).toNat]'hlw:=by
    have e:((i:Int)+1).toNat=i+1:=by omega
    simp only[e]
   have hfk:=hin _ (List.getElem_mem hlt)
   rw[← hbi]at hfk
   have q:=Ami (Af (mkT f) ((i:Nat):Int).toNat) (w[((i:Int)+1).toNat]'hlw) n l (hs _ (List.getElem_mem hlw)) hfk
   have hkd:=Ae5 (Af (mkT f) ((i:Nat):Int).toNat) (w[((i:Int)+1).toNat]'hlw) n l hfk
   rw[List.drop_eq_getElem_cons hlt,List.drop_eq_getElem_cons (by omega:i+1<w.length),De,hwi,← hbi]at hrd hI0
   have hlm:((i:Nat):Int).toNat<(mkT f).size:=by rw[hms];show i<_;exact hlt
   generalize Bp (Af (mkT f) ((i:Nat):Int).toNat) (w[((i:Int)+1).toNat]'hlw) n l=r at *
   obtain ⟨l2,e⟩:=r
   dsimp only at hrd hkd q hI0
   by_cases he:e≠0
   ·have g1:(e != 0)=true:=by rw[bne_iff_ne];exact he
    rw[if_pos he]at hrd
    dsimp only at hrd
    rw[if_pos he]at hrd
    subst hrd
    refine T ?_
    refine Xd (Ag [(0,1002)] Y F247 q Y W Y V) ?_
    refine T ?_
    refine Ah 1001 (Bj lineZ) Y (.cons (.refl _) (.cons (.refl _) (.cons (.refl _) (.cons (.refl _) (.cons (.refl _) (.cons (.refl _) (.cons (.refl _) (.cons (.refl _) (.cons (.refl _) (.cons (.refl _) (.cons (.refl _) (.cons (.refl _) (.cons (.refl _) (.cons .nil (.cons .nil (.cons .nil (.cons .nil .nil))))))))))))))))) ?_
    refine T ?_
    exact D
   ·have g1:(e != 0)=false:=by rw[bne_eq_false_iff_eq];omega
    rw[if_neg he]at hrd hI0
    by_cases k78:Af (mkT f) ((i:Nat):Int).toNat=78
    ·have g2:(((Af (mkT f) ((i:Nat):Int).toNat).toNat:Int) == 78)=true:=by rw[k78];rfl
     rw[if_pos k78]at hrd hI0
     refine T ?_
     refine Xd (Ag [(0,1002)] Y F247 q Y W Y V) ?_
     refine T ?_
     exact Ad (i+1,n+1,l2) [] ⟨hlt,by dsimp only;omega,by dsimp only;rw[hkd.1];exact h3,hkd.2 h4,hI0⟩ (by dsimp only;omega) U
    ·have g2:(((Af (mkT f) ((i:Nat):Int).toNat).toNat:Int) == 78)=false:=by
      rw[beq_eq_false_iff_ne]
      intro e
      exact k78 (UInt8.toNat_inj.1 (by show _=78;omega))
     rw[if_neg k78]at hrd hI0
     refine T ?_
     refine Xd (Ag [(0,1002)] Y F247 q Y W Y V) ?_
     refine T ?_
     exact Ad (i+1,n,l2) [] ⟨hlt,by dsimp only;omega,by dsimp only;rw[hkd.1];exact h3,hkd.2 h4,hI0⟩ (by dsimp only;omega) U
  ·have hie:i=f.length:=qB h
   clear h
   rw[hie,List.drop_length]at hrd
   have e:∀ W n l,De [] W n l=(l,0):=fun W n l=>by rw[De]
   rw[e]at hrd
   dsimp only at hrd
   rw[if_neg qe]at hrd
   have q:=Ac8 l z_
   by_cases hk2:kd=2
   ·have g1:(l.kind == 2)=true:=by rw[beq_iff_eq];omega
    cases hb:membersB l.vlan l.tagged with
    | true =>
     rw[hb,if_neg qe]at hrd
     rw[hb]at q
     subst hrd
     refine T ?_
     refine C q F248 ?_
     exact D
    | false =>
     rw[hb,if_pos ⟨hk2,rfl⟩]at hrd
     rw[hb]at q
     subst hrd
     refine T ?_
     refine C q F248 ?_
     refine Ah 1001 (Bj lineZ) Y (.cons (.refl _) (.cons (.refl _) (.cons (.refl _) (.cons (.refl _) (.cons (.refl _) (.cons (.refl _) (.cons (.refl _) (.cons (.refl _) (.cons (.refl _) (.cons (.refl _) (.cons (.refl _) (.cons (.refl _) (.cons (.refl _) (.cons .nil (.cons .nil (.cons .nil (.cons .nil .nil))))))))))))))))) ?_
     refine T ?_
     exact D
   ·have g1:(l.kind == 2)=false:=by rw[beq_eq_false_iff_ne];omega
    rw[if_neg (fun h=>hk2 h.1)]at hrd
    subst hrd
    refine T ?_
    exact D
theorem Ud (l:List Int) (hl:l.length≤1000000):Sy.Spec Tryz.prog 42 [.sl 1 Aa l,.sl 1 Aa l] [] (Ab true) []:=cT F42 Tryz.ntmps42 fun F hF=>by
 have f0:((l.length:Int) != (l.length:Int))=false:=by simp
 refine T ?_
 refine At (fun j:Nat=>j≤l.length) (fun j=>[(0,.sl 1 Aa l),(1,.sl 1 Aa l),(5,Aa j)]) (fun _=>[]) (fun j=>l.length-j) 0 [] qe U ?_
 intro j hj
 refine T ?_
 refine⟨fun h2=>?_,fun h2=>?_⟩
 ·have hlt:j<l.length:=by have:=of_decide_eq_true h2;omega
  have hlt0:((j:Nat):Int).toNat<l.length:=hlt
  clear h2
  have f1:(l[((j:Nat):Int).toNat]'hlt0 != l[((j:Nat):Int).toNat]'hlt0)=false:=by simp
  refine T ?_
  exact Ad (j+1) [] hlt z_ U
 ·refine T ?_
  exact D
theorem Agc (l:List Int) (hl:l.length≤1000000):Sy.Spec Tryz.prog 43 [.sl 1 A3 l,.sl 1 A3 l] [] (Ab true) []:=cT F43 Tryz.ntmps43 fun F hF=>by
 have f0:((l.length:Int) != (l.length:Int))=false:=by simp
 refine T ?_
 refine At (fun j:Nat=>j≤l.length) (fun j=>[(0,.sl 1 A3 l),(1,.sl 1 A3 l),(5,Aa j)]) (fun _=>[]) (fun j=>l.length-j) 0 [] qe U ?_
 intro j hj
 refine T ?_
 refine⟨fun h2=>?_,fun h2=>?_⟩
 ·have hlt:j<l.length:=by have:=of_decide_eq_true h2;omega
  have hlt0:((j:Nat):Int).toNat<l.length:=hlt
  clear h2
  have f1:(l[((j:Nat):Int).toNat]'hlt0 != l[((j:Nat):Int).toNat]'hlt0)=false:=by simp
  refine T ?_
  exact Ad (j+1) [] hlt z_ U
 ·refine T ?_
  exact D
theorem Agr (a:LineM) (h:LineFin a):Sy.Spec Tryz.prog 357 [Am a,Am a] [] (Ab true) []:=cT F357 Tryz.ntmps357 fun F hF=>by
 have z1:=h.t;have z2:=h.i;have z3:=h.e;have z4:=h.a
 have f1:(a.row == a.row)=true:=by simp
 have f2:(a.kind == a.kind)=true:=by simp
 have f3:(a.dev == a.dev)=true:=by simp
 have f4:(a.port == a.port)=true:=by simp
 have f5:(a.peer == a.peer)=true:=by simp
 have f6:(a.far == a.far)=true:=by simp
 have f7:(a.name == a.name)=true:=by simp
 have f8:(a.mac == a.mac)=true:=by simp
 have f9:(a.addr == a.addr)=true:=by simp
 have f10:(a.bits == a.bits)=true:=by simp
 have f11:(a.vlan == a.vlan)=true:=by simp
 have f12:(a.num == a.num)=true:=by simp
 have f13:(a.cost == a.cost)=true:=by simp
 refine T ?_
 refine C (Ud a.tagged z_) F42 ?_
 refine C (Ud a.imports z_) F42 ?_
 refine C (Ud a.exports z_) F42 ?_
 refine C (Agc a.addrs z_) F43 ?_
 exact D
theorem Cb {l:List Int} {hi:Int} (h:Dr l hi=true):l.length≤16∧∀ x∈l,0≤x∧x≤hi:=by
 rcases listOK_iff.1 h with e | e
 ·subst e;simp
 ·obtain ⟨_,b,_,d⟩:=rising_iff.1 e
  exact⟨d,fun x hx=>⟨by have:=(b x hx).1;omega,(b x hx).2⟩⟩
theorem Ug (l:List Int) (hl:l.length≤16) (hw:∀ x∈l,0≤x∧x≤65535):Sy.Spec Tryz.prog 417 [.sl 1 Aa l] [] (Ae (Dz l)) []:=cT F417 Tryz.ntmps417 fun F hF=>by
 have q:=Ac3 l z_ fun x hx=>⟨(hw x hx).1,by have:=(hw x hx).2;omega⟩
 rw[Dz]
 by_cases h0:l.length=0
 ·have f:((l.length:Int) == 0)=true:=by rw[beq_iff_eq];omega
  rw[if_pos (List.length_eq_zero_iff.1 h0)]
  refine T ?_
  exact D
 ·have f:((l.length:Int) == 0)=false:=by rw[beq_eq_false_iff_ne];omega
  rw[if_neg (fun e=>h0 (by rw[e];rfl))]
  refine T ?_
  refine C q F443 ?_
  exact D
theorem Lw {n:Int} (h0:0≤n) (h1:n<1000000000):Sy.Spec Tryz.prog 372 [Aa n] [] (Ae (Be n)) []:=by
 obtain ⟨m,rfl⟩:∃ m:Nat,n=m:=⟨n.toNat,by omega⟩
 exact Kt m z_
theorem Aa9 {n:Int} (h:0≤n∧n<18446744073709551616):Sy.Spec Tryz.prog 373 [B4 n] [] (Ae (Ba n)) []:=by
 obtain ⟨m,rfl⟩:∃ m:Nat,n=m:=⟨n.toNat,by omega⟩
 exact Aig m z_
theorem addr3 {n:Int} (h:0≤n∧n<4294967296):Sy.Spec Tryz.prog 418 [A3 n] [] (Ae (Cp n)) []:=by
 obtain ⟨m,rfl⟩:∃ m:Nat,n=m:=⟨n.toNat,by omega⟩
 exact Lr m z_
theorem Apd {n b:Int} (h:0≤n∧n<4294967296) (hb:0≤b∧b≤32):Sy.Spec Tryz.prog 420 [Dn n b] [] (Ae (D4 n b)) []:=by
 obtain ⟨m,rfl⟩:∃ m:Nat,n=m:=⟨n.toNat,by omega⟩
 exact Yq m b z_ hb
theorem Agp (l:LineM) (h:LineR l) (hk:l.kind=1):Sy.Spec Tryz.prog 356 [Am l] [] (.sl 1 Ae (A0 l)) []:=cT F356 Tryz.ntmps356 fun F hF=>by
 have qv:=Lw h.vlan.1 (by have:=h.vlan.2;omega)
 have qn:=Lw h.num.1 (by have:=h.num.2;omega)
 have qm:=Aa9 h.ok.mac
 have hwo:A0 l=[(⟨#[100,101,118,105,99,101]⟩:ByteArray),l.dev,Be l.num,Ba l.mac]:=by
  simp only[A0,hk]
  rfl
 rw[hwo]
 have f1:(l.kind == 1)=true:=by rw[hk];rfl
 clear hk hwo h
 generalize Be l.vlan=vv at *
 generalize Be l.num=nn at *
 generalize Ba l.mac=mm at *
 refine T ?_
 refine C qv F372 ?_
 refine C qn F372 ?_
 refine C qm F373 ?_
 refine Hj 24 Ae [(⟨#[100,101,118,105,99,101]⟩:ByteArray),l.dev,nn,mm] Y Y ?_
 refine Ac 24 Y ?_
 refine T ?_
 exact D
theorem Agn (l:LineM) (h:LineR l) (hk:l.kind=3):Sy.Spec Tryz.prog 356 [Am l] [] (.sl 1 Ae (A0 l)) []:=cT F356 Tryz.ntmps356 fun F hF=>by
 have qv:=Lw h.vlan.1 (by have:=h.vlan.2;omega)
 have qn:=Lw h.num.1 (by have:=h.num.2;omega)
 have qm:=Aa9 h.ok.mac
 have hwo:A0 l=[(⟨#[108,105,110,107]⟩:ByteArray),l.dev,l.port,l.peer,l.far]:=by
  simp only[A0,hk]
  rfl
 rw[hwo]
 have f1:(l.kind == 1)=false:=by rw[hk];rfl
 have f2:(l.kind == 2)=false:=by rw[hk];rfl
 have f3:(l.kind == 3)=true:=by rw[hk];rfl
 clear hk hwo h
 generalize Be l.vlan=vv at *
 generalize Be l.num=nn at *
 generalize Ba l.mac=mm at *
 refine T ?_
 refine C qv F372 ?_
 refine C qn F372 ?_
 refine C qm F373 ?_
 refine Hj 64 Ae [(⟨#[108,105,110,107]⟩:ByteArray),l.dev,l.port,l.peer,l.far] Y Y ?_
 refine Ac 64 Y ?_
 refine T ?_
 exact D
theorem Agm (l:LineM) (h:LineR l) (hk:l.kind=4):Sy.Spec Tryz.prog 356 [Am l] [] (.sl 1 Ae (A0 l)) []:=cT F356 Tryz.ntmps356 fun F hF=>by
 have qv:=Lw h.vlan.1 (by have:=h.vlan.2;omega)
 have qn:=Lw h.num.1 (by have:=h.num.2;omega)
 have qm:=Aa9 h.ok.mac
 have hwo:A0 l=[(⟨#[115,116,97,116,105,99]⟩:ByteArray),l.dev,Be l.vlan,Ba l.mac,l.port]:=by
  simp only[A0,hk]
  rfl
 rw[hwo]
 have f1:(l.kind == 1)=false:=by rw[hk];rfl
 have f2:(l.kind == 2)=false:=by rw[hk];rfl
 have f3:(l.kind == 3)=false:=by rw[hk];rfl
 have f4:(l.kind == 4)=true:=by rw[hk];rfl
 clear hk hwo h
 generalize Be l.vlan=vv at *
 generalize Be l.num=nn at *
 generalize Ba l.mac=mm at *
 refine T ?_
 refine C qv F372 ?_
 refine C qn F372 ?_
 refine C qm F373 ?_
 refine Hj 73 Ae [(⟨#[115,116,97,116,105,99]⟩:ByteArray),l.dev,vv,mm,l.port] Y Y ?_
 refine Ac 73 Y ?_
 refine T ?_
 exact D
theorem Agl (l:LineM) (h:LineR l) (hk:l.kind=5):Sy.Spec Tryz.prog 356 [Am l] [] (.sl 1 Ae (A0 l)) []:=cT F356 Tryz.ntmps356 fun F hF=>by
 have qv:=Lw h.vlan.1 (by have:=h.vlan.2;omega)
 have qn:=Lw h.num.1 (by have:=h.num.2;omega)
 have qm:=Aa9 h.ok.mac
 have q0:=addr3 h.ok.addr
 have hwo:A0 l=[(⟨#[118,116,101,112]⟩:ByteArray),l.dev,Cp l.addr]:=by
  simp only[A0,hk]
  rfl
 rw[hwo]
 have f1:(l.kind == 1)=false:=by rw[hk];rfl
 have f2:(l.kind == 2)=false:=by rw[hk];rfl
 have f3:(l.kind == 3)=false:=by rw[hk];rfl
 have f4:(l.kind == 4)=false:=by rw[hk];rfl
 have f5:(l.kind == 5)=true:=by rw[hk];rfl
 clear hk hwo h
 generalize Be l.vlan=vv at *
 generalize Be l.num=nn at *
 generalize Ba l.mac=mm at *
 generalize Cp l.addr=aa at *
 refine T ?_
 refine C qv F372 ?_
 refine C qn F372 ?_
 refine C qm F373 ?_
 refine C q0 F418 ?_
 refine Hj 81 Ae [(⟨#[118,116,101,112]⟩:ByteArray),l.dev,aa] Y Y ?_
 refine Ac 81 Y ?_
 refine T ?_
 exact D
theorem Agk (l:LineM) (h:LineR l) (hk:l.kind=6):Sy.Spec Tryz.prog 356 [Am l] [] (.sl 1 Ae (A0 l)) []:=cT F356 Tryz.ntmps356 fun F hF=>by
 have qv:=Lw h.vlan.1 (by have:=h.vlan.2;omega)
 have qn:=Lw h.num.1 (by have:=h.num.2;omega)
 have qm:=Aa9 h.ok.mac
 have hwo:A0 l=[(⟨#[118,110,105]⟩:ByteArray),l.dev,Be l.vlan,Be l.num]:=by
  simp only[A0,hk]
  rfl
 rw[hwo]
 have f1:(l.kind == 1)=false:=by rw[hk];rfl
 have f2:(l.kind == 2)=false:=by rw[hk];rfl
 have f3:(l.kind == 3)=false:=by rw[hk];rfl
 have f4:(l.kind == 4)=false:=by rw[hk];rfl
 have f5:(l.kind == 5)=false:=by rw[hk];rfl
 have f6:(l.kind == 6)=true:=by rw[hk];rfl
 clear hk hwo h
 generalize Be l.vlan=vv at *
 generalize Be l.num=nn at *
 generalize Ba l.mac=mm at *
 refine T ?_
 refine C qv F372 ?_
 refine C qn F372 ?_
 refine C qm F373 ?_
 refine Hj 88 Ae [(⟨#[118,110,105]⟩:ByteArray),l.dev,vv,nn] Y Y ?_
 refine Ac 88 Y ?_
 refine T ?_
 exact D
theorem Agj (l:LineM) (h:LineR l) (hk:l.kind=7):Sy.Spec Tryz.prog 356 [Am l] [] (.sl 1 Ae (A0 l)) []:=cT F356 Tryz.ntmps356 fun F hF=>by
 have qv:=Lw h.vlan.1 (by have:=h.vlan.2;omega)
 have qn:=Lw h.num.1 (by have:=h.num.2;omega)
 have qm:=Aa9 h.ok.mac
 have q0:=Aas l.addrs (by have:=h.addrs;omega) h.ok.addrs
 have hwo:A0 l=[(⟨#[102,108,111,111,100]⟩:ByteArray),l.dev,Be l.num,D7 l.addrs]:=by
  simp only[A0,hk]
  rfl
 rw[hwo]
 have f1:(l.kind == 1)=false:=by rw[hk];rfl
 have f2:(l.kind == 2)=false:=by rw[hk];rfl
 have f3:(l.kind == 3)=false:=by rw[hk];rfl
 have f4:(l.kind == 4)=false:=by rw[hk];rfl
 have f5:(l.kind == 5)=false:=by rw[hk];rfl
 have f6:(l.kind == 6)=false:=by rw[hk];rfl
 have f7:(l.kind == 7)=true:=by rw[hk];rfl
 clear hk hwo h
 generalize Be l.vlan=vv at *
 generalize Be l.num=nn at *
 generalize Ba l.mac=mm at *
 generalize D7 l.addrs=aa at *
 refine T ?_
 refine C qv F372 ?_
 refine C qn F372 ?_
 refine C qm F373 ?_
 refine C q0 F419 ?_
 refine Hj 97 Ae [(⟨#[102,108,111,111,100]⟩:ByteArray),l.dev,nn,aa] Y Y ?_
 refine Ac 97 Y ?_
 refine T ?_
 exact D
theorem Agi (l:LineM) (h:LineR l) (hk:l.kind=8):Sy.Spec Tryz.prog 356 [Am l] [] (.sl 1 Ae (A0 l)) []:=cT F356 Tryz.ntmps356 fun F hF=>by
 have qv:=Lw h.vlan.1 (by have:=h.vlan.2;omega)
 have qn:=Lw h.num.1 (by have:=h.num.2;omega)
 have qm:=Aa9 h.ok.mac
 have q0:=Ug l.imports (Cb h.imports).1 (fun x hx=>(Cb h.imports).2 x hx)
 have q1:=Ug l.exports (Cb h.exports).1 (fun x hx=>(Cb h.exports).2 x hx)
 have hwo:A0 l=[(⟨#[118,114,102]⟩:ByteArray),l.dev,l.name,Dz l.imports,Dz l.exports]:=by
  simp only[A0,hk]
  rfl
 rw[hwo]
 have f1:(l.kind == 1)=false:=by rw[hk];rfl
 have f2:(l.kind == 2)=false:=by rw[hk];rfl
 have f3:(l.kind == 3)=false:=by rw[hk];rfl
 have f4:(l.kind == 4)=false:=by rw[hk];rfl
 have f5:(l.kind == 5)=false:=by rw[hk];rfl
 have f6:(l.kind == 6)=false:=by rw[hk];rfl
 have f7:(l.kind == 7)=false:=by rw[hk];rfl
 have f8:(l.kind == 8)=true:=by rw[hk];rfl
 clear hk hwo h
 generalize Be l.vlan=vv at *
 generalize Be l.num=nn at *
 generalize Ba l.mac=mm at *
 generalize Dz l.imports=ii at *
 generalize Dz l.exports=ee at *
 refine T ?_
 refine C qv F372 ?_
 refine C qn F372 ?_
 refine C qm F373 ?_
 refine C q0 F417 ?_
 refine C q1 F417 ?_
 refine Hj 110 Ae [(⟨#[118,114,102]⟩:ByteArray),l.dev,l.name,ii,ee] Y Y ?_
 refine Ac 110 Y ?_
 refine T ?_
 exact D
theorem Agh (l:LineM) (h:LineR l) (hk:l.kind=9):Sy.Spec Tryz.prog 356 [Am l] [] (.sl 1 Ae (A0 l)) []:=cT F356 Tryz.ntmps356 fun F hF=>by
 have qv:=Lw h.vlan.1 (by have:=h.vlan.2;omega)
 have qn:=Lw h.num.1 (by have:=h.num.2;omega)
 have qm:=Aa9 h.ok.mac
 have q0:=Apd h.ok.addr h.bits
 have hwo:A0 l=[(⟨#[105,114,98]⟩:ByteArray),l.dev,Be l.vlan,l.name,D4 l.addr l.bits]:=by
  simp only[A0,hk]
  rfl
 rw[hwo]
 have f1:(l.kind == 1)=false:=by rw[hk];rfl
 have f2:(l.kind == 2)=false:=by rw[hk];rfl
 have f3:(l.kind == 3)=false:=by rw[hk];rfl
 have f4:(l.kind == 4)=false:=by rw[hk];rfl
 have f5:(l.kind == 5)=false:=by rw[hk];rfl
 have f6:(l.kind == 6)=false:=by rw[hk];rfl
 have f7:(l.kind == 7)=false:=by rw[hk];rfl
 have f8:(l.kind == 8)=false:=by rw[hk];rfl
 have f9:(l.kind == 9)=true:=by rw[hk];rfl
 clear hk hwo h
 generalize Be l.vlan=vv at *
 generalize Be l.num=nn at *
 generalize Ba l.mac=mm at *
 generalize D4 l.addr l.bits=pp at *
 refine T ?_
 refine C qv F372 ?_
 refine C qn F372 ?_
 refine C qm F373 ?_
 refine C q0 F420 ?_
 refine Hj 124 Ae [(⟨#[105,114,98]⟩:ByteArray),l.dev,vv,l.name,pp] Y Y ?_
 refine Ac 124 Y ?_
 refine T ?_
 exact D
theorem Ago (l:LineM) (h:LineR l) (hk:l.kind=2):Sy.Spec Tryz.prog 356 [Am l] [] (.sl 1 Ae (A0 l)) []:=cT F356 Tryz.ntmps356 fun F hF=>by
 have qv:=Lw h.vlan.1 (by have:=h.vlan.2;omega)
 have qn:=Lw h.num.1 (by have:=h.num.2;omega)
 have qm:=Aa9 h.ok.mac
 have qc:=Lw h.cost.1 (by have:=h.cost.2;omega)
 have q0:=Ug l.tagged (Cb h.tagged).1 (fun x hx=>⟨((Cb h.tagged).2 x hx).1,by have:=((Cb h.tagged).2 x hx).2;omega⟩)
 have hwo:A0 l=Q4 l:=by
  simp only[A0,hk]
  rfl
 rw[hwo,Q4]
 have f1:(l.kind == 1)=false:=by rw[hk];rfl
 have f2:(l.kind == 2)=true:=by rw[hk];rfl
 clear hk hwo h
 by_cases h0:l.tagged.length=0
 ·have f0:((l.tagged.length:Int) == 0)=true:=by rw[h0];rfl
  rw[if_pos (List.eq_nil_of_length_eq_zero h0)]
  generalize Be l.vlan=vv at *
  generalize Be l.num=nn at *
  generalize Ba l.mac=mm at *
  generalize Be l.cost=cc at *
  refine T ?_
  refine C qv F372 ?_
  refine C qn F372 ?_
  refine C qm F373 ?_
  refine C qc F372 ?_
  refine Hj 40 Ae [(⟨#[112,111,114,116]⟩:ByteArray),l.dev,l.port,cc,accessT,vv] Y Y ?_
  refine Ac 40 Y ?_
  refine T ?_
  exact D
 ·have f0:((l.tagged.length:Int) == 0)=false:=by rw[beq_eq_false_iff_ne];omega
  rw[if_neg (fun e=>h0 (by rw[e];rfl))]
  by_cases hv:l.vlan=0
  ·have f3:(l.vlan == 0)=true:=beq_iff_eq.2 hv
   rw[if_pos hv]
   clear hv
   generalize Be l.vlan=vv at *
   generalize Be l.num=nn at *
   generalize Ba l.mac=mm at *
   generalize Be l.cost=cc at *
   generalize Dz l.tagged=tt at *
   refine T ?_
   refine C qv F372 ?_
   refine C qn F372 ?_
   refine C qm F373 ?_
   refine C qc F372 ?_
   refine C q0 F417 ?_
   refine Hj 53 Ae [(⟨#[112,111,114,116]⟩:ByteArray),l.dev,l.port,cc,trunkT,dash,tt] Y Y ?_
   refine Ac 53 Y ?_
   refine T ?_
   exact D
  ·have f3:(l.vlan == 0)=false:=beq_eq_false_iff_ne.2 hv
   rw[if_neg hv]
   clear hv
   generalize Be l.vlan=vv at *
   generalize Be l.num=nn at *
   generalize Ba l.mac=mm at *
   generalize Be l.cost=cc at *
   generalize Dz l.tagged=tt at *
   refine T ?_
   refine C qv F372 ?_
   refine C qn F372 ?_
   refine C qm F373 ?_
   refine C qc F372 ?_
   refine C q0 F417 ?_
   refine Hj 53 Ae [(⟨#[112,111,114,116]⟩:ByteArray),l.dev,l.port,cc,trunkT,vv,tt] Y Y ?_
   refine Ac 53 Y ?_
   refine T ?_
   exact D
theorem Acm {l:LineM} (h:B0 l=true):1≤l.kind∧l.kind≤9:=by
 rw[B0,Bool.and_eq_true]at h
 by_cases hh:l.kind=1∨l.kind=2∨l.kind=3∨l.kind=4∨l.kind=5∨l.kind=6∨l.kind=7∨l.kind=8∨l.kind=9
 ·omega
 ·simp only[not_or]at hh
  have:=h.1
  simp[A5,hh]at this
theorem Aju (l:LineM) (h:LineR l):Sy.Spec Tryz.prog 356 [Am l] [] (.sl 1 Ae (A0 l)) []:=by
 have hk:=Acm h.right
 have hc:l.kind=1∨l.kind=2∨l.kind=3∨l.kind=4∨l.kind=5∨l.kind=6∨l.kind=7∨l.kind=8∨l.kind=9:=by omega
 rcases hc with k | k | k | k | k | k | k | k | k
 ·exact Agp l h k
 ·exact Ago l h k
 ·exact Agn l h k
 ·exact Agm l h k
 ·exact Agl l h k
 ·exact Agk l h k
 ·exact Agj l h k
 ·exact Agi l h k
 ·exact Agh l h k
theorem Mn {l:List Int} {hi:Int} (h:Dr l hi=true) (hh:hi≤65535):(Dz l).size≤2000:=by
 obtain ⟨h1,h2⟩:=Cb h
 rw[Dz]
 split
 ·decide
 ·have h3:=Xt (l.map Be) comma
  have h4:=Wo (tx:=Be) l (fun x hx=>by have:=Ve (n:=x) ⟨by have:=(h2 x hx).1;omega,by have:=(h2 x hx).2;omega⟩;omega)
  have h5:comma.size=1:=rfl
  rw[List.length_map,h5]at h3
  rw[Ii];omega
theorem Ab6 {l:LineM} (h:LineR l):(A0 l).length≤7∧∀ x∈A0 l,x.size≤2000:=by
 have hd:=h.dev;have hp:=h.port;have hpe:=h.peer;have hf:=h.far;have hn:=h.name
 have w64:∀ {n:Int},0≤n→n≤100000000→(Be n).size≤22:=fun {n} a b=>Ve (n:=n) ⟨by omega,by omega⟩
 have nv:=w64 h.vlan.1 (by have:=h.vlan.2;omega)
 have nn:=w64 h.num.1 (by have:=h.num.2;omega)
 have nc:=w64 h.cost.1 (by have:=h.cost.2;omega)
 have s1:=Mn h.tagged y_
 have s2:=Mn h.imports y_
 have s3:=Mn h.exports y_
 have s4:(D7 l.addrs).size≤2000:=by
  have h1:=Xt (l.addrs.map Cp) comma
  have h2:=Wo (tx:=Cp) l.addrs (fun x _=>Jo x)
  have h3:comma.size=1:=rfl
  rw[List.length_map,h3]at h1
  have:=h.addrs
  rw[D7];omega
 have s5:(Ba l.mac).size≤2000:=by
  have:=Adv l.mac.toNat 6
  rw[Ba,Bs];omega
 have s6:(D4 l.addr l.bits).size≤2000:=by
  rw[D4]
  split
  ·have h1:=Jo l.addr
   have h2:=C4 2 l.bits.toNat z_
   rw[Bs,List.length_append,List.length_append,List.length_reverse]
   have:(Cp l.addr).data.toList.length=(Cp l.addr).size:=rfl
   simp;omega
  ·decide
 have s7:=Jo l.addr
 have z1:accessT.size=6:=rfl
 have z2:trunkT.size=5:=rfl
 have z3:dash.size=1:=rfl
 have lz:∀ a:Array UInt8,a.size≤20→(⟨a⟩:ByteArray).size≤2000:=fun a ha=>Nat.le_trans ha y_
 generalize e:A0 l=ws
 rw[A0,Q4]at e
 repeat' split at e
 all_goals subst e
 all_goals refine⟨by simp,?_⟩
 all_goals try simp only[List.forall_mem_cons]
 all_goals repeat' apply And.intro
 all_goals first | omega | (split<;>omega) | (exact lz _ y_) | (intro x hx;cases hx)
theorem LineR.fin {l:LineM} (h:LineR l):LineFin l:=⟨by have:=(Cb h.tagged).1;omega,by have:=(Cb h.imports).1;omega,by have:=(Cb h.exports).1;omega,by have:=h.addrs;omega⟩
theorem Aj8 (l:LineM) (h:LineR l):Sy.Spec Tryz.prog 292 [Am l] [] (Ab true) []:=cT F292 Tryz.ntmps292 fun F hF=>by
 have q1:=Aju l h
 have hz:=Ab6 h
 have q2:=Ac7 (A0 l) l.row z_ (fun s hs=>by have:=hz.2 s hs;omega)
 rw[Wz,Af4 h.ok h.right]at q2
 have q3:=Agr l h.fin
 have z1:=(Cb h.tagged).1
 have z2:=(Cb h.imports).1
 have z3:=(Cb h.exports).1
 have z4:=h.addrs
 have f1:decide ((l.tagged.length:Int)>16)=false:=decide_eq_false z_
 have f2:decide ((l.imports.length:Int)>16)=false:=decide_eq_false z_
 have f3:decide ((l.exports.length:Int)>16)=false:=decide_eq_false z_
 have f4:decide ((l.addrs.length:Int)>16)=false:=decide_eq_false z_
 clear h hz
 refine T ?_
 refine C q1 F356 ?_
 refine C q2 F149 ?_
 refine C q3 F357 ?_
 exact D
theorem Amh (b:List UInt8) (hb:b.length≤1000000):Sy.Spec Tryz.prog 45 [.sl 1 Bd b] [] (.tup [.sl 17 Am (textT b).1,Aa (textT b).2.1,Aa (textT b).2.2]) []:=cT F45 Tryz.ntmps45 fun F hF=>by
 have q1:=Amn b hb
 have hsm:=Ms b
 have hres:=textT.eq_1 b
 generalize textT b=res at *
 generalize rowsT b=rt at *
 obtain ⟨R,e0⟩:=rt
 dsimp only at hsm hres q1
 by_cases h0:e0≠0
 ·have f0:(e0 != 0)=true:=by rw[bne_iff_ne];exact h0
  rw[if_pos h0]at hres
  subst hres
  refine T ?_
  refine C q1 F147 ?_
  refine Cf 2 17 Am Y ?_
  refine T ?_
  exact D
 have f0:(e0 != 0)=false:=by rw[bne_eq_false_iff_eq];omega
 rw[if_neg h0]at hres
 clear h0
 refine T ?_
 refine C q1 F147 ?_
 refine Cm 7 1000 17 Am Y Y ?_
 refine T ?_
 refine At (fun x:Nat × List LineM=>x.1≤R.length∧x.2.length≤x.1∧res=Hu x.1 (R.drop x.1) x.2) (fun x=>[(5,.sl 1 Ae R),(7,.osl 1000),(8,Aa x.1)]) (fun x=>[(1000,.row 17 Am x.2)]) (fun x=>R.length-x.1) (0,[]) [] ⟨by simp,by simp,by simpa using hres⟩ U ?_
 clear hres
 rintro ⟨i,out⟩ ⟨h1,h2,hres⟩
 dsimp only at h1 h2 hres ⊢
 refine T ?_
 refine⟨fun h=>?_,fun h=>?_⟩
 ·have hlt:i<R.length:=qA h
  have hlt0:((i:Nat):Int).toNat<R.length:=hlt
  clear h
  have hRi:R[i]=R[((i:Nat):Int).toNat]'hlt0:=rfl
  have hrs:=hsm.2 _ (List.getElem_mem hlt0)
  have q2:=Aj9 (R[((i:Nat):Int).toNat]'hlt0) z_
  have hws:=Sk _ hrs
  rw[List.drop_eq_getElem_cons hlt,Hu,hRi]at hres
  generalize wordsT (R[((i:Nat):Int).toNat]'hlt0)=wt at *
  obtain ⟨ws,e⟩:=wt
  dsimp only at hws hres q2
  by_cases he:e≠0
  ·have g1:(e == 0)=false:=by rw[beq_eq_false_iff_ne];exact he
   have g2:(e != 0)=true:=by rw[bne_iff_ne];exact he
   rw[if_pos he]at hres
   subst hres
   refine T ?_
   refine C q2 F148 ?_
   refine Cf 2 17 Am Y ?_
   refine T ?_
   exact D
  have g1:(e == 0)=true:=by rw[beq_iff_eq];omega
  have g2:(e != 0)=false:=by rw[bne_eq_false_iff_eq];omega
  rw[if_neg he]at hres
  by_cases hw:ws=[]
  ·have g3:((ws.length:Int) == 0)=true:=by rw[hw];rfl
   rw[if_pos hw]at hres
   refine T ?_
   refine C q2 F148 ?_
   exact Ad (i+1,out) [] ⟨hlt,by dsimp only;omega,hres⟩ (by dsimp only;omega) U
  have hwl:0<ws.length:=by
   cases ws with
   | nil=>exact absurd rfl hw
   | cons=>simp
  have g3:((ws.length:Int) == 0)=false:=by rw[beq_eq_false_iff_ne];omega
  rw[if_neg hw]at hres
  have q3:=Ac7 ws ((i:Int)+1) z_ (fun s hs=>by have:=hws.2 s hs;omega)
  rw[Wz]at q3
  generalize Bt ws ((i:Int)+1)=st at *
  obtain ⟨l,e3⟩:=st
  dsimp only at hres q3
  by_cases h3:e3≠0
  ·have g4:(e3 != 0)=true:=by rw[bne_iff_ne];exact h3
   rw[if_pos h3]at hres
   subst hres
   refine T ?_
   refine C q2 F148 ?_
   refine C q3 F149 ?_
   refine Cf 2 17 Am Y ?_
   refine T ?_
   exact D
  ·have g4:(e3 != 0)=false:=by rw[bne_eq_false_iff_eq];omega
   rw[if_neg h3]at hres
   refine T ?_
   refine C q2 F148 ?_
   refine C q3 F149 ?_
   refine X (Ak Γ.toTy 59 Y Y Y Y Y (.row Y) (.lit (e:=Am) (l:=[l]) Y Y) qe (by simp only[List.length_singleton];omega) (by simp only[List.length_singleton];omega)) ?_
   exact Ad (i+1,out++[l]) [(1000,59)] ⟨hlt,by simp;omega,hres⟩ (by dsimp only;omega) U
 ·have hje:i=R.length:=qB h
  subst hje
  clear h
  rw[List.drop_length,Hu]at hres
  subst hres
  refine Ac 1000 Y ?_
  refine T ?_
  exact D
theorem LineR.f {l:LineM} (h:LineR l):LineF l :=
 ⟨h.fin,h.ok,by have:=h.dev;omega,by have:=h.port;omega,by have:=h.peer;omega,by have:=h.far;omega,by have:=h.name;omega⟩
end Go.Sy.YtjenpnjajjplkaaGreatDoor
namespace Go.Sy.YtjenpnjajjplkaaGreatDoor
open Go.Proofs
theorem Apn {n:Net} (h:(meshNT n).2.2=0):(meshNT n).1=D5 n∧(meshNT n).2.1=0∧Ai (D5 n)=true∧n.floods.find? (fun f=>!(agreesB n f))=none:=by
 rw[meshNT]at h ⊢
 split at h
 ·simp at h
 rename_i h1
 rw[if_neg h1]
 cases hf:n.floods.find? (fun f=>!(agreesB n f)) with
 | some f=>rw[hf]at h;simp at h
 | none =>
  rw[hf]at h
  dsimp only at h ⊢
  split at h
  ·simp at h
  rename_i h2
  rw[if_neg h2]
  exact⟨Y,Y,by simpa using h2,Y⟩
end Go.Sy.YtjenpnjajjplkaaGreatDoor
namespace Go.Sy.YtjenpnjajjplkaaGreatDoor
open Go.Proofs
attribute [local irreducible] Go.Sy.G Go.Sy.DR
set_option maxRecDepth 100000
set_option maxHeartbeats 4000000
def U0 (n:Net):Prop:=∀ d∈n.devices,0≤d.vtep
theorem Da:U0 emptyN:=fun d hd=>by cases hd
theorem Aka {n:Net} {l:LineM} (hv:U0 n) (hl:LineW l):U0 (putT n l).1:=by
 have same:∀ {m:Net},m.devices=n.devices→U0 m:=fun {m} h d hd=>hv d (by rw[← h];exact hd)
 rw[putT]
 split
 ·rw[putDevice]
  repeat' split
  all_goals (try exact Da)
  intro d hd
  rcases List.mem_append.1 hd with hd | hd
  ·exact hv d hd
  ·rw[List.mem_singleton.1 hd];exact Int.le_refl _
 split
 ·rw[putPort]
  repeat' split
  all_goals (first | exact Da | exact same rfl)
 split
 ·rw[putLink]
  dsimp only
  repeat' split
  all_goals (first | exact Da | exact same rfl)
 split
 ·rw[putStatic]
  dsimp only
  repeat' split
  all_goals (first | exact Da | exact same rfl)
 split
 ·rw[putVtep]
  dsimp only
  split
  ·exact Da
  split
  ·exact Da
  intro d hd
  have hd:d∈Q0 n.devices (begT n l 5).1 l.addr:=hd
  rcases Aa8 hd with h | h
  ·exact hv d h
  ·rw[h];exact hl.ok.addr.1
 split
 ·rw[putVni]
  dsimp only
  repeat' split
  all_goals (first | exact Da | exact same rfl)
 split
 ·rw[putFlood]
  dsimp only
  repeat' split
  all_goals (first | exact Da | exact same rfl)
 split
 ·rw[putVrf]
  dsimp only
  repeat' split
  all_goals (first | exact Da | exact same rfl)
 split
 ·rw[putIrb]
  dsimp only
  repeat' split
  all_goals (first | exact Da | exact same rfl)
 exact Da
theorem Akm {n:Net} (h:(meshNT n).2.2≠0):(meshNT n).1=emptyN:=by
 rw[meshNT]at h ⊢
 split
 ·rfl
 rename_i h1
 rw[if_neg h1]at h
 split
 ·rfl
 rename_i h2
 rw[h2]at h
 dsimp only at h
 split
 ·rfl
 rename_i h3
 rw[if_neg h3]at h
 exact absurd Y h
theorem Ao6 (n:Net) (hn:n.Fin) (ha:E7 n) (hv:U0 n) (l:LineM) (hl:LineW l) (hR:I5 l):Sy.Spec Tryz.prog 38 [Aj n,Am l] [] (.tup [Aj (putT n l).1,Aa (putT n l).2]) []:=cT F38 Tryz.ntmps38 fun F hF=>by
 have hres:=putT.eq_1 n l
 generalize putT n l=res at *
 by_cases h1:l.kind=1
 ·have g1:(l.kind == 1)=true:=by rw[beq_iff_eq];exact h1
  have q:=Agg n hn l hl hR
  rw[if_pos h1]at hres
  rw[← hres]at q
  refine T ?_
  refine C q F126 ?_
  exact D
 have g1:(l.kind == 1)=false:=by rw[beq_eq_false_iff_ne];exact h1
 rw[if_neg h1]at hres
 by_cases h2:l.kind=2
 ·have g2:(l.kind == 2)=true:=by rw[beq_iff_eq];exact h2
  have q:=Ame n hn l hl hR
  rw[if_pos h2]at hres
  rw[← hres]at q
  refine T ?_
  refine C q F127 ?_
  exact D
 have g2:(l.kind == 2)=false:=by rw[beq_eq_false_iff_ne];exact h2
 rw[if_neg h2]at hres
 by_cases h3:l.kind=3
 ·have g3:(l.kind == 3)=true:=by rw[beq_iff_eq];exact h3
  have q:=Apc n hn l hl hR
  rw[if_pos h3]at hres
  rw[← hres]at q
  refine T ?_
  refine C q F128 ?_
  exact D
 have g3:(l.kind == 3)=false:=by rw[beq_eq_false_iff_ne];exact h3
 rw[if_neg h3]at hres
 by_cases h4:l.kind=4
 ·have g4:(l.kind == 4)=true:=by rw[beq_iff_eq];exact h4
  have q:=Age n hn l hl hR
  rw[if_pos h4]at hres
  rw[← hres]at q
  refine T ?_
  refine C q F129 ?_
  exact D
 have g4:(l.kind == 4)=false:=by rw[beq_eq_false_iff_ne];exact h4
 rw[if_neg h4]at hres
 by_cases h5:l.kind=5
 ·have g5:(l.kind == 5)=true:=by rw[beq_iff_eq];exact h5
  have q:=Amc n hn hv l hl hR
  rw[if_pos h5]at hres
  rw[← hres]at q
  refine T ?_
  refine C q F130 ?_
  exact D
 have g5:(l.kind == 5)=false:=by rw[beq_eq_false_iff_ne];exact h5
 rw[if_neg h5]at hres
 by_cases h6:l.kind=6
 ·have g6:(l.kind == 6)=true:=by rw[beq_iff_eq];exact h6
  have q:=Apb n hn l hl hR
  rw[if_pos h6]at hres
  rw[← hres]at q
  refine T ?_
  refine C q F131 ?_
  exact D
 have g6:(l.kind == 6)=false:=by rw[beq_eq_false_iff_ne];exact h6
 rw[if_neg h6]at hres
 by_cases h7:l.kind=7
 ·have g7:(l.kind == 7)=true:=by rw[beq_iff_eq];exact h7
  have q:=Ajt n hn l hl hR
  rw[if_pos h7]at hres
  rw[← hres]at q
  refine T ?_
  refine C q F132 ?_
  exact D
 have g7:(l.kind == 7)=false:=by rw[beq_eq_false_iff_ne];exact h7
 rw[if_neg h7]at hres
 by_cases h8:l.kind=8
 ·have g8:(l.kind == 8)=true:=by rw[beq_iff_eq];exact h8
  have q:=Ao8 n hn l hl hR
  rw[if_pos h8]at hres
  rw[← hres]at q
  refine T ?_
  refine C q F133 ?_
  exact D
 have g8:(l.kind == 8)=false:=by rw[beq_eq_false_iff_ne];exact h8
 rw[if_neg h8]at hres
 by_cases h9:l.kind=9
 ·have g9:(l.kind == 9)=true:=by rw[beq_iff_eq];exact h9
  have q:=Ao9 n hn ha l hl hR
  rw[if_pos h9]at hres
  rw[← hres]at q
  refine T ?_
  refine C q F134 ?_
  exact D
 have g9:(l.kind == 9)=false:=by rw[beq_eq_false_iff_ne];exact h9
 rw[if_neg h9]at hres
 subst hres
 refine T ?_
 refine Ah 4 (Bi emptyN) Y (.cons .nil (.cons .nil (.cons .nil (.cons .nil (.cons .nil (.cons .nil (.cons .nil (.cons .nil .nil)))))))) ?_
 refine T ?_
 exact D
theorem Ajo (M:List LineM) (hM:∀ l∈M,LineW l) (hR:∀ l∈M,I5 l) (hl:M.length<2147483648):Sy.Spec Tryz.prog 18 [.sl 17 Am M] [] (.tup [Aj (Cy M).1,Aa (Cy M).2.1,Aa (Cy M).2.2]) []:=cT F18 Tryz.ntmps18 fun F hF=>by
 have hres:Hs emptyN M=Cy M:=rfl
 generalize Cy M=res at *
 refine T ?_
 refine Ah 5 (Bi emptyN) Y (.cons .nil (.cons .nil (.cons .nil (.cons .nil (.cons .nil (.cons .nil (.cons .nil (.cons .nil .nil)))))))) ?_
 refine At (fun x:Nat × Net=>x.1≤M.length∧x.2.Fin∧E7 x.2∧U0 x.2∧Hs x.2 (M.drop x.1)=res) (fun x=>[(0,.sl 17 Am M),(2,.ptr 1002 0),(5,.ptr 1005 0),(6,Aa x.1)]) (fun x=>[(1002,.box [.val (.slice none 0 0),.val (.slice none 0 0),.val (.slice none 0 0),.val (.slice none 0 0),.val (.slice none 0 0),.val (.slice none 0 0),.val (.slice none 0 0),.val (.slice none 0 0)]),(1005,.box (Bi x.2))]) (fun x=>M.length-x.1) (0,emptyN) [(1002,2),(1005,5)] ⟨by omega,Es,fun x hx=>(by cases hx),Da,hres⟩ U ?_
 rintro ⟨j,n⟩ ⟨h1,hn,ha,hv,hI⟩
 dsimp only at h1 hn ha hv hI ⊢
 refine T ?_
 refine⟨fun h=>?_,fun h=>?_⟩
 ·have hlt:j<M.length:=qA h
  have hj0:((j:Nat):Int).toNat<M.length:=hlt
  clear h
  have hmem:=List.getElem_mem hj0
  have qp:=Ao6 n hn ha hv (M[((j:Nat):Int).toNat]'hj0) (hM _ hmem) (hR _ hmem)
  have hp:=Aav (l:=(M[((j:Nat):Int).toNat]'hj0)) hn ha (hM _ hmem)
  have hv2:=Aka (l:=(M[((j:Nat):Int).toNat]'hj0)) hv (hM _ hmem)
  rw[List.drop_eq_getElem_cons hlt,Hs]at hI
  have hde:M[j]=(M[((j:Nat):Int).toNat]'hj0):=rfl
  rw[hde]at hI
  generalize putT n (M[((j:Nat):Int).toNat]'hj0)=r at *
  obtain ⟨m,e⟩:=r
  dsimp only at qp hI hv2
  by_cases he:e=0
  ·have g:(e != 0)=false:=by rw[he];rfl
   rw[if_neg (fun h=>h he)]at hI
   refine T ?_
   refine C qp F38 ?_
   exact Ad (j+1,m) [] ⟨hlt,hp.fin,hp.addrs,hv2,hI⟩ (by dsimp only;omega) U
  ·have g:(e != 0)=true:=by rw[bne_iff_ne];exact he
   rw[if_pos he]at hI
   subst hI
   refine T ?_
   refine C qp F38 ?_
   refine Ah 1002 (Bi emptyN) Y (.cons .nil (.cons .nil (.cons .nil (.cons .nil (.cons .nil (.cons .nil (.cons .nil (.cons .nil .nil)))))))) ?_
   refine T ?_
   exact D
 ·have hje:j=M.length:=qB h
  clear h
  rw[hje,List.drop_length,Hs,finishT]at hI
  have qm:=Amd n hn
  have hmf:=O3 hn
  have hok:=Apn (n:=n)
  have hno:=Akm (n:=n)
  generalize meshNT n=r at *
  obtain ⟨m,row,e⟩:=r
  dsimp only at qm hI hmf hok hno
  by_cases he:e=0
  ·have g:(e != 0)=false:=by rw[he];rfl
   rw[if_neg (fun h=>h he)]at hI
   obtain ⟨e1,_,e3,_⟩:=hok he
   have hr:Ai m=true:=by rw[e1];exact e3
   have ql:=Amb m hmf hr
   generalize loopT m=lp at *
   obtain ⟨lrow,isl⟩:=lp
   dsimp only at ql hI
   cases isl with
   | true =>
    rw[if_pos rfl]at hI
    subst hI
    refine T ?_
    refine C qm F39 ?_
    refine C ql F40 ?_
    refine Ah 1002 (Bi emptyN) Y (.cons .nil (.cons .nil (.cons .nil (.cons .nil (.cons .nil (.cons .nil (.cons .nil (.cons .nil .nil)))))))) ?_
    refine T ?_
    exact D
   | false =>
    rw[if_neg y_]at hI
    subst hI
    refine T ?_
    refine C qm F39 ?_
    refine C ql F40 ?_
    refine T ?_
    exact D
  ·have g:(e != 0)=true:=by rw[bne_iff_ne];exact he
   rw[if_pos he]at hI
   rw[hno he]at hI
   subst hI
   refine T ?_
   refine C qm F39 ?_
   refine Ah 1002 (Bi emptyN) Y (.cons .nil (.cons .nil (.cons .nil (.cons .nil (.cons .nil (.cons .nil (.cons .nil (.cons .nil .nil)))))))) ?_
   refine T ?_
   exact D
theorem Al9 (b:List UInt8) (hb:b.length≤1000000):Sy.Spec Tryz.prog 21 [.sl 1 Bd b] [] (.tup [Aj (netTextT b).1,Aa (netTextT b).2.1,Aa (netTextT b).2.2]) []:=cT F21 Tryz.ntmps21 fun F hF=>by
 have q1:=Amh b hb
 have q2:=Ajo (textT b).1 (fun x hx=>(Ll b x hx).w) (fun x hx=>by
  have h:=Ll b x hx
  have:=Aj8 x h
  rw[← h.right]at this
  exact this) (by have:=Ach b;omega)
 have hres:=netTextT.eq_1 b
 generalize netTextT b=res at *
 generalize textT b=t at *
 obtain ⟨L,row,e⟩:=t
 dsimp only at q1 q2 hres
 by_cases he:e=0
 ·have g:(e != 0)=false:=by rw[he];rfl
  rw[if_neg (fun h=>h he)]at hres
  subst hres
  refine T ?_
  refine C q1 F45 ?_
  refine C q2 F18 ?_
  refine T ?_
  exact D
 ·have g:(e != 0)=true:=by rw[bne_iff_ne];exact he
  rw[if_pos he]at hres
  subst hres
  refine T ?_
  refine C q1 F45 ?_
  refine Ah 2 (Bi emptyN) Y (.cons .nil (.cons .nil (.cons .nil (.cons .nil (.cons .nil (.cons .nil (.cons .nil (.cons .nil .nil)))))))) ?_
  refine T ?_
  exact D
end Go.Sy.YtjenpnjajjplkaaGreatDoor
