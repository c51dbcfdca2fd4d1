/-
  I56 I57 I58 I27 I28 I59 I7l: parts of a proof, joined by program.
-/
import Derived.Test.YtgblchnfjbkipaaGreatDoorXH5
import Derived.Test.YtgblchnfjbkipaaGreatDoorXH6
import Derived.Test.YtgblchnfjbkipaaGreatDoorXH3
import Derived.Test.YtgblchnfjbkipaaGreatDoorXH4
namespace Go.Sy.YtgblchnfjbkipaaGreatDoor
open Go.Proofs
attribute [local irreducible] Go.Sy.G Go.Sy.DR
set_option maxRecDepth 100000
set_option maxHeartbeats 4000000
theorem Q9 (tx:Int→ByteArray) (l:List Int) {j:Nat} (hlt:j<l.length) (hlt0:((j:Nat):Int).toNat<l.length) :
  Bn ((l.take (j+1)).map tx) comma=(if j=0 then Bn ((l.take j).map tx) comma else Bn ((l.take j).map tx) comma++comma)++tx (l[((j:Nat):Int).toNat]'hlt0):=by
 have htk:l.take (j+1)=l.take j++[l[((j:Nat):Int).toNat]'hlt0]:=List.take_succ_eq_append_getElem hlt
 rw[htk,List.map_append,List.map_cons,List.map_nil]
 by_cases h0:j=0
 ·rw[if_pos h0]
  subst h0
  apply Dm
  rw[Ii]
  simp only[Bn,List.take_zero,List.map_nil,List.nil_append,List.map_cons]
  simp[Lib.join_cons,Lib.joinTail,Lib.join]
 ·rw[if_neg h0]
  refine T9 _ _ _ fun e=>?_
  have:=congrArg List.length e
  rw[List.length_map,List.length_take,List.length_nil]at this
  omega
theorem Yr (l:List Int) (hl:l.length≤100000) (hw:∀ x∈l,0≤x∧x<1000000000000000000):Sy.Spec Tryz.prog 360 [.sl 1 Aa l] [] (Ab (Dz l)) []:=cT F360 Tryz.ntmps360 fun F hF=>by
 have hall:l.take l.length=l:=List.take_length
 refine T ?_
 refine Av (fun j:Nat=>j≤l.length∧(Dz (l.take j)).size≤30 * j) (fun j=>[(0,.sl 1 Aa l),(3,Ab (Dz (l.take j))),(4,Aa j)]) (fun _=>[]) (fun j=>l.length-j) 0 [] ⟨by simp,by rw[List.take_zero];decide⟩ U ?_
 rintro j ⟨hj,hz⟩
 refine T ?_
 refine⟨fun h=>?_,fun h=>?_⟩
 ·have hlt:j<l.length:=qA h
  have hlt0:((j:Nat):Int).toNat<l.length:=hlt
  clear h hall
  have hx:=hw _ (List.getElem_mem hlt0)
  obtain ⟨m,hm⟩:∃ m:Nat,l[((j:Nat):Int).toNat]'hlt0=m:=⟨(l[((j:Nat):Int).toNat]'hlt0).toNat,by omega⟩
  have q:=Iq m j_
  rw[← hm]at q
  have hns:(Al (l[((j:Nat):Int).toNat]'hlt0)).size≤19:=by rw[hm];exact Dx j_
  have hsn:Dz (l.take (j+1))=(if j=0 then Dz (l.take j) else Dz (l.take j)++comma)++Al (l[((j:Nat):Int).toNat]'hlt0):=Q9 Al l hlt hlt0
  have hcz:comma.size=1:=rfl
  generalize Al (l[((j:Nat):Int).toNat]'hlt0)=t at *
  generalize hu:Dz (l.take j)=u at *
  by_cases k:0<j
  ·have f:decide ((j:Int)>0)=true:=decide_eq_true j_
   rw[if_neg j_]at hsn
   have z1:u.size+(⟨#[44]⟩:ByteArray).size≤9223372036854775807:=by show u.size+comma.size≤_;omega
   have z2:(u++(⟨#[44]⟩:ByteArray)).size+t.size≤9223372036854775807:=by show (u++comma).size+t.size≤_;rw[ByteArray.size_append];omega
   have z3:(Dz (l.take (j+1))).size≤30 * (j+1):=by rw[hsn,ByteArray.size_append,ByteArray.size_append];omega
   refine T ?_
   refine C q F306 ?_
   exact Ag (j+1) [] ⟨hlt,z3⟩ j_ ⟨⟨q_,q_,congrArg Ab hsn,q_,q_,q_,z_⟩,z_,q_,q_⟩
  ·have f:decide ((j:Int)>0)=false:=decide_eq_false j_
   rw[if_pos j_]at hsn
   have z2:u.size+t.size≤9223372036854775807:=by omega
   have z3:(Dz (l.take (j+1))).size≤30 * (j+1):=by rw[hsn,ByteArray.size_append];omega
   refine T ?_
   refine C q F306 ?_
   exact Ag (j+1) [] ⟨hlt,z3⟩ j_ ⟨⟨q_,q_,congrArg Ab hsn,q_,q_,q_,z_⟩,z_,q_,q_⟩
 ·have hje:j=l.length:=qB h
  subst hje
  clear h
  rw[hall]
  refine T ?_
  exact D
theorem Wr (l:List Int) (hl:l.length≤100000) (hw:∀ x∈l,0≤x∧x<4294967296):Sy.Spec Tryz.prog 317 [.sl 1 A0 l] [] (Ab (B9 l)) []:=cT F317 Tryz.ntmps317 fun F hF=>by
 have hall:l.take l.length=l:=List.take_length
 refine T ?_
 refine Av (fun j:Nat=>j≤l.length∧(B9 (l.take j)).size≤110 * j) (fun j=>[(0,.sl 1 A0 l),(3,Ab (B9 (l.take j))),(4,Aa j)]) (fun _=>[]) (fun j=>l.length-j) 0 [] ⟨by simp,by rw[List.take_zero];decide⟩ U ?_
 rintro j ⟨hj,hz⟩
 refine T ?_
 refine⟨fun h=>?_,fun h=>?_⟩
 ·have hlt:j<l.length:=qA h
  have hlt0:((j:Nat):Int).toNat<l.length:=hlt
  clear h hall
  have hx:=hw _ (List.getElem_mem hlt0)
  obtain ⟨m,hm⟩:∃ m:Nat,l[((j:Nat):Int).toNat]'hlt0=m:=⟨(l[((j:Nat):Int).toNat]'hlt0).toNat,by omega⟩
  have q:=Jl m j_
  rw[← hm]at q
  have hns:(Be (l[((j:Nat):Int).toNat]'hlt0)).size≤100:=Cy _
  have hsn:B9 (l.take (j+1))=(if j=0 then B9 (l.take j) else B9 (l.take j)++comma)++Be (l[((j:Nat):Int).toNat]'hlt0):=Q9 Be l hlt hlt0
  have hcz:comma.size=1:=rfl
  generalize Be (l[((j:Nat):Int).toNat]'hlt0)=t at *
  generalize hu:B9 (l.take j)=u at *
  by_cases k:0<j
  ·have f:decide ((j:Int)>0)=true:=decide_eq_true j_
   rw[if_neg j_]at hsn
   have z1:u.size+(⟨#[44]⟩:ByteArray).size≤9223372036854775807:=by show u.size+comma.size≤_;omega
   have z2:(u++(⟨#[44]⟩:ByteArray)).size+t.size≤9223372036854775807:=by show (u++comma).size+t.size≤_;rw[ByteArray.size_append];omega
   have z3:(B9 (l.take (j+1))).size≤110 * (j+1):=by rw[hsn,ByteArray.size_append,ByteArray.size_append];omega
   refine T ?_
   refine C q F316 ?_
   exact Ag (j+1) [] ⟨hlt,z3⟩ j_ ⟨⟨q_,q_,congrArg Ab hsn,q_,q_,q_,z_⟩,z_,q_,q_⟩
  ·have f:decide ((j:Int)>0)=false:=decide_eq_false j_
   rw[if_pos j_]at hsn
   have z2:u.size+t.size≤9223372036854775807:=by omega
   have z3:(B9 (l.take (j+1))).size≤110 * (j+1):=by rw[hsn,ByteArray.size_append];omega
   refine T ?_
   refine C q F316 ?_
   exact Ag (j+1) [] ⟨hlt,z3⟩ j_ ⟨⟨q_,q_,congrArg Ab hsn,q_,q_,q_,z_⟩,z_,q_,q_⟩
 ·have hje:j=l.length:=qB h
  subst hje
  clear h
  rw[hall]
  refine T ?_
  exact D
theorem Ur (a:Nat) (b:Int) (ha:a<4294967296) (hb:0≤b∧b≤32):Sy.Spec Tryz.prog 318 [B8 a b] [] (Ab (B0 a b)) []:=cT F318 Tryz.ntmps318 fun F hF=>by
 have q1:=Iw (a:Int) b
 rw[decide_eq_true hb]at q1
 have q2:=Jl a ha
 have hsz:=Cy (a:Int)
 obtain ⟨n,hn⟩:∃ n:Nat,b=n:=⟨b.toNat,by omega⟩
 subst hn
 have q3:=Hj n j_
 have hns:=Dx (n:=n) j_
 have he:B0 a (n:Int)=Be (a:Int)++(⟨#[47]⟩:ByteArray)++Al (n:Int):=by
  rw[B0,if_pos hb,C4]
  apply Dm
  rw[Ii,Ii,A2,A2]
  rfl
 rw[he]
 generalize Be (a:Int)=t at *
 generalize Al (n:Int)=u at *
 have h47:(⟨#[47]⟩:ByteArray).size=1:=rfl
 have z1:t.size+(⟨#[47]⟩:ByteArray).size≤9223372036854775807:=by omega
 have z2:(t++(⟨#[47]⟩:ByteArray)).size+u.size≤9223372036854775807:=by rw[ByteArray.size_append];omega
 refine T ?_
 refine C q1 F337 ?_
 refine C q2 F316 ?_
 refine C q3 F358 ?_
 exact D
theorem Yt (x y:Int) (hb g:Bool) (q1:Sy.Spec Tryz.prog 308 [Bh x] [] (.tup [A0 y,Af hb]) []) (q2:Sy.Spec Tryz.prog 309 [Bh x] [] (Af g) []) :
  Sy.Spec Tryz.prog 260 [Bh x] [] (Af (decide (x<281474976710656) && !hb && !g)) []:=cT F260 Tryz.ntmps260 fun F hF=>by
 cases hk:decide (x<281474976710656)
 ·refine T ?_
  refine C q1 F308 ?_
  exact D
 ·cases hb
  ·refine T ?_
   refine C q1 F308 ?_
   refine C q2 F309 ?_
   exact D
  ·refine T ?_
   refine C q1 F308 ?_
   exact D
theorem Ys (m:Nat) (h:m<18446744073709551616):Sy.Spec Tryz.prog 260 [Bh m] [] (Af (statB m)) []:=by
 obtain ⟨x,q1⟩:=Ad0 m h
 have q:=Yt m x _ _ q1 (Ym m h)
 have e:statB (m:Int)=(decide ((m:Int)<281474976710656) && !(D7 m) && !(Js m)):=by
  have e1:decide ((m:Int)<281474976710656)=decide ((m:Int)≤281474976710655):=by
   rw[Bool.eq_iff_iff,decide_eq_true_eq,decide_eq_true_eq];omega
  rw[e1,statB,Int.toNat_natCast]
 rw[e]
 exact q
theorem Abm (a:Nat) (b:Int) (ha:a<4294967296):Sy.Spec Tryz.prog 265 [B8 a b] [] (Af (subnetB a b)) []:=cT F265 Tryz.ntmps265 fun F hF=>by
 have q1:=Vi a b ha
 have q2:=Af5 a b ha
 have hs:=subnetB.eq_1 (a:Int) b
 generalize subnetB (a:Int) b=r at *
 generalize Ef (a:Int) b=fi at *
 generalize lastI (a:Int) b=la at *
 by_cases h1:1≤b
 ·have f1:decide (b≥1)=true:=decide_eq_true h1
  by_cases h2:b≤30
  ·have f2:decide (b≤30)=true:=decide_eq_true h2
   by_cases h3:(a:Int)=fi
   ·have f3:((a:Int) != fi)=false:=by rw[bne_eq_false_iff_eq];exact h3
    have hr:r=false:=by rw[hs];simp[h3]
    subst hr
    refine T ?_
    refine C q1 F313 ?_
    exact D
   ·have f3:((a:Int) != fi)=true:=by rw[bne_iff_ne];exact h3
    by_cases h4:(a:Int)=la
    ·have f4:((a:Int) != la)=false:=by rw[bne_eq_false_iff_eq];exact h4
     have hr:r=false:=by rw[hs];simp[h4]
     subst hr
     refine T ?_
     refine C q1 F313 ?_
     refine C q2 F314 ?_
     refine Bv q_ (.cons .tmp .nil) (congrArg Af f4.symm) q_
    ·have f4:((a:Int) != la)=true:=by rw[bne_iff_ne];exact h4
     have hr:r=true:=by rw[hs];simp[h1,h2,h3,h4]
     subst hr
     refine T ?_
     refine C q1 F313 ?_
     refine C q2 F314 ?_
     refine Bv q_ (.cons .tmp .nil) (congrArg Af f4.symm) q_
  ·have f2:decide (b≤30)=false:=decide_eq_false h2
   have hr:r=false:=by rw[hs];simp[h2]
   subst hr
   refine T ?_
   exact D
 ·have f1:decide (b≥1)=false:=decide_eq_false h1
  have hr:r=false:=by rw[hs];simp[h1]
  subst hr
  refine T ?_
  exact D
theorem Yw (s:ByteArray) (hi:Int) (hs:s.size≤1000000):Sy.Spec Tryz.prog 261 [Ab s,Aa hi] [] (.tup [.sl 1 Aa (listR hi s).1,Af (listR hi s).2]) []:=cT F261 Tryz.ntmps261 fun F hF=>by
 have q:=Yq s hi hs
 have hres:=listR.eq_1 hi s
 generalize listR hi s=res at *
 by_cases h:s=dash
 ·have f:(s == (⟨#[45]⟩:ByteArray))=true:=Bl h
  rw[if_pos h]at hres
  subst hres
  refine T ?_
  refine Bm 4 1 Aa q_ ?_
  refine T ?_
  exact D
 ·have f:(s == (⟨#[45]⟩:ByteArray))=false:=B2 h
  rw[if_neg h]at hres
  subst hres
  refine T ?_
  refine C q F310 ?_
  exact D
theorem Ahx {d:UInt8} {s:ByteArray} (h:d∉s.data.toList):cutT d s=(s,⟨#[]⟩,false):=by
 rw[cutT,if_neg (fun hh=>h (Ab5 hh))]
theorem Zc {l:List UInt8} {i:Nat} {d:UInt8} (h:∀ k,k<i→l.getD k 0≠d) (hi:i≤l.length):d∉l.take i:=by
 intro hm
 obtain ⟨k,hk,e⟩:=List.getElem_of_mem hm
 rw[List.length_take]at hk
 have hk2:k<i:=by omega
 have:=h k hk2
 rw[List.getElem_take]at e
 have hkl:k<l.length:=by omega
 apply this
 simp only[List.getD,List.getElem?_eq_getElem hkl,Option.getD_some]
 exact e
theorem Se (s:ByteArray) (i j:Nat):s.extract i j=mkT ((s.data.toList.take j).drop i):=by
 have:=Bu s.data.toList i j
 rwa [Bt]at this
theorem Uq (s:ByteArray) (hs:s.size≤1000000):Sy.Spec Tryz.prog 264 [Ab s] [] (.tup [B8 (prefixR s).1.1 (prefixR s).1.2,Af (prefixR s).2]) []:=cT F264 Tryz.ntmps264 fun F hF=>by
 have hL:s.data.toList.length=s.size:=rfl
 have hres:=prefixR.eq_1 s
 generalize prefixR s=res at *
 refine T ?_
 refine Av (fun i:Nat=>i≤s.size∧∀ k,k<i→Ad s k≠47) (fun i=>[(0,Ab s),(2,.ptr 1001 0),(4,Aa i)]) (fun _=>[(1001,.box [A0 0,Aa 0])]) (fun i=>s.size-i) 0 [(1001,2)] ⟨by simp,by simp⟩ U ?_
 rintro i ⟨hi,hI⟩
 have ej:Ad s ((i:Nat):Int).toNat=Ad s i:=rfl
 by_cases a1:i<s.size
 ·have f1:decide ((i:Int)<(s.size:Int))=true:=decide_eq_true j_
  by_cases k1:Ad s i=47
  ·have g1:(((Ad s ((i:Nat):Int).toNat).toNat:Int) != 47)=false:=by rw[ej,k1];rfl
   have g2:((i:Int) == (s.size:Int))=false:=by rw[beq_eq_false_iff_ne];omega
   have hlt:i<s.data.toList.length:=a1
   have hb:Ad s i=s.data.toList[i]:=Dj hlt
   have hcut:cutT 47 s=(s.extract (0:Int).toNat ((i:Nat):Int).toNat,s.extract (((i:Nat):Int)+1).toNat ((s.size:Nat):Int).toNat,true):=by
    have e1:(((i:Nat):Int)+1).toNat=i+1:=by omega
    rw[Se,Se,e1,Int.toNat_natCast,Int.toNat_natCast]
    have e:=Ahy 47 (s.data.toList.take i) (s.data.toList.drop (i+1)) (Zc (fun k hk=>hI k hk) j_)
    have e2:s.data.toList.take i++47::s.data.toList.drop (i+1)=s.data.toList:=by
     have e3:=List.drop_eq_getElem_cons hlt
     rw[← hb,k1]at e3
     rw[← e3,List.take_append_drop]
    rw[e2,Bt]at e
    rw[e]
    show _=(mkT ((s.data.toList.take i).drop 0),_,true)
    rw[List.drop_zero,← hL,List.take_length]
   rw[hcut]at hres
   dsimp only at hres
   have hz1:(s.extract (0:Int).toNat ((i:Nat):Int).toNat).size≤s.size:=by rw[ByteArray.size_extract];omega
   have q1:=Ws (s.extract (0:Int).toNat ((i:Nat):Int).toNat) j_
   have q2:=Vk (s.extract (((i:Nat):Int)+1).toNat ((s.size:Nat):Int).toNat)
   have hdr:=I4 (s.extract (((i:Nat):Int)+1).toNat ((s.size:Nat):Int).toNat)
   rw[Oz]at hres
   generalize A8 (s.extract (0:Int).toNat ((i:Nat):Int).toNat)=rt at *
   generalize digitsD (s.extract (((i:Nat):Int)+1).toNat ((s.size:Nat):Int).toNat)=d at *
   obtain ⟨v,b⟩:=rt
   dsimp only at hres q1
   cases b with
   | false =>
    rw[if_pos (.inr (.inl rfl))]at hres
    subst hres
    refine T ?_
    refine⟨⟨by omega,by omega,by omega⟩,?_⟩
    refine T ?_
    refine C q1 F262 ?_
    refine⟨⟨by omega,by omega,by omega⟩,?_⟩
    refine T ?_
    refine C q2 F311 ?_
    exact D
   | true =>
    by_cases k2:d>32
    ·have g3:decide (d>32)=true:=decide_eq_true k2
     rw[if_pos (by
      refine .inr (.inr ?_)
      split
      ·rfl
      ·exact decide_eq_false j_)]at hres
     subst hres
     refine T ?_
     refine⟨⟨by omega,by omega,by omega⟩,?_⟩
     refine T ?_
     refine C q1 F262 ?_
     refine⟨⟨by omega,by omega,by omega⟩,?_⟩
     refine T ?_
     refine C q2 F311 ?_
     exact D
    ·have g3:decide (d>32)=false:=decide_eq_false k2
     rw[if_neg (by omega:¬ d=1000),if_neg (by simp;omega)]at hres
     subst hres
     refine T ?_
     refine⟨⟨by omega,by omega,by omega⟩,?_⟩
     refine T ?_
     refine C q1 F262 ?_
     refine⟨⟨by omega,by omega,by omega⟩,?_⟩
     refine T ?_
     refine C q2 F311 ?_
     exact D
  ·have g1:(((Ad s ((i:Nat):Int).toNat).toNat:Int) != 47)=true:=by
    rw[ej,bne_iff_ne]
    intro e
    exact k1 (UInt8.toNat_inj.1 (by show _=47;omega))
   refine T ?_
   refine Ag (i+1) [] ⟨a1,fun k hk=>?_⟩ j_ U
   by_cases e:k=i
   ·subst e;exact k1
   ·exact hI k j_
 ·have f1:decide ((i:Int)<(s.size:Int))=false:=decide_eq_false j_
  have g2:((i:Int) == (s.size:Int))=true:=by rw[beq_iff_eq];omega
  have hno:(47:UInt8)∉s.data.toList:=by
   have:=Zc (l:=s.data.toList) (i:=s.size) (d:=47) (fun k hk=>hI k j_) j_
   rwa [← hL,List.take_length]at this
  rw[Ahx hno,if_pos (.inl rfl)]at hres
  subst hres
  refine T ?_
  exact D
theorem Agi (w:List ByteArray) (hw:w.length≤1000000):Sy.Spec Tryz.prog 197 [.sl 1 Ab w] [] (Ab (mkT (formD w))) []:=cT F197 Tryz.ntmps197 fun F hF=>by
 have hf:=formD.eq_1 w
 by_cases h0:w.length=0
 ·have f0:((w.length:Int) == 0)=true:=by rw[beq_iff_eq];omega
  rw[List.length_eq_zero_iff.1 h0]
  rw[List.length_eq_zero_iff.1 h0]at f0
  have e:formD []=[]:=by decide +kernel
  rw[e]
  refine T ?_
  exact D
 have f0:((w.length:Int) == 0)=false:=by rw[beq_eq_false_iff_ne];omega
 have hn0:(0:Int).toNat<w.length:=by show 0<_;omega
 have hx0:wdT w 0=w[(0:Int).toNat]'hn0:=Br j_
 rw[hx0]at hf
 generalize formD w=res at *
 generalize hg:w[(0:Int).toNat]'hn0=w0 at *
 by_cases c1:w0=(⟨#[100,101,118,105,99,101]⟩:ByteArray)
 ·have b1:=Bl c1
  rw[c1,k1]at hf
  simp at hf
  subst hf
  rw[← hg]at *
  refine T ?_
  exact D
 have b1:=B2 c1
 by_cases c3:w0=(⟨#[108,105,110,107]⟩:ByteArray)
 ·have b3:=Bl c3
  rw[c3,k3]at hf
  simp at hf
  subst hf
  rw[← hg]at *
  refine T ?_
  exact D
 have b3:=B2 c3
 by_cases c4:w0=(⟨#[115,116,97,116,105,99]⟩:ByteArray)
 ·have b4:=Bl c4
  rw[c4,k4]at hf
  simp at hf
  subst hf
  rw[← hg]at *
  refine T ?_
  exact D
 have b4:=B2 c4
 by_cases c5:w0=(⟨#[118,116,101,112]⟩:ByteArray)
 ·have b5:=Bl c5
  rw[c5,k5]at hf
  simp at hf
  subst hf
  rw[← hg]at *
  refine T ?_
  exact D
 have b5:=B2 c5
 by_cases c6:w0=(⟨#[118,110,105]⟩:ByteArray)
 ·have b6:=Bl c6
  rw[c6,k6]at hf
  simp at hf
  subst hf
  rw[← hg]at *
  refine T ?_
  exact D
 have b6:=B2 c6
 by_cases c7:w0=(⟨#[102,108,111,111,100]⟩:ByteArray)
 ·have b7:=Bl c7
  rw[c7,k7]at hf
  simp at hf
  subst hf
  rw[← hg]at *
  refine T ?_
  exact D
 have b7:=B2 c7
 by_cases c8:w0=(⟨#[118,114,102]⟩:ByteArray)
 ·have b8:=Bl c8
  rw[c8,k8]at hf
  simp at hf
  subst hf
  rw[← hg]at *
  refine T ?_
  exact D
 have b8:=B2 c8
 by_cases c9:w0=(⟨#[105,114,98]⟩:ByteArray)
 ·have b9:=Bl c9
  rw[c9,k9]at hf
  simp at hf
  subst hf
  rw[← hg]at *
  refine T ?_
  exact D
 have b9:=B2 c9
 by_cases c2:w0=(⟨#[112,111,114,116]⟩:ByteArray)
 ·have b2:=Bl c2
  rw[c2,k2]at hf
  clear c2
  rw[← hg]at *
  by_cases l7:w.length=7
  ·have g7:((w.length:Int) == 7)=true:=by rw[beq_iff_eq];omega
   have g6:((w.length:Int) == 6)=false:=by rw[beq_eq_false_iff_ne];omega
   have hn4:(4:Int).toNat<w.length:=by show 4<_;omega
   have hx4:wdT w 4=w[(4:Int).toNat]'hn4:=Br j_
   rw[hx4]at hf
   by_cases d1:w[(4:Int).toNat]'hn4=accessT
   ·have e1:(!(w[(4:Int).toNat]'hn4 == (⟨#[97,99,99,101,115,115]⟩:ByteArray)))=false:=D8 d1
    rw[if_neg qe,if_neg qe,if_neg qe,if_neg qe,if_neg qe,if_neg qe,if_neg qe,if_neg qe,if_pos rfl,if_neg (fun h=>h.2 d1),if_neg j_]at hf
    subst hf
    refine T ?_
    exact D
   ·have e1:(!(w[(4:Int).toNat]'hn4 == (⟨#[97,99,99,101,115,115]⟩:ByteArray)))=true:=Ih d1
    rw[if_neg qe,if_neg qe,if_neg qe,if_neg qe,if_neg qe,if_neg qe,if_neg qe,if_neg qe,if_pos rfl,if_pos ⟨l7,d1⟩]at hf
    subst hf
    refine T ?_
    exact D
  ·have g7:((w.length:Int) == 7)=false:=by rw[beq_eq_false_iff_ne];omega
   by_cases l6:w.length=6
   ·have g6:((w.length:Int) == 6)=true:=by rw[beq_iff_eq];omega
    have hn4:(4:Int).toNat<w.length:=by show 4<_;omega
    have hx4:wdT w 4=w[(4:Int).toNat]'hn4:=Br j_
    rw[hx4]at hf
    by_cases d1:w[(4:Int).toNat]'hn4=trunkT
    ·have e1:(!(w[(4:Int).toNat]'hn4 == (⟨#[116,114,117,110,107]⟩:ByteArray)))=false:=D8 d1
     rw[if_neg qe,if_neg qe,if_neg qe,if_neg qe,if_neg qe,if_neg qe,if_neg qe,if_neg qe,if_pos rfl,if_neg (fun h=>l7 h.1),if_neg (fun h=>h.2 d1)]at hf
     subst hf
     refine T ?_
     exact D
    ·have e1:(!(w[(4:Int).toNat]'hn4 == (⟨#[116,114,117,110,107]⟩:ByteArray)))=true:=Ih d1
     rw[if_neg qe,if_neg qe,if_neg qe,if_neg qe,if_neg qe,if_neg qe,if_neg qe,if_neg qe,if_pos rfl,if_neg (fun h=>l7 h.1),if_pos ⟨l6,d1⟩]at hf
     subst hf
     refine T ?_
     exact D
   ·have g6:((w.length:Int) == 6)=false:=by rw[beq_eq_false_iff_ne];omega
    simp[l7,l6]at hf
    subst hf
    refine T ?_
    exact D
 have b2:=B2 c2
 have hk0:kindL w0=0:=by
  unfold kindL
  rw[if_neg c1,if_neg c2,if_neg c3,if_neg c4,if_neg c5,if_neg c6,if_neg c7,if_neg c8,if_neg c9]
 rw[hk0]at hf
 simp at hf
 subst hf
 rw[← hg]at *
 refine T ?_
 exact D
def kindsL:List ByteArray:=[⟨#[]⟩,(⟨#[100,101,118,105,99,101]⟩:ByteArray),(⟨#[112,111,114,116]⟩:ByteArray),(⟨#[108,105,110,107]⟩:ByteArray),(⟨#[115,116,97,116,105,99]⟩:ByteArray),(⟨#[118,116,101,112]⟩:ByteArray),(⟨#[118,110,105]⟩:ByteArray),(⟨#[102,108,111,111,100]⟩:ByteArray),(⟨#[118,114,102]⟩:ByteArray),(⟨#[105,114,98]⟩:ByteArray)]
theorem Aiu (s:ByteArray) (i:Nat) (h1:1≤i) (hi:i<kindsL.length) (h:kindsL[i]=s):kindL s=i:=by
 have h10:kindsL.length=10:=rfl
 have hc:i=1∨i=2∨i=3∨i=4∨i=5∨i=6∨i=7∨i=8∨i=9:=by omega
 subst h
 rcases hc with rfl | rfl | rfl | rfl | rfl | rfl | rfl | rfl | rfl
 ·exact k1
 ·exact k2
 ·exact k3
 ·exact k4
 ·exact k5
 ·exact k6
 ·exact k7
 ·exact k8
 ·exact k9
theorem Aew (s:ByteArray) (h:∀ i (hi:i<kindsL.length),1≤i→kindsL[i]≠s):kindL s=0:=by
 have n:∀ i (hi:i<kindsL.length),1≤i→¬ s=kindsL[i]:=fun i hi h1 e=>h i hi h1 e.symm
 unfold kindL
 exact(if_neg (n 1 qe qe)).trans ((if_neg (n 2 qe qe)).trans ((if_neg (n 3 qe qe)).trans ((if_neg (n 4 qe qe)).trans ((if_neg (n 5 qe qe)).trans ((if_neg (n 6 qe qe)).trans ((if_neg (n 7 qe qe)).trans ((if_neg (n 8 qe qe)).trans (if_neg (n 9 qe qe)))))))))
theorem Agh (s:ByteArray):Sy.Spec Tryz.prog 198 [Ab s] [] (Aa (kindL s)) []:=cT F198 Tryz.ntmps198 fun F hF=>by
 have hat:=Aiu s
 have hnone:=Aew s
 have h10:kindsL.length=10:=rfl
 generalize kindL s=k at *
 refine T ?_
 refine C7 5 Ab kindsL q_ q_ ?_
 refine A5 5 q_ ?_
 generalize kindsL=P at *
 refine T ?_
 refine Av (fun i:Nat=>1≤i∧i≤P.length∧∀ j (hj:j<P.length),1≤j→j<i→P[j]≠s) (fun i=>[(0,Ab s),(3,.sl 1 Ab P),(4,Aa i)]) (fun _=>[]) (fun i=>P.length-i) 1 [] ⟨by omega,by omega,fun j hj h1 h2=>by omega⟩ U ?_
 rintro i ⟨h1,h2,h3⟩
 refine T ?_
 refine⟨fun h=>?_,fun h=>?_⟩
 ·have hlt:i<P.length:=qA h
  have hlt0:((i:Nat):Int).toNat<P.length:=hlt
  clear h
  by_cases e:P[((i:Nat):Int).toNat]'hlt0=s
  ·have f:=Bl e
   have:=hat i h1 hlt e
   subst this
   refine T ?_
   exact D
  ·have f:=B2 e
   refine T ?_
   refine Ag (i+1) [] ⟨by omega,hlt,fun j hj a b=>?_⟩ j_ U
   by_cases hji:j=i
   ·subst hji;exact e
   ·exact h3 j hj a j_
 ·have hje:i=P.length:=qB h
  clear h
  have:=hnone fun j hj a=>h3 j hj a j_
  subst this
  refine T ?_
  exact D
theorem Yv (l:LineM) (hl:l.tagged.length≤1000000):Sy.Spec Tryz.prog 200 [Ac l] [] (Af (membersB l.vlan l.tagged)) []:=cT F200 Tryz.ntmps200 fun F hF=>by
 have hm2:=membersB.eq_1 l.vlan l.tagged
 generalize membersB l.vlan l.tagged=r at *
 refine T ?_
 refine Aab 1 17 (Ac l) q_ q_ q_ ?_
 refine Av (fun j:Nat=>j≤l.tagged.length∧∀ k (hk:k<l.tagged.length),k<j→l.tagged[k]≠l.vlan) (fun j=>[(1,.ref 17 (Ac l) 0),(3,Aa j)]) (fun _=>[]) (fun j=>l.tagged.length-j) 0 [] ⟨by omega,fun k hk h=>by omega⟩ U ?_
 rintro j ⟨hj,hI⟩
 refine T ?_
 refine⟨fun h=>?_,fun h=>?_⟩
 ·have hlt:j<l.tagged.length:=qA h
  have hlt0:((j:Nat):Int).toNat<l.tagged.length:=hlt
  clear h
  by_cases e:l.tagged[((j:Nat):Int).toNat]'hlt0=l.vlan
  ·have f:(l.tagged[((j:Nat):Int).toNat]'hlt0 == l.vlan)=true:=by rw[beq_iff_eq];exact e
   have hr:r=false:=by
    rw[hm2]
    have:l.tagged.contains l.vlan=true:=by rw[List.contains_iff_mem,← e];exact List.getElem_mem _
    rw[this];simp
   subst hr
   refine T ?_
   exact D
  ·have f:(l.tagged[((j:Nat):Int).toNat]'hlt0 == l.vlan)=false:=by rw[beq_eq_false_iff_ne];exact e
   refine T ?_
   refine Ag (j+1) [] ⟨hlt,fun k hk hkj=>?_⟩ j_ U
   by_cases hji:k=j
   ·subst hji;exact e
   ·exact hI k hk j_
 ·have hje:j=l.tagged.length:=qB h
  clear h
  have hc:l.tagged.contains l.vlan=false:=by
   rw[Bool.eq_false_iff]
   intro hc
   rw[List.contains_iff_mem]at hc
   obtain ⟨k,hk,e⟩:=List.getElem_of_mem hc
   exact hI k hk j_ e
  rw[hc,Bool.not_false,Bool.and_true]at hm2
  by_cases v:0<l.vlan
  ·have f:decide (l.vlan>0)=true:=decide_eq_true v
   rw[decide_eq_true v,Bool.true_or]at hm2
   subst hm2
   refine T ?_
   exact D
  ·have f:decide (l.vlan>0)=false:=decide_eq_false v
   by_cases z:0<l.tagged.length
   ·have g:decide ((l.tagged.length:Int)>0)=true:=decide_eq_true j_
    have hr:r=true:=by rw[hm2];cases ht:l.tagged with | nil=>rw[ht]at z;cases z | cons=>simp
    subst hr
    refine T ?_
    refine Bv q_ (.cons .tmp .nil) (congrArg Af g.symm) q_
   ·have g:decide ((l.tagged.length:Int)>0)=false:=decide_eq_false j_
    have hr:r=false:=by rw[hm2,decide_eq_false v,List.length_eq_zero_iff.1 (by omega:l.tagged.length=0)];rfl
    subst hr
    refine T ?_
    refine Bv q_ (.cons .tmp .nil) (congrArg Af g.symm) q_
abbrev lnO (l:LineM):Obs:=[(0,.box (Ay l))]
theorem Agg (s:ByteArray) (n:Nat) (l:LineM):Sy.Spec Tryz.prog 257 [Ab s,Aa n,.ptr 0 0] (lnO l) (.tup []) (lnO (nameD s n l)):=cT F257 Tryz.ntmps257 fun F hF=>by
 have hd:=nameD.eq_1 s n l
 generalize nameD s n l=r at *
 by_cases h0:n=0
 ·have f:((n:Int) == 0)=true:=by rw[beq_iff_eq];omega
  rw[if_pos h0]at hd
  subst hd
  refine T ?_
  exact done rfl .nil [] (lnO { l with dev:=s }) (fun _ h=>h) rfl rfl U
 have f:((n:Int) == 0)=false:=by rw[beq_eq_false_iff_ne];omega
 rw[if_neg h0]at hd
 by_cases h8:l.kind=8
 ·have f8:(l.kind == 8)=true:=by rw[beq_iff_eq];exact h8
  rw[if_pos (.inl h8)]at hd
  subst hd
  refine T ?_
  exact done rfl .nil [] (lnO { l with name:=s }) (fun _ h=>h) rfl rfl U
 have f8:(l.kind == 8)=false:=by rw[beq_eq_false_iff_ne];exact h8
 by_cases h9:l.kind=9
 ·have f9:(l.kind == 9)=true:=by rw[beq_iff_eq];exact h9
  rw[if_pos (.inr h9)]at hd
  subst hd
  refine T ?_
  exact done rfl .nil [] (lnO { l with name:=s }) (fun _ h=>h) rfl rfl U
 have f9:(l.kind == 9)=false:=by rw[beq_eq_false_iff_ne];exact h9
 rw[if_neg (fun h=>h.elim h8 h9)]at hd
 by_cases h1:n=1
 ·subst h1
  rw[if_pos rfl]at hd
  subst hd
  refine T ?_
  exact B1 rfl .nil [] (lnO { l with port:=s }) (fun _ h=>h) rfl rfl U
 have g1:((n:Int) == 1)=false:=by rw[beq_eq_false_iff_ne];omega
 rw[if_neg h1]at hd
 by_cases h2:n=2
 ·subst h2
  rw[if_pos rfl]at hd
  subst hd
  refine T ?_
  exact B1 rfl .nil [] (lnO { l with peer:=s }) (fun _ h=>h) rfl rfl U
 have g2:((n:Int) == 2)=false:=by rw[beq_eq_false_iff_ne];omega
 rw[if_neg h2]at hd
 by_cases h3:n=3
 ·subst h3
  rw[if_pos rfl]at hd
  subst hd
  refine T ?_
  exact B1 rfl .nil [] (lnO { l with far:=s }) (fun _ h=>h) rfl rfl U
 have g3:((n:Int) == 3)=false:=by rw[beq_eq_false_iff_ne];omega
 rw[if_neg h3]at hd
 subst hd
 refine T ?_
 exact B1 q_ .nil [] (lnO r) (fun _ h=>h) q_ q_ U
theorem Ad8 (s:ByteArray) (n:Nat) (l:LineM) (hs:s.size≤1000000):Sy.Spec Tryz.prog 199 [Ak 78,Ab s,Aa n,.ptr 0 0] (lnO l) (Aa (A9 78 s n l).2) (lnO (A9 78 s n l).1):=cT F199 Tryz.ntmps199 fun F hF=>by
 have q1:=Aih s hs
 have q2:=Agg s n l
 rw[wkN]
 generalize nameD s n l=r at *
 cases hb:nameB s with
 | false =>
  rw[if_pos rfl]
  rw[hb]at q1
  refine T ?_
  refine C q1 F256 ?_
  exact done q_ (.cons .tmp .nil) [] (lnO l) (fun _ h=>h) q_ q_ U
 | true =>
  rw[if_neg qf]
  rw[hb]at q1
  refine T ?_
  refine C q1 F256 ?_
  refine X (Ae [] q_ F257 q2 q_ W q_ V) ?_
  exact done q_ (.cons .tmp .nil) [] (lnO r) (fun _ h=>h) q_ q_ U
theorem Aeb (s:ByteArray) (n:Nat) (l:LineM) (hs:s.size≤1000000):Sy.Spec Tryz.prog 199 [Ak 75,Ab s,Aa n,.ptr 0 0] (lnO l) (Aa (A9 75 s n l).2) (lnO (A9 75 s n l).1):=cT F199 Tryz.ntmps199 fun F hF=>by
 rw[wkK]
 by_cases h1:s=accessT
 ·have f1:(!(s == (⟨#[97,99,99,101,115,115]⟩:ByteArray)))=false:=D8 h1
  rw[if_neg (fun h=>h.1 h1)]
  refine T ?_
  exact done q_ (.cons .tmp .nil) [] (lnO l) (fun _ h=>h) q_ q_ U
 have f1:(!(s == (⟨#[97,99,99,101,115,115]⟩:ByteArray)))=true:=Ih h1
 by_cases h2:s=trunkT
 ·have f2:(!(s == (⟨#[116,114,117,110,107]⟩:ByteArray)))=false:=D8 h2
  rw[if_neg (fun h=>h.2 h2)]
  refine T ?_
  exact done q_ (.cons .tmp .nil) [] (lnO l) (fun _ h=>h) q_ q_ U
 have f2:(!(s == (⟨#[116,114,117,110,107]⟩:ByteArray)))=true:=Ih h2
 rw[if_pos ⟨h1,h2⟩]
 refine T ?_
 exact done q_ (.cons .tmp .nil) [] (lnO l) (fun _ h=>h) q_ q_ U
theorem Ad7 (s:ByteArray) (n:Nat) (l:LineM) (hs:s.size≤1000000):Sy.Spec Tryz.prog 199 [Ak 80,Ab s,Aa n,.ptr 0 0] (lnO l) (Aa (A9 80 s n l).2) (lnO (A9 80 s n l).1):=cT F199 Tryz.ntmps199 fun F hF=>by
 have q:Sy.Spec Tryz.prog 258 [Ab s,Aa 0,Aa 65535] [] (.tup [Aa (numR s 0 65535).1,Af (numR s 0 65535).2]) []:=K6 s 0 65535 qe hs
 rw[wkP]
 generalize numR s 0 65535=r at *
 obtain ⟨v,b⟩:=r
 cases b
 ·refine T ?_
  refine C q F258 ?_
  exact done rfl (.cons .tmp .nil) [] (lnO { l with num:=v }) (fun _ h=>h) rfl rfl U
 ·refine T ?_
  refine C q F258 ?_
  exact done rfl (.cons .tmp .nil) [] (lnO { l with num:=v }) (fun _ h=>h) rfl rfl U
theorem Aed (s:ByteArray) (n:Nat) (l:LineM) (hs:s.size≤1000000):Sy.Spec Tryz.prog 199 [Ak 67,Ab s,Aa n,.ptr 0 0] (lnO l) (Aa (A9 67 s n l).2) (lnO (A9 67 s n l).1):=cT F199 Tryz.ntmps199 fun F hF=>by
 have q:Sy.Spec Tryz.prog 258 [Ab s,Aa 1,Aa 65535] [] (.tup [Aa (numR s 1 65535).1,Af (numR s 1 65535).2]) []:=K6 s 1 65535 qe hs
 rw[wkC]
 generalize numR s 1 65535=r at *
 obtain ⟨v,b⟩:=r
 cases b
 ·refine T ?_
  refine C q F258 ?_
  exact done rfl (.cons .tmp .nil) [] (lnO { l with cost:=v }) (fun _ h=>h) rfl rfl U
 ·refine T ?_
  refine C q F258 ?_
  exact done rfl (.cons .tmp .nil) [] (lnO { l with cost:=v }) (fun _ h=>h) rfl rfl U
theorem Ad3 (s:ByteArray) (n:Nat) (l:LineM) (hs:s.size≤1000000):Sy.Spec Tryz.prog 199 [Ak 86,Ab s,Aa n,.ptr 0 0] (lnO l) (Aa (A9 86 s n l).2) (lnO (A9 86 s n l).1):=cT F199 Tryz.ntmps199 fun F hF=>by
 have q:Sy.Spec Tryz.prog 258 [Ab s,Aa 1,Aa 4094] [] (.tup [Aa (A1 s).1,Af (A1 s).2]) []:=K6 s 1 4094 qe hs
 rw[wkV]
 generalize A1 s=r at *
 obtain ⟨v,b⟩:=r
 cases b
 ·refine T ?_
  refine C q F258 ?_
  exact done rfl (.cons .tmp .nil) [] (lnO { l with vlan:=v }) (fun _ h=>h) rfl rfl U
 ·refine T ?_
  refine C q F258 ?_
  exact done rfl (.cons .tmp .nil) [] (lnO { l with vlan:=v }) (fun _ h=>h) rfl rfl U
theorem Aec (s:ByteArray) (n:Nat) (l:LineM) (hs:s.size≤1000000):Sy.Spec Tryz.prog 199 [Ak 73,Ab s,Aa n,.ptr 0 0] (lnO l) (Aa (A9 73 s n l).2) (lnO (A9 73 s n l).1):=cT F199 Tryz.ntmps199 fun F hF=>by
 have q:Sy.Spec Tryz.prog 258 [Ab s,Aa 1,Aa 16777215] [] (.tup [Aa (El s).1,Af (El s).2]) []:=K6 s 1 16777215 qe hs
 rw[wkI]
 generalize El s=r at *
 obtain ⟨v,b⟩:=r
 cases b
 ·refine T ?_
  refine C q F258 ?_
  exact done rfl (.cons .tmp .nil) [] (lnO { l with num:=v }) (fun _ h=>h) rfl rfl U
 ·refine T ?_
  refine C q F258 ?_
  exact done rfl (.cons .tmp .nil) [] (lnO { l with num:=v }) (fun _ h=>h) rfl rfl U
theorem Ad2 (s:ByteArray) (n:Nat) (l:LineM) (hs:s.size≤1000000):Sy.Spec Tryz.prog 199 [Ak 87,Ab s,Aa n,.ptr 0 0] (lnO l) (Aa (A9 87 s n l).2) (lnO (A9 87 s n l).1):=cT F199 Tryz.ntmps199 fun F hF=>by
 have q:Sy.Spec Tryz.prog 258 [Ab s,Aa 1,Aa 4094] [] (.tup [Aa (A1 s).1,Af (A1 s).2]) []:=K6 s 1 4094 qe hs
 rw[wkW]
 generalize A1 s=r at *
 obtain ⟨v,b⟩:=r
 cases b
 ·by_cases h:s=dash
  ·have f:(s == (⟨#[45]⟩:ByteArray))=true:=Bl h
   have f2:(!(s == (⟨#[45]⟩:ByteArray)))=false:=D8 h
   rw[decide_eq_true h]
   refine T ?_
   refine C q F258 ?_
   exact done rfl (.cons .tmp .nil) [] (lnO { l with vlan:=v }) (fun _ h=>h) rfl rfl U
  ·have f:(s == (⟨#[45]⟩:ByteArray))=false:=B2 h
   have f2:(!(s == (⟨#[45]⟩:ByteArray)))=true:=Ih h
   rw[decide_eq_false h]
   refine T ?_
   refine C q F258 ?_
   exact done rfl (.cons .tmp .nil) [] (lnO { l with vlan:=v }) (fun _ h=>h) rfl rfl U
 ·refine T ?_
  refine C q F258 ?_
  exact done rfl (.cons .tmp .nil) [] (lnO { l with vlan:=v }) (fun _ h=>h) rfl rfl U
theorem Ad9 (s:ByteArray) (n:Nat) (l:LineM) (hs:s.size≤1000000):Sy.Spec Tryz.prog 199 [Ak 77,Ab s,Aa n,.ptr 0 0] (lnO l) (Aa (A9 77 s n l).2) (lnO (A9 77 s n l).1):=cT F199 Tryz.ntmps199 fun F hF=>by
 have q:=Aii s
 obtain ⟨m,hm,hm2⟩:=T1 s
 have q2:=Ys m j_
 rw[wkM]
 generalize macR s=r at *
 obtain ⟨v,b⟩:=r
 dsimp only at hm
 subst hm
 generalize statB (m:Int)=g at *
 cases b
 ·refine T ?_
  refine C q F259 ?_
  exact done rfl (.cons .tmp .nil) [] (lnO { l with mac:=(m:Int) }) (fun _ h=>h) rfl rfl U
 ·cases g
  ·refine T ?_
   refine C q F259 ?_
   refine C q2 F260 ?_
   exact done rfl (.cons .tmp .nil) [] (lnO { l with mac:=(m:Int) }) (fun _ h=>h) rfl rfl U
  ·refine T ?_
   refine C q F259 ?_
   refine C q2 F260 ?_
   exact done rfl (.cons .tmp .nil) [] (lnO { l with mac:=(m:Int) }) (fun _ h=>h) rfl rfl U
theorem Ad4 (s:ByteArray) (n:Nat) (l:LineM) (hs:s.size≤1000000):Sy.Spec Tryz.prog 199 [Ak 84,Ab s,Aa n,.ptr 0 0] (lnO l) (Aa (A9 84 s n l).2) (lnO (A9 84 s n l).1):=cT F199 Tryz.ntmps199 fun F hF=>by
 have q:=Yw s 4094 hs
 rw[wkT]
 generalize listR 4094 s=r at *
 obtain ⟨v,b⟩:=r
 cases b
 ·refine T ?_
  refine C q F261 ?_
  exact done rfl (.cons .tmp .nil) [] (lnO { l with tagged:=v }) (fun _ h=>h) rfl rfl U
 ·refine T ?_
  refine C q F261 ?_
  exact done rfl (.cons .tmp .nil) [] (lnO { l with tagged:=v }) (fun _ h=>h) rfl rfl U
theorem Ad6 (s:ByteArray) (n:Nat) (l:LineM) (hs:s.size≤1000000):Sy.Spec Tryz.prog 199 [Ak 82,Ab s,Aa n,.ptr 0 0] (lnO l) (Aa (A9 82 s n l).2) (lnO (A9 82 s n l).1):=cT F199 Tryz.ntmps199 fun F hF=>by
 have q:=Yw s 65535 hs
 rw[wkR]
 generalize listR 65535 s=r at *
 obtain ⟨v,b⟩:=r
 cases b
 ·refine T ?_
  refine C q F261 ?_
  exact done rfl (.cons .tmp .nil) [] (lnO { l with imports:=l.exports,exports:=v }) (fun _ h=>h) rfl rfl U
 ·refine T ?_
  refine C q F261 ?_
  exact done rfl (.cons .tmp .nil) [] (lnO { l with imports:=l.exports,exports:=v }) (fun _ h=>h) rfl rfl U
theorem Aee (s:ByteArray) (n:Nat) (l:LineM) (hs:s.size≤1000000):Sy.Spec Tryz.prog 199 [Ak 65,Ab s,Aa n,.ptr 0 0] (lnO l) (Aa (A9 65 s n l).2) (lnO (A9 65 s n l).1):=cT F199 Tryz.ntmps199 fun F hF=>by
 have q:=Ws s hs
 rw[wkA]
 generalize A8 s=r at *
 obtain ⟨v,b⟩:=r
 cases b
 ·refine T ?_
  refine C q F262 ?_
  exact done rfl (.cons .tmp .nil) [] (lnO { l with addr:=v }) (fun _ h=>h) rfl rfl U
 ·by_cases h:0<v
  ·have f:decide (v>0)=true:=decide_eq_true h
   rw[decide_eq_true h]
   refine T ?_
   refine C q F262 ?_
   exact done rfl (.cons .tmp .nil) [] (lnO { l with addr:=v }) (fun _ h=>h) rfl rfl U
  ·have f:decide (v>0)=false:=decide_eq_false h
   rw[decide_eq_false h]
   refine T ?_
   refine C q F262 ?_
   exact done rfl (.cons .tmp .nil) [] (lnO { l with addr:=v }) (fun _ h=>h) rfl rfl U
theorem Aea (s:ByteArray) (n:Nat) (l:LineM) (hs:s.size≤1000000):Sy.Spec Tryz.prog 199 [Ak 76,Ab s,Aa n,.ptr 0 0] (lnO l) (Aa (A9 76 s n l).2) (lnO (A9 76 s n l).1):=cT F199 Tryz.ntmps199 fun F hF=>by
 have q:=Wq s hs
 have hpos:(Az s).2=true→0<(Az s).1.length:=fun h=>by
  obtain ⟨_,_,c,_⟩:=E9 A8 (Au 44 s) [] (Az s).1 (Jm h) List.Pairwise.nil qf
  rw[c,Df];simp
 rw[wkL]
 generalize Az s=r at *
 obtain ⟨v,b⟩:=r
 cases b
 ·refine T ?_
  refine C q F263 ?_
  exact done rfl (.cons .tmp .nil) [] (lnO { l with addrs:=v }) (fun _ h=>h) rfl rfl U
 ·have h0:(0:Int).toNat<v.length:=hpos rfl
  have hh:v.headD 0=v[(0:Int).toNat]'h0:=by
   cases v with
   | nil=>cases h0
   | cons x t=>rfl
  clear hpos
  dsimp only
  rw[hh]
  by_cases h:0<v[(0:Int).toNat]'h0
  ·have f:decide (v[(0:Int).toNat]'h0>0)=true:=decide_eq_true h
   have f2:(!(decide (v[(0:Int).toNat]'h0>0)))=false:=by rw[f];rfl
   rw[decide_eq_true h]
   refine T ?_
   refine C q F263 ?_
   exact done rfl (.cons .tmp .nil) [] (lnO { l with addrs:=v }) (fun _ h=>h) rfl rfl U
  ·have f:decide (v[(0:Int).toNat]'h0>0)=false:=decide_eq_false h
   have f2:(!(decide (v[(0:Int).toNat]'h0>0)))=true:=by rw[f];rfl
   rw[decide_eq_false h]
   refine T ?_
   refine C q F263 ?_
   exact done rfl (.cons .tmp .nil) [] (lnO { l with addrs:=v }) (fun _ h=>h) rfl rfl U
theorem Ad5 (s:ByteArray) (n:Nat) (l:LineM) (hs:s.size≤1000000):Sy.Spec Tryz.prog 199 [Ak 83,Ab s,Aa n,.ptr 0 0] (lnO l) (Aa (A9 83 s n l).2) (lnO (A9 83 s n l).1):=cT F199 Tryz.ntmps199 fun F hF=>by
 have q:=Uq s hs
 have hr:=Lq s
 obtain ⟨m,hm⟩:∃ m:Nat,(prefixR s).1.1=m:=⟨(prefixR s).1.1.toNat,by omega⟩
 rw[hm]at hr
 have q2:=Abm m (prefixR s).1.2 j_
 rw[wkS]
 generalize prefixR s=r at *
 obtain ⟨⟨a,v⟩,b⟩:=r
 dsimp only at hm q2
 subst hm
 generalize subnetB (m:Int) v=g at *
 cases b
 ·refine T ?_
  refine C q F264 ?_
  exact done rfl (.cons .tmp .nil) [] (lnO { l with addr:=(m:Int),bits:=v }) (fun _ h=>h) rfl rfl U
 ·cases g
  ·refine T ?_
   refine C q F264 ?_
   refine C q2 F265 ?_
   exact done rfl (.cons .tmp .nil) [] (lnO { l with addr:=(m:Int),bits:=v }) (fun _ h=>h) rfl rfl U
  ·refine T ?_
   refine C q F264 ?_
   refine C q2 F265 ?_
   exact done rfl (.cons .tmp .nil) [] (lnO { l with addr:=(m:Int),bits:=v }) (fun _ h=>h) rfl rfl U
theorem Agf (k:UInt8) (s:ByteArray) (n:Nat) (l:LineM) (hs:s.size≤1000000) (hk:k∈([78,75,80,67,77,86,87,84,73,65,76,82,83]:List UInt8)):Sy.Spec Tryz.prog 199 [Ak k,Ab s,Aa n,.ptr 0 0] (lnO l) (Aa (A9 k s n l).2) (lnO (A9 k s n l).1):=by
 simp only[List.mem_cons,List.not_mem_nil,or_false]at hk
 rcases hk with rfl | rfl | rfl | rfl | rfl | rfl | rfl | rfl | rfl | rfl | rfl | rfl | rfl
 ·exact Ad8 s n l hs
 ·exact Aeb s n l hs
 ·exact Ad7 s n l hs
 ·exact Aed s n l hs
 ·exact Ad9 s n l hs
 ·exact Ad3 s n l hs
 ·exact Ad2 s n l hs
 ·exact Ad4 s n l hs
 ·exact Aec s n l hs
 ·exact Aee s n l hs
 ·exact Aea s n l hs
 ·exact Ad6 s n l hs
 ·exact Ad5 s n l hs
def Hv (e:Int) (l:List (Bool × Int)):Int:=l.foldl (fun e x=>Aj e x.1 x.2) e
theorem Sc:∀ (l:List (Bool × Int)) (e:Int),(∀ x∈l,x.2≠0)→Hv e l=if e=0 then At l else e
 | [],e,_=>by
  show e=_
  split
  ·rename_i h;rw[h];rfl
  ·rfl
 | (b,c)::l,e,h=>by
  have hc:=h (b,c) qf
  have ih:=Sc l (Aj e b c) (fun x hx=>h x (by simp[hx]))
  show Hv (Aj e b c) l=_
  rw[ih,At]
  dsimp only at hc
  by_cases he:e=0
  ·subst he
   cases b with
   | true=>simp[Aj,hc]
   | false=>simp[Aj]
  ·have:Aj e b c=e:=by rw[Aj,if_neg (fun x=>he x.2)]
   rw[this,if_neg he,if_neg he]
theorem Cj (l:List (Bool × Int)) (h:∀ x∈l,x.2≠0):At l=Hv 0 l:=by rw[Sc l 0 h,if_pos rfl]
theorem K8 (e:Int) (a b:List (Bool × Int)):Hv e (a++b)=Hv (Hv e a) b:=List.foldl_append
abbrev rlO (w:List ByteArray) (i:Nat) (e:Int) (l:LineM):Obs:=[(0,.box [.sl 1 Ab w,Aa i,Aa e]),(1,.box (Ay l))]
def Agn (w:List ByteArray):Nat:=if wdT w 4=accessT then 6 else if wdT w 4=trunkT then 7 else 5
theorem Q7 (most:Int) (s:ByteArray):(listR most s).1.length≤16:=by
 rw[listR]
 split
 ·simp
 ·rw[Cn]
  cases h:Bj (fun p=>numR p 1 most) [] (Au 44 s) with
  | mk l b =>
   cases b with
   | true=>exact(E9 _ _ _ _ h List.Pairwise.nil qe).2.1
   | false =>
    have:∀ (ps:List ByteArray) (out r:List Int),Bj (fun p=>numR p 1 most) out ps=(r,false)→r=[]:=by
     intro ps
     induction ps with
     | nil=>intro out r h;rw[Bj]at h;simp at h
     | cons p ps ih =>
      intro out r h
      rw[Bj]at h
      split at h
      ·simp at h;exact h
      ·exact ih _ _ h
    rw[this _ _ _ h];simp
set_option maxRecDepth 100000 in
theorem Aig (w:List ByteArray) (e:Int) (l:LineM) (hw:w.length≤1000000) (hs:∀ s∈w,s.size≤40) (h4:4<w.length) (ha:wdT w 4=accessT→5<w.length) (htr:wdT w 4=trunkT→6<w.length) (hl0:l.vlan=0∧l.tagged=[]) :
  Sy.Spec Tryz.prog 186 [.ptr 0 0,.ptr 1 0] (rlO w 4 e l) (.tup []) (rlO w (Agn w) (Hv e ((Bs w).2.2++[(!(membersB (Bs w).1 (Bs w).2.1),21)])) { l with vlan:=(Bs w).1,tagged:=(Bs w).2.1 }):=cT F186 Tryz.ntmps186 fun F hF=>by
 obtain ⟨row,kind,dev,port,peer,far,name,mac,addr,bits,vlan,num,cost,tagged,imports,exports,addrs⟩:=l
 obtain ⟨g1,g2⟩:=hl0
 dsimp only at g1 g2
 subst g1 g2
 have q0:Sy.Spec Tryz.prog 188 [.ptr 0 0] (rdO w 4 e) (Ab (wdT w 4)) (rdO w 5 e):=Ir w 4 e h4 hw
 rw[Agn,Bs,K8]
 by_cases c1:wdT w 4=accessT
 ·have b1:(wdT w 4 == (⟨#[97,99,99,101,115,115]⟩:ByteArray))=true:=Bl c1
  have q1:=M8 w 5 e (ha c1) hw
  rw[if_pos c1,if_pos c1]
  have q2:=E1 ⟨row,kind,dev,port,peer,far,name,mac,addr,bits,(A1 (wdT w 5)).1,num,cost,[],imports,exports,addrs⟩ (by simp[Ec])
  dsimp only at q2 ⊢
  have hf1:Hv e [(!(A1 (wdT w 5)).2,21)]=Aj e (!(A1 (wdT w 5)).2) 21:=rfl
  rw[hf1]
  have q3:=fun b=>Ej w 6 (Aj e (!(A1 (wdT w 5)).2) 21) b 21
  generalize Aj e (!(A1 (wdT w 5)).2) 21=e1 at *
  generalize (A1 (wdT w 5)).1=v at *
  have hf2:Hv e1 [(!(membersB v []),21)]=Aj e1 (!(membersB v [])) 21:=rfl
  rw[hf2]
  have q3:=q3 (!(membersB v []))
  generalize Aj e1 (!(membersB v [])) 21=e2 at *
  generalize membersB v []=mb at *
  refine T ?_
  refine X (Ae [] q_ F188 q0 q_ W q_ V) ?_
  refine X (Ae [] q_ F182 q1 q_ W q_ V) ?_
  refine C q2 F239 ?_
  refine X (Ae [] q_ F185 q3 q_ W q_ V) ?_
  exact B1 q_ .nil [] (rlO w 6 e2 ⟨row,kind,dev,port,peer,far,name,mac,addr,bits,v,num,cost,[],imports,exports,addrs⟩) (fun _ h=>h) q_ q_ U
 ·have b1:(wdT w 4 == (⟨#[97,99,99,101,115,115]⟩:ByteArray))=false:=B2 c1
  rw[if_neg c1,if_neg c1]
  by_cases c2:wdT w 4=trunkT
  ·have b2:(wdT w 4 == (⟨#[116,114,117,110,107]⟩:ByteArray))=true:=Bl c2
   have h6:=htr c2
   have h5:((5:Nat):Int).toNat<w.length:=by show 5<w.length;omega
   have e5:w[((5:Nat):Int).toNat]'h5=wdT w 5:=(Br j_).symm
   rw[if_pos c2,if_pos c2]
   by_cases c3:wdT w 5=dash
   ·have b3:(w[((5:Nat):Int).toNat]'h5 == (⟨#[45]⟩:ByteArray))=true:=Bl (by rw[e5];exact c3)
    rw[if_pos c3]
    have q1:=Sz w 6 e 4094 h6 hw hs
    have q2:=E1 ⟨row,kind,dev,port,peer,far,name,mac,addr,bits,0,num,cost,(listR 4094 (wdT w 6)).1,imports,exports,addrs⟩ (by have:=Q7 4094 (wdT w 6);simp only[Ec];omega)
    dsimp only at q2 ⊢
    have hf1:Hv e [(!(listR 4094 (wdT w 6)).2,21)]=Aj e (!(listR 4094 (wdT w 6)).2) 21:=rfl
    rw[hf1]
    have q3:=fun b=>Ej w 7 (Aj e (!(listR 4094 (wdT w 6)).2) 21) b 21
    generalize Aj e (!(listR 4094 (wdT w 6)).2) 21=e1 at *
    generalize (listR 4094 (wdT w 6)).1=v at *
    have hf2:Hv e1 [(!(membersB 0 v),21)]=Aj e1 (!(membersB 0 v)) 21:=rfl
    rw[hf2]
    have q3:=q3 (!(membersB 0 v))
    generalize Aj e1 (!(membersB 0 v)) 21=e2 at *
    generalize membersB 0 v=mb at *
    refine T ?_
    refine X (Ae [] q_ F188 q0 q_ W q_ V) ?_
    refine X (Ae [] q_ F191 q1 q_ W q_ V) ?_
    refine C q2 F239 ?_
    refine X (Ae [] q_ F185 q3 q_ W q_ V) ?_
    exact B1 q_ .nil [] (rlO w 7 e2 ⟨row,kind,dev,port,peer,far,name,mac,addr,bits,0,num,cost,v,imports,exports,addrs⟩) (fun _ h=>h) q_ q_ U
   ·have b3:(w[((5:Nat):Int).toNat]'h5 == (⟨#[45]⟩:ByteArray))=false:=B2 (by rw[e5];exact c3)
    rw[if_neg c3]
    have q4:=M8 w 5 e j_ hw
    have hf1:Hv e [(!(A1 (wdT w 5)).2,21),(!(listR 4094 (wdT w 6)).2,21)]=Aj (Aj e (!(A1 (wdT w 5)).2) 21) (!(listR 4094 (wdT w 6)).2) 21:=rfl
    dsimp only
    rw[hf1]
    generalize Aj e (!(A1 (wdT w 5)).2) 21=e0 at *
    have q1:=Sz w 6 e0 4094 h6 hw hs
    have q2:=E1 ⟨row,kind,dev,port,peer,far,name,mac,addr,bits,(A1 (wdT w 5)).1,num,cost,(listR 4094 (wdT w 6)).1,imports,exports,addrs⟩ (by have:=Q7 4094 (wdT w 6);simp only[Ec];omega)
    dsimp only at q2
    have q3:=fun b=>Ej w 7 (Aj e0 (!(listR 4094 (wdT w 6)).2) 21) b 21
    generalize Aj e0 (!(listR 4094 (wdT w 6)).2) 21=e1 at *
    generalize (listR 4094 (wdT w 6)).1=v at *
    generalize (A1 (wdT w 5)).1=u at *
    have hf2:Hv e1 [(!(membersB u v),21)]=Aj e1 (!(membersB u v)) 21:=rfl
    rw[hf2]
    have q3:=q3 (!(membersB u v))
    generalize Aj e1 (!(membersB u v)) 21=e2 at *
    generalize membersB u v=mb at *
    refine T ?_
    refine X (Ae [] q_ F188 q0 q_ W q_ V) ?_
    refine X (Ae [] q_ F182 q4 q_ W q_ V) ?_
    refine X (Ae [] q_ F191 q1 q_ W q_ V) ?_
    refine C q2 F239 ?_
    refine X (Ae [] q_ F185 q3 q_ W q_ V) ?_
    exact B1 q_ .nil [] (rlO w 7 e2 ⟨row,kind,dev,port,peer,far,name,mac,addr,bits,u,num,cost,v,imports,exports,addrs⟩) (fun _ h=>h) q_ q_ U
  ·have b2:(wdT w 4 == (⟨#[116,114,117,110,107]⟩:ByteArray))=false:=B2 c2
   rw[if_neg c2,if_neg c2]
   have q2:=E1 ⟨row,kind,dev,port,peer,far,name,mac,addr,bits,0,num,cost,[],imports,exports,addrs⟩ (by simp[Ec])
   dsimp only at q2 ⊢
   have hf2:Hv (Hv e []) [(!(membersB 0 []),21)]=Aj e (!(membersB 0 [])) 21:=rfl
   rw[hf2]
   have q3:=Ej w 5 e (!(membersB 0 [])) 21
   generalize Aj e (!(membersB 0 [])) 21=e2 at *
   generalize membersB 0 []=mb at *
   refine T ?_
   refine X (Ae [] q_ F188 q0 q_ W q_ V) ?_
   refine C q2 F239 ?_
   refine X (Ae [] q_ F185 q3 q_ W q_ V) ?_
   exact B1 q_ .nil [] (rlO w 5 e2 ⟨row,kind,dev,port,peer,far,name,mac,addr,bits,0,num,cost,[],imports,exports,addrs⟩) (fun _ h=>h) q_ q_ U
theorem Q8 (s:ByteArray):0≤kindL s∧kindL s≤9:=by
 rw[kindL]
 repeat' split
 all_goals decide
theorem Eh {k:Int} {w:List ByteArray} (h:manyB k w=true):(k=1∨k=6∨k=7→w.length=4)∧(k=3∨k=4∨k=8∨k=9→w.length=5)∧(k=5→w.length=3)∧(k=2→6≤w.length∧w.length≤7∧(wdT w 4=trunkT→w.length=7))∧k≠0:=by
 rw[manyB]at h
 by_cases h0:k=0
 ·rw[if_pos h0]at h;cases h
 rw[if_neg h0]at h
 by_cases h2:k=2
 ·rw[if_pos h2]at h
  by_cases h6:w.length<6
  ·rw[if_pos h6]at h;cases h
  rw[if_neg h6]at h
  refine⟨fun x=>by omega,fun x=>by omega,fun x=>by omega,fun _=>?_,h0⟩
  by_cases ca:wdT w 4=accessT
  ·rw[if_pos ca]at h
   have:=of_decide_eq_true h
   refine⟨by omega,by omega,fun x=>?_⟩
   rw[ca]at x
   exact absurd x Qp
  ·rw[if_neg ca]at h
   by_cases ctr:wdT w 4=trunkT
   ·rw[if_pos ctr]at h
    have:=of_decide_eq_true h
    exact⟨by omega,by omega,fun _=>this⟩
   ·rw[if_neg ctr]at h
    have:=of_decide_eq_true h
    exact⟨by omega,by omega,fun x=>absurd x ctr⟩
 rw[if_neg h2]at h
 by_cases h3:k=3∨k=4∨k=8∨k=9
 ·rw[if_pos h3]at h
  have:=of_decide_eq_true h
  exact⟨fun x=>by omega,fun _=>this,fun x=>by omega,fun x=>by omega,h0⟩
 rw[if_neg h3]at h
 by_cases h5:k=5
 ·rw[if_pos h5]at h
  have:=of_decide_eq_true h
  exact⟨fun x=>by omega,fun x=>by omega,fun _=>this,fun x=>by omega,h0⟩
 rw[if_neg h5]at h
 have:=of_decide_eq_true h
 exact⟨fun _=>this,fun x=>by omega,fun x=>by omega,fun x=>absurd x h2,h0⟩
theorem Aa2 (w:List ByteArray) (row:Int) (hw:w.length≤1000000) (hs:∀ s∈w,s.size≤40) (hne:0<w.length) (hk:kindL (wdT w 0)=1) (hmy:manyB 1 w=true) :
  Sy.Spec Tryz.prog 111 [.sl 1 Ab w,Aa row] [] (.tup [Ac (Ba w row).1,Aa (Ba w row).2]) []:=cT F111 Tryz.ntmps111 fun F hF=>by
 have hn0:(0:Int).toNat<w.length:=hne
 have f0:((w.length:Int) == 0)=false:=by rw[beq_eq_false_iff_ne];omega
 have hx0:w[(0:Int).toNat]'hn0=wdT w 0:=(Br hne).symm
 have qk:Sy.Spec Tryz.prog 180 [Ab (w[(0:Int).toNat]'hn0)] [] (Aa 1) []:=by
  have:=Dw (wdT w 0)
  rw[hk]at this
  rw[hx0];exact this
 have qm:=Dv 1 qe w hw
 rw[hmy]at qm
 have hml:=Eh hmy
 have hsT:Ba w row=if At (Ap w row).2≠0 then (lineZ,At (Ap w row).2) else ((Ap w row).1,0):=by
  rw[Ba,if_neg]
  rintro (hh | hh)
  ·rw[hh]at hne;simp at hne
  ·rw[hk,hmy]at hh;cases hh
 have hfe:=Cj _ (Cu w row)
 have hl:w.length=4:=hml.1 qe
 have q1:=Di w 1 (0:Int) j_ hw hs
 obtain ⟨e1,he1⟩:∃ e,Aj (0:Int) (!(nameB (wdT w 1))) 20=e:=⟨_,rfl⟩
 rw[he1]at q1
 have q2:=K5 w 2 e1 0 65535 j_ hw
 obtain ⟨e2,he2⟩:∃ e,Aj e1 (!(numR (wdT w 2) 0 65535).2) 21=e:=⟨_,rfl⟩
 rw[he2]at q2
 have q3:=Aga w 3 e2 j_ hw hs
 obtain ⟨e3,he3⟩:∃ e,Aj e2 (macE (wdT w 3)) 21=e:=⟨_,rfl⟩
 rw[he3]at q3
 have hR:Ap w row=({ lineZ with row:=row,kind:=1,dev:=wdT w 1,num:=(numR (wdT w 2) 0 65535).1,mac:=(macR (wdT w 3)).1 },[((!(nameB (wdT w 1))),20),((!(numR (wdT w 2) 0 65535).2),21),((macE (wdT w 3)),21)]):=by
  unfold Ap
  simp only[hk]
  rfl
 rw[hR]at hsT hfe
 have hfe:At _=e3:=hfe.trans (by
  show Aj (Aj (Aj ((0:Int)) (!(nameB (wdT w 1))) 20) (!(numR (wdT w 2) 0 65535).2) 21) (macE (wdT w 3)) 21=_
  rw[he1,he2,he3])
 rw[hfe]at hsT
 rw[hsT]
 generalize e3=eN at *
 refine T ?_
 refine C qk F180 ?_
 refine C qm F179 ?_
 refine C qk F180 ?_
 refine An 9 (Ay { lineZ with row:=row,kind:=1 }) rfl (.cons (.refl _) (.cons (.refl _) (.cons (.refl _) (.cons (.refl _) (.cons (.refl _) (.cons (.refl _) (.cons (.refl _) (.cons (.refl _) (.cons (.refl _) (.cons (.refl _) (.cons (.refl _) (.cons (.refl _) (.cons (.refl _) (.cons .nil (.cons .nil (.cons .nil (.cons .nil .nil))))))))))))))))) ?_
 refine T ?_
 refine X (Ar [(0,31)] (As q_ q_ F181) q1 q_ W q_ V) ?_
 refine X (Ae [(0,31)] q_ F183 q2 q_ W q_ V) ?_
 refine X (Ae [(0,31)] q_ F184 q3 q_ W q_ V) ?_
 cases hz:(eN != 0)
 ·have hz0:eN=0:=by simpa using hz
  rw[if_neg (by rw[hz0];simp)]
  refine T ?_
  exact D
 ·have hz0:eN≠0:=by simpa using hz
  rw[if_pos hz0]
  refine T ?_
  refine An 4 (Ay lineZ) q_ (.cons (.refl _) (.cons (.refl _) (.cons (.refl _) (.cons (.refl _) (.cons (.refl _) (.cons (.refl _) (.cons (.refl _) (.cons (.refl _) (.cons (.refl _) (.cons (.refl _) (.cons (.refl _) (.cons (.refl _) (.cons (.refl _) (.cons .nil (.cons .nil (.cons .nil (.cons .nil .nil))))))))))))))))) ?_
  refine T ?_
  exact D
theorem Aa0 (w:List ByteArray) (row:Int) (hw:w.length≤1000000) (hs:∀ s∈w,s.size≤40) (hne:0<w.length) (hk:kindL (wdT w 0)=3) (hmy:manyB 3 w=true) :
  Sy.Spec Tryz.prog 111 [.sl 1 Ab w,Aa row] [] (.tup [Ac (Ba w row).1,Aa (Ba w row).2]) []:=cT F111 Tryz.ntmps111 fun F hF=>by
 have hn0:(0:Int).toNat<w.length:=hne
 have f0:((w.length:Int) == 0)=false:=by rw[beq_eq_false_iff_ne];omega
 have hx0:w[(0:Int).toNat]'hn0=wdT w 0:=(Br hne).symm
 have qk:Sy.Spec Tryz.prog 180 [Ab (w[(0:Int).toNat]'hn0)] [] (Aa 3) []:=by
  have:=Dw (wdT w 0)
  rw[hk]at this
  rw[hx0];exact this
 have qm:=Dv 3 qe w hw
 rw[hmy]at qm
 have hml:=Eh hmy
 have hsT:Ba w row=if At (Ap w row).2≠0 then (lineZ,At (Ap w row).2) else ((Ap w row).1,0):=by
  rw[Ba,if_neg]
  rintro (hh | hh)
  ·rw[hh]at hne;simp at hne
  ·rw[hk,hmy]at hh;cases hh
 have hfe:=Cj _ (Cu w row)
 have hl:w.length=5:=hml.2.1 qe
 have q1:=Di w 1 (0:Int) j_ hw hs
 obtain ⟨e1,he1⟩:∃ e,Aj (0:Int) (!(nameB (wdT w 1))) 20=e:=⟨_,rfl⟩
 rw[he1]at q1
 have q2:=Di w 2 e1 j_ hw hs
 obtain ⟨e2,he2⟩:∃ e,Aj e1 (!(nameB (wdT w 2))) 20=e:=⟨_,rfl⟩
 rw[he2]at q2
 have q3:=Di w 3 e2 j_ hw hs
 obtain ⟨e3,he3⟩:∃ e,Aj e2 (!(nameB (wdT w 3))) 20=e:=⟨_,rfl⟩
 rw[he3]at q3
 have q4:=Di w 4 e3 j_ hw hs
 obtain ⟨e4,he4⟩:∃ e,Aj e3 (!(nameB (wdT w 4))) 20=e:=⟨_,rfl⟩
 rw[he4]at q4
 have hR:Ap w row=({ lineZ with row:=row,kind:=3,dev:=wdT w 1,port:=wdT w 2,peer:=wdT w 3,far:=wdT w 4 },[((!(nameB (wdT w 1))),20),((!(nameB (wdT w 2))),20),((!(nameB (wdT w 3))),20),((!(nameB (wdT w 4))),20)]):=by
  unfold Ap
  simp only[hk]
  rfl
 rw[hR]at hsT hfe
 have hfe:At _=e4:=hfe.trans (by
  show Aj (Aj (Aj (Aj ((0:Int)) (!(nameB (wdT w 1))) 20) (!(nameB (wdT w 2))) 20) (!(nameB (wdT w 3))) 20) (!(nameB (wdT w 4))) 20=_
  rw[he1,he2,he3,he4])
 rw[hfe]at hsT
 rw[hsT]
 generalize e4=eN at *
 refine T ?_
 refine C qk F180 ?_
 refine C qm F179 ?_
 refine C qk F180 ?_
 refine An 9 (Ay { lineZ with row:=row,kind:=3 }) rfl (.cons (.refl _) (.cons (.refl _) (.cons (.refl _) (.cons (.refl _) (.cons (.refl _) (.cons (.refl _) (.cons (.refl _) (.cons (.refl _) (.cons (.refl _) (.cons (.refl _) (.cons (.refl _) (.cons (.refl _) (.cons (.refl _) (.cons .nil (.cons .nil (.cons .nil (.cons .nil .nil))))))))))))))))) ?_
 refine T ?_
 refine X (Ar [(0,31)] (As q_ q_ F181) q1 q_ W q_ V) ?_
 refine X (Ar [(0,31)] (As q_ q_ F181) q2 q_ W q_ V) ?_
 refine X (Ar [(0,31)] (As q_ q_ F181) q3 q_ W q_ V) ?_
 refine X (Ar [(0,31)] (As q_ q_ F181) q4 q_ W q_ V) ?_
 cases hz:(eN != 0)
 ·have hz0:eN=0:=by simpa using hz
  rw[if_neg (by rw[hz0];simp)]
  refine T ?_
  exact D
 ·have hz0:eN≠0:=by simpa using hz
  rw[if_pos hz0]
  refine T ?_
  refine An 4 (Ay lineZ) q_ (.cons (.refl _) (.cons (.refl _) (.cons (.refl _) (.cons (.refl _) (.cons (.refl _) (.cons (.refl _) (.cons (.refl _) (.cons (.refl _) (.cons (.refl _) (.cons (.refl _) (.cons (.refl _) (.cons (.refl _) (.cons (.refl _) (.cons .nil (.cons .nil (.cons .nil (.cons .nil .nil))))))))))))))))) ?_
  refine T ?_
  exact D
theorem Aaz (w:List ByteArray) (row:Int) (hw:w.length≤1000000) (hs:∀ s∈w,s.size≤40) (hne:0<w.length) (hk:kindL (wdT w 0)=4) (hmy:manyB 4 w=true) :
  Sy.Spec Tryz.prog 111 [.sl 1 Ab w,Aa row] [] (.tup [Ac (Ba w row).1,Aa (Ba w row).2]) []:=cT F111 Tryz.ntmps111 fun F hF=>by
 have hn0:(0:Int).toNat<w.length:=hne
 have f0:((w.length:Int) == 0)=false:=by rw[beq_eq_false_iff_ne];omega
 have hx0:w[(0:Int).toNat]'hn0=wdT w 0:=(Br hne).symm
 have qk:Sy.Spec Tryz.prog 180 [Ab (w[(0:Int).toNat]'hn0)] [] (Aa 4) []:=by
  have:=Dw (wdT w 0)
  rw[hk]at this
  rw[hx0];exact this
 have qm:=Dv 4 qe w hw
 rw[hmy]at qm
 have hml:=Eh hmy
 have hsT:Ba w row=if At (Ap w row).2≠0 then (lineZ,At (Ap w row).2) else ((Ap w row).1,0):=by
  rw[Ba,if_neg]
  rintro (hh | hh)
  ·rw[hh]at hne;simp at hne
  ·rw[hk,hmy]at hh;cases hh
 have hfe:=Cj _ (Cu w row)
 have hl:w.length=5:=hml.2.1 qe
 have q1:=Di w 1 (0:Int) j_ hw hs
 obtain ⟨e1,he1⟩:∃ e,Aj (0:Int) (!(nameB (wdT w 1))) 20=e:=⟨_,rfl⟩
 rw[he1]at q1
 have q2:=M8 w 2 e1 j_ hw
 obtain ⟨e2,he2⟩:∃ e,Aj e1 (!(A1 (wdT w 2)).2) 21=e:=⟨_,rfl⟩
 rw[he2]at q2
 have q3:=Aga w 3 e2 j_ hw hs
 obtain ⟨e3,he3⟩:∃ e,Aj e2 (macE (wdT w 3)) 21=e:=⟨_,rfl⟩
 rw[he3]at q3
 have q4:=Di w 4 e3 j_ hw hs
 obtain ⟨e4,he4⟩:∃ e,Aj e3 (!(nameB (wdT w 4))) 20=e:=⟨_,rfl⟩
 rw[he4]at q4
 have hR:Ap w row=({ lineZ with row:=row,kind:=4,dev:=wdT w 1,vlan:=(A1 (wdT w 2)).1,mac:=(macR (wdT w 3)).1,port:=wdT w 4 },[((!(nameB (wdT w 1))),20),((!(A1 (wdT w 2)).2),21),((macE (wdT w 3)),21),((!(nameB (wdT w 4))),20)]):=by
  unfold Ap
  simp only[hk]
  rfl
 rw[hR]at hsT hfe
 have hfe:At _=e4:=hfe.trans (by
  show Aj (Aj (Aj (Aj ((0:Int)) (!(nameB (wdT w 1))) 20) (!(A1 (wdT w 2)).2) 21) (macE (wdT w 3)) 21) (!(nameB (wdT w 4))) 20=_
  rw[he1,he2,he3,he4])
 rw[hfe]at hsT
 rw[hsT]
 generalize e4=eN at *
 refine T ?_
 refine C qk F180 ?_
 refine C qm F179 ?_
 refine C qk F180 ?_
 refine An 9 (Ay { lineZ with row:=row,kind:=4 }) rfl (.cons (.refl _) (.cons (.refl _) (.cons (.refl _) (.cons (.refl _) (.cons (.refl _) (.cons (.refl _) (.cons (.refl _) (.cons (.refl _) (.cons (.refl _) (.cons (.refl _) (.cons (.refl _) (.cons (.refl _) (.cons (.refl _) (.cons .nil (.cons .nil (.cons .nil (.cons .nil .nil))))))))))))))))) ?_
 refine T ?_
 refine X (Ar [(0,31)] (As q_ q_ F181) q1 q_ W q_ V) ?_
 refine X (Ar [(0,31)] (As q_ q_ F182) q2 q_ W q_ V) ?_
 refine X (Ae [(0,31)] q_ F184 q3 q_ W q_ V) ?_
 refine X (Ar [(0,31)] (As q_ q_ F181) q4 q_ W q_ V) ?_
 cases hz:(eN != 0)
 ·have hz0:eN=0:=by simpa using hz
  rw[if_neg (by rw[hz0];simp)]
  refine T ?_
  exact D
 ·have hz0:eN≠0:=by simpa using hz
  rw[if_pos hz0]
  refine T ?_
  refine An 4 (Ay lineZ) q_ (.cons (.refl _) (.cons (.refl _) (.cons (.refl _) (.cons (.refl _) (.cons (.refl _) (.cons (.refl _) (.cons (.refl _) (.cons (.refl _) (.cons (.refl _) (.cons (.refl _) (.cons (.refl _) (.cons (.refl _) (.cons (.refl _) (.cons .nil (.cons .nil (.cons .nil (.cons .nil .nil))))))))))))))))) ?_
  refine T ?_
  exact D
theorem Aax (w:List ByteArray) (row:Int) (hw:w.length≤1000000) (hs:∀ s∈w,s.size≤40) (hne:0<w.length) (hk:kindL (wdT w 0)=6) (hmy:manyB 6 w=true) :
  Sy.Spec Tryz.prog 111 [.sl 1 Ab w,Aa row] [] (.tup [Ac (Ba w row).1,Aa (Ba w row).2]) []:=cT F111 Tryz.ntmps111 fun F hF=>by
 have hn0:(0:Int).toNat<w.length:=hne
 have f0:((w.length:Int) == 0)=false:=by rw[beq_eq_false_iff_ne];omega
 have hx0:w[(0:Int).toNat]'hn0=wdT w 0:=(Br hne).symm
 have qk:Sy.Spec Tryz.prog 180 [Ab (w[(0:Int).toNat]'hn0)] [] (Aa 6) []:=by
  have:=Dw (wdT w 0)
  rw[hk]at this
  rw[hx0];exact this
 have qm:=Dv 6 qe w hw
 rw[hmy]at qm
 have hml:=Eh hmy
 have hsT:Ba w row=if At (Ap w row).2≠0 then (lineZ,At (Ap w row).2) else ((Ap w row).1,0):=by
  rw[Ba,if_neg]
  rintro (hh | hh)
  ·rw[hh]at hne;simp at hne
  ·rw[hk,hmy]at hh;cases hh
 have hfe:=Cj _ (Cu w row)
 have hl:w.length=4:=hml.1 qe
 have q1:=Di w 1 (0:Int) j_ hw hs
 obtain ⟨e1,he1⟩:∃ e,Aj (0:Int) (!(nameB (wdT w 1))) 20=e:=⟨_,rfl⟩
 rw[he1]at q1
 have q2:=M8 w 2 e1 j_ hw
 obtain ⟨e2,he2⟩:∃ e,Aj e1 (!(A1 (wdT w 2)).2) 21=e:=⟨_,rfl⟩
 rw[he2]at q2
 have q3:=Af9 w 3 e2 j_ hw
 obtain ⟨e3,he3⟩:∃ e,Aj e2 (!(El (wdT w 3)).2) 21=e:=⟨_,rfl⟩
 rw[he3]at q3
 have hR:Ap w row=({ lineZ with row:=row,kind:=6,dev:=wdT w 1,vlan:=(A1 (wdT w 2)).1,num:=(El (wdT w 3)).1 },[((!(nameB (wdT w 1))),20),((!(A1 (wdT w 2)).2),21),((!(El (wdT w 3)).2),21)]):=by
  unfold Ap
  simp only[hk]
  rfl
 rw[hR]at hsT hfe
 have hfe:At _=e3:=hfe.trans (by
  show Aj (Aj (Aj ((0:Int)) (!(nameB (wdT w 1))) 20) (!(A1 (wdT w 2)).2) 21) (!(El (wdT w 3)).2) 21=_
  rw[he1,he2,he3])
 rw[hfe]at hsT
 rw[hsT]
 generalize e3=eN at *
 refine T ?_
 refine C qk F180 ?_
 refine C qm F179 ?_
 refine C qk F180 ?_
 refine An 9 (Ay { lineZ with row:=row,kind:=6 }) rfl (.cons (.refl _) (.cons (.refl _) (.cons (.refl _) (.cons (.refl _) (.cons (.refl _) (.cons (.refl _) (.cons (.refl _) (.cons (.refl _) (.cons (.refl _) (.cons (.refl _) (.cons (.refl _) (.cons (.refl _) (.cons (.refl _) (.cons .nil (.cons .nil (.cons .nil (.cons .nil .nil))))))))))))))))) ?_
 refine T ?_
 refine X (Ar [(0,31)] (As q_ q_ F181) q1 q_ W q_ V) ?_
 refine X (Ar [(0,31)] (As q_ q_ F182) q2 q_ W q_ V) ?_
 refine X (Ae [(0,31)] q_ F189 q3 q_ W q_ V) ?_
 cases hz:(eN != 0)
 ·have hz0:eN=0:=by simpa using hz
  rw[if_neg (by rw[hz0];simp)]
  refine T ?_
  exact D
 ·have hz0:eN≠0:=by simpa using hz
  rw[if_pos hz0]
  refine T ?_
  refine An 4 (Ay lineZ) q_ (.cons (.refl _) (.cons (.refl _) (.cons (.refl _) (.cons (.refl _) (.cons (.refl _) (.cons (.refl _) (.cons (.refl _) (.cons (.refl _) (.cons (.refl _) (.cons (.refl _) (.cons (.refl _) (.cons (.refl _) (.cons (.refl _) (.cons .nil (.cons .nil (.cons .nil (.cons .nil .nil))))))))))))))))) ?_
  refine T ?_
  exact D
theorem Aav (w:List ByteArray) (row:Int) (hw:w.length≤1000000) (hs:∀ s∈w,s.size≤40) (hne:0<w.length) (hk:kindL (wdT w 0)=8) (hmy:manyB 8 w=true) :
  Sy.Spec Tryz.prog 111 [.sl 1 Ab w,Aa row] [] (.tup [Ac (Ba w row).1,Aa (Ba w row).2]) []:=cT F111 Tryz.ntmps111 fun F hF=>by
 have hn0:(0:Int).toNat<w.length:=hne
 have f0:((w.length:Int) == 0)=false:=by rw[beq_eq_false_iff_ne];omega
 have hx0:w[(0:Int).toNat]'hn0=wdT w 0:=(Br hne).symm
 have qk:Sy.Spec Tryz.prog 180 [Ab (w[(0:Int).toNat]'hn0)] [] (Aa 8) []:=by
  have:=Dw (wdT w 0)
  rw[hk]at this
  rw[hx0];exact this
 have qm:=Dv 8 qe w hw
 rw[hmy]at qm
 have hml:=Eh hmy
 have hsT:Ba w row=if At (Ap w row).2≠0 then (lineZ,At (Ap w row).2) else ((Ap w row).1,0):=by
  rw[Ba,if_neg]
  rintro (hh | hh)
  ·rw[hh]at hne;simp at hne
  ·rw[hk,hmy]at hh;cases hh
 have hfe:=Cj _ (Cu w row)
 have hl:w.length=5:=hml.2.1 qe
 have q1:=Di w 1 (0:Int) j_ hw hs
 obtain ⟨e1,he1⟩:∃ e,Aj (0:Int) (!(nameB (wdT w 1))) 20=e:=⟨_,rfl⟩
 rw[he1]at q1
 have q2:=Di w 2 e1 j_ hw hs
 obtain ⟨e2,he2⟩:∃ e,Aj e1 (!(nameB (wdT w 2))) 20=e:=⟨_,rfl⟩
 rw[he2]at q2
 have q3:=Sz w 3 e2 65535 j_ hw hs
 obtain ⟨e3,he3⟩:∃ e,Aj e2 (!(listR 65535 (wdT w 3)).2) 21=e:=⟨_,rfl⟩
 rw[he3]at q3
 have q4:=Sz w 4 e3 65535 j_ hw hs
 obtain ⟨e4,he4⟩:∃ e,Aj e3 (!(listR 65535 (wdT w 4)).2) 21=e:=⟨_,rfl⟩
 rw[he4]at q4
 have hR:Ap w row=({ lineZ with row:=row,kind:=8,dev:=wdT w 1,name:=wdT w 2,imports:=(listR 65535 (wdT w 3)).1,exports:=(listR 65535 (wdT w 4)).1 },[((!(nameB (wdT w 1))),20),((!(nameB (wdT w 2))),20),((!(listR 65535 (wdT w 3)).2),21),((!(listR 65535 (wdT w 4)).2),21)]):=by
  unfold Ap
  simp only[hk]
  rfl
 rw[hR]at hsT hfe
 have hfe:At _=e4:=hfe.trans (by
  show Aj (Aj (Aj (Aj ((0:Int)) (!(nameB (wdT w 1))) 20) (!(nameB (wdT w 2))) 20) (!(listR 65535 (wdT w 3)).2) 21) (!(listR 65535 (wdT w 4)).2) 21=_
  rw[he1,he2,he3,he4])
 rw[hfe]at hsT
 rw[hsT]
 generalize e4=eN at *
 refine T ?_
 refine C qk F180 ?_
 refine C qm F179 ?_
 refine C qk F180 ?_
 refine An 9 (Ay { lineZ with row:=row,kind:=8 }) rfl (.cons (.refl _) (.cons (.refl _) (.cons (.refl _) (.cons (.refl _) (.cons (.refl _) (.cons (.refl _) (.cons (.refl _) (.cons (.refl _) (.cons (.refl _) (.cons (.refl _) (.cons (.refl _) (.cons (.refl _) (.cons (.refl _) (.cons .nil (.cons .nil (.cons .nil (.cons .nil .nil))))))))))))))))) ?_
 refine T ?_
 refine X (Ar [(0,31)] (As q_ q_ F181) q1 q_ W q_ V) ?_
 refine X (Ar [(0,31)] (As q_ q_ F181) q2 q_ W q_ V) ?_
 refine X (Ae [(0,31)] q_ F191 q3 q_ W q_ V) ?_
 refine X (Ae [(0,31)] q_ F191 q4 q_ W q_ V) ?_
 cases hz:(eN != 0)
 ·have hz0:eN=0:=by simpa using hz
  rw[if_neg (by rw[hz0];simp)]
  refine T ?_
  exact D
 ·have hz0:eN≠0:=by simpa using hz
  rw[if_pos hz0]
  refine T ?_
  refine An 4 (Ay lineZ) q_ (.cons (.refl _) (.cons (.refl _) (.cons (.refl _) (.cons (.refl _) (.cons (.refl _) (.cons (.refl _) (.cons (.refl _) (.cons (.refl _) (.cons (.refl _) (.cons (.refl _) (.cons (.refl _) (.cons (.refl _) (.cons (.refl _) (.cons .nil (.cons .nil (.cons .nil (.cons .nil .nil))))))))))))))))) ?_
  refine T ?_
  exact D
theorem Aay (w:List ByteArray) (row:Int) (hw:w.length≤1000000) (hs:∀ s∈w,s.size≤40) (hne:0<w.length) (hk:kindL (wdT w 0)=5) (hmy:manyB 5 w=true) :
  Sy.Spec Tryz.prog 111 [.sl 1 Ab w,Aa row] [] (.tup [Ac (Ba w row).1,Aa (Ba w row).2]) []:=cT F111 Tryz.ntmps111 fun F hF=>by
 have hn0:(0:Int).toNat<w.length:=hne
 have f0:((w.length:Int) == 0)=false:=by rw[beq_eq_false_iff_ne];omega
 have hx0:w[(0:Int).toNat]'hn0=wdT w 0:=(Br hne).symm
 have qk:Sy.Spec Tryz.prog 180 [Ab (w[(0:Int).toNat]'hn0)] [] (Aa 5) []:=by
  have:=Dw (wdT w 0)
  rw[hk]at this
  rw[hx0];exact this
 have qm:=Dv 5 qe w hw
 rw[hmy]at qm
 have hml:=Eh hmy
 have hsT:Ba w row=if At (Ap w row).2≠0 then (lineZ,At (Ap w row).2) else ((Ap w row).1,0):=by
  rw[Ba,if_neg]
  rintro (hh | hh)
  ·rw[hh]at hne;simp at hne
  ·rw[hk,hmy]at hh;cases hh
 have hfe:=Cj _ (Cu w row)
 have hl:w.length=3:=hml.2.2.1 rfl
 have q1:=Di w 1 (0:Int) j_ hw hs
 obtain ⟨e1,he1⟩:∃ e,Aj (0:Int) (!(nameB (wdT w 1))) 20=e:=⟨_,rfl⟩
 rw[he1]at q1
 have qn:=Ir w 2 e1 j_ hw
 have hsz:(wdT w 2).size≤40:=by rw[Br (by omega:2<w.length)];exact hs _ (List.getElem_mem _)
 have qa:=Qo (wdT w 2) j_
 have q2:=Ej w 3 e1 (!((A8 (wdT w 2)).2 && decide ((A8 (wdT w 2)).1≠0))) 21
 obtain ⟨e2,he2⟩:∃ e,Aj e1 (!((A8 (wdT w 2)).2 && decide ((A8 (wdT w 2)).1≠0))) 21=e:=⟨_,rfl⟩
 rw[he2]at q2
 have hR:Ap w row=({ lineZ with row:=row,kind:=5,dev:=wdT w 1,addr:=(A8 (wdT w 2)).1 },[((!(nameB (wdT w 1))),20),((!((A8 (wdT w 2)).2 && decide ((A8 (wdT w 2)).1≠0))),21)]):=by
  unfold Ap
  simp only[hk]
  rfl
 rw[hR]at hsT hfe
 have hfe:At _=e2:=hfe.trans (by
  show Aj (Aj ((0:Int)) (!(nameB (wdT w 1))) 20) (!((A8 (wdT w 2)).2 && decide ((A8 (wdT w 2)).1≠0))) 21=_
  rw[he1,he2])
 rw[hfe]at hsT
 rw[hsT]
 generalize e2=eN at *
 clear hR hsT hfe he2
 generalize A8 (wdT w 2)=rt at *
 obtain ⟨av,ok⟩:=rt
 dsimp only at qa q2 ⊢
 cases ok
 ·have q2:Sy.Spec Tryz.prog 185 [.ptr 0 0,Af true,Aa 21] (rdO w 3 e1) (.tup []) (rdO w 3 eN):=q2
  refine T ?_
  refine C qk F180 ?_
  refine C qm F179 ?_
  refine C qk F180 ?_
  refine An 9 (Ay { lineZ with row:=row,kind:=5 }) rfl (.cons (.refl _) (.cons (.refl _) (.cons (.refl _) (.cons (.refl _) (.cons (.refl _) (.cons (.refl _) (.cons (.refl _) (.cons (.refl _) (.cons (.refl _) (.cons (.refl _) (.cons (.refl _) (.cons (.refl _) (.cons (.refl _) (.cons .nil (.cons .nil (.cons .nil (.cons .nil .nil))))))))))))))))) ?_
  refine T ?_
  refine X (Ar [(0,31)] (As q_ q_ F181) q1 q_ W q_ V) ?_
  refine X (Ae [(0,31)] q_ F188 qn q_ W q_ V) ?_
  refine C qa F187 ?_
  refine X (Ae [(0,31)] q_ F185 q2 q_ W q_ V) ?_
  cases hz:(eN != 0)
  ·have hz0:eN=0:=by simpa using hz
   rw[if_neg (by rw[hz0];simp)]
   refine T ?_
   exact D
  ·have hz0:eN≠0:=by simpa using hz
   rw[if_pos hz0]
   refine T ?_
   refine An 4 (Ay lineZ) q_ (.cons (.refl _) (.cons (.refl _) (.cons (.refl _) (.cons (.refl _) (.cons (.refl _) (.cons (.refl _) (.cons (.refl _) (.cons (.refl _) (.cons (.refl _) (.cons (.refl _) (.cons (.refl _) (.cons (.refl _) (.cons (.refl _) (.cons .nil (.cons .nil (.cons .nil (.cons .nil .nil))))))))))))))))) ?_
   refine T ?_
   exact D
 ·have hb:(!(true && decide (av≠0)))=(av == 0):=by
   by_cases h:av=0
   ·rw[h];rfl
   ·rw[decide_eq_true h,beq_eq_false_iff_ne.2 h];rfl
  rw[hb]at q2
  refine T ?_
  refine C qk F180 ?_
  refine C qm F179 ?_
  refine C qk F180 ?_
  refine An 9 (Ay { lineZ with row:=row,kind:=5 }) rfl (.cons (.refl _) (.cons (.refl _) (.cons (.refl _) (.cons (.refl _) (.cons (.refl _) (.cons (.refl _) (.cons (.refl _) (.cons (.refl _) (.cons (.refl _) (.cons (.refl _) (.cons (.refl _) (.cons (.refl _) (.cons (.refl _) (.cons .nil (.cons .nil (.cons .nil (.cons .nil .nil))))))))))))))))) ?_
  refine T ?_
  refine X (Ar [(0,31)] (As q_ q_ F181) q1 q_ W q_ V) ?_
  refine X (Ae [(0,31)] q_ F188 qn q_ W q_ V) ?_
  refine C qa F187 ?_
  refine X (Ae [(0,31)] q_ F185 q2 q_ W q_ V) ?_
  cases hz:(eN != 0)
  ·have hz0:eN=0:=by simpa using hz
   rw[if_neg (by rw[hz0];simp)]
   refine T ?_
   exact D
  ·have hz0:eN≠0:=by simpa using hz
   rw[if_pos hz0]
   refine T ?_
   refine An 4 (Ay lineZ) q_ (.cons (.refl _) (.cons (.refl _) (.cons (.refl _) (.cons (.refl _) (.cons (.refl _) (.cons (.refl _) (.cons (.refl _) (.cons (.refl _) (.cons (.refl _) (.cons (.refl _) (.cons (.refl _) (.cons (.refl _) (.cons (.refl _) (.cons .nil (.cons .nil (.cons .nil (.cons .nil .nil))))))))))))))))) ?_
   refine T ?_
   exact D
theorem Aaw (w:List ByteArray) (row:Int) (hw:w.length≤1000000) (hs:∀ s∈w,s.size≤40) (hne:0<w.length) (hk:kindL (wdT w 0)=7) (hmy:manyB 7 w=true) :
  Sy.Spec Tryz.prog 111 [.sl 1 Ab w,Aa row] [] (.tup [Ac (Ba w row).1,Aa (Ba w row).2]) []:=cT F111 Tryz.ntmps111 fun F hF=>by
 have hn0:(0:Int).toNat<w.length:=hne
 have f0:((w.length:Int) == 0)=false:=by rw[beq_eq_false_iff_ne];omega
 have hx0:w[(0:Int).toNat]'hn0=wdT w 0:=(Br hne).symm
 have qk:Sy.Spec Tryz.prog 180 [Ab (w[(0:Int).toNat]'hn0)] [] (Aa 7) []:=by
  have:=Dw (wdT w 0)
  rw[hk]at this
  rw[hx0];exact this
 have qm:=Dv 7 qe w hw
 rw[hmy]at qm
 have hml:=Eh hmy
 have hsT:Ba w row=if At (Ap w row).2≠0 then (lineZ,At (Ap w row).2) else ((Ap w row).1,0):=by
  rw[Ba,if_neg]
  rintro (hh | hh)
  ·rw[hh]at hne;simp at hne
  ·rw[hk,hmy]at hh;cases hh
 have hfe:=Cj _ (Cu w row)
 have hl:w.length=4:=hml.1 qe
 have q1:=Di w 1 (0:Int) j_ hw hs
 obtain ⟨e1,he1⟩:∃ e,Aj (0:Int) (!(nameB (wdT w 1))) 20=e:=⟨_,rfl⟩
 rw[he1]at q1
 have q2:=Af9 w 2 e1 j_ hw
 obtain ⟨e2,he2⟩:∃ e,Aj e1 (!(El (wdT w 2)).2) 21=e:=⟨_,rfl⟩
 rw[he2]at q2
 have qn:=Ir w 3 e2 j_ hw
 have hsz:(wdT w 3).size≤40:=by rw[Br (by omega:3<w.length)];exact hs _ (List.getElem_mem _)
 have qa:=Uv (wdT w 3) j_
 have hpos:(Az (wdT w 3)).2=true→0<(Az (wdT w 3)).1.length:=fun h=>by
  have hp:=Jm h
  rw[Az,Cn]at hp ⊢
  have:=(E9 _ _ _ _ hp List.Pairwise.nil qe).2.2.1
  rw[this,Df];simp
 have q3:=Ej w 4 e2 (!((Az (wdT w 3)).2 && decide ((Az (wdT w 3)).1.head? ≠ some 0))) 21
 obtain ⟨e3,he3⟩:∃ e,Aj e2 (!((Az (wdT w 3)).2 && decide ((Az (wdT w 3)).1.head? ≠ some 0))) 21=e:=⟨_,rfl⟩
 rw[he3]at q3
 have hR:Ap w row=({ lineZ with row:=row,kind:=7,dev:=wdT w 1,num:=(El (wdT w 2)).1,addrs:=(Az (wdT w 3)).1 },[((!(nameB (wdT w 1))),20),((!(El (wdT w 2)).2),21),((!((Az (wdT w 3)).2 && decide ((Az (wdT w 3)).1.head? ≠ some 0))),21)]):=by
  unfold Ap
  simp only[hk]
  rfl
 rw[hR]at hsT hfe
 have hfe:At _=e3:=hfe.trans (by
  show Aj (Aj (Aj ((0:Int)) (!(nameB (wdT w 1))) 20) (!(El (wdT w 2)).2) 21) (!((Az (wdT w 3)).2 && decide ((Az (wdT w 3)).1.head? ≠ some 0))) 21=_
  rw[he1,he2,he3])
 rw[hfe]at hsT
 rw[hsT]
 generalize e3=eN at *
 clear hR hsT hfe he3
 generalize Az (wdT w 3)=rt at *
 obtain ⟨av,ok⟩:=rt
 dsimp only at qa q3 hpos ⊢
 cases ok
 ·have q3:Sy.Spec Tryz.prog 185 [.ptr 0 0,Af true,Aa 21] (rdO w 4 e2) (.tup []) (rdO w 4 eN):=q3
  refine T ?_
  refine C qk F180 ?_
  refine C qm F179 ?_
  refine C qk F180 ?_
  refine An 9 (Ay { lineZ with row:=row,kind:=7 }) rfl (.cons (.refl _) (.cons (.refl _) (.cons (.refl _) (.cons (.refl _) (.cons (.refl _) (.cons (.refl _) (.cons (.refl _) (.cons (.refl _) (.cons (.refl _) (.cons (.refl _) (.cons (.refl _) (.cons (.refl _) (.cons (.refl _) (.cons .nil (.cons .nil (.cons .nil (.cons .nil .nil))))))))))))))))) ?_
  refine T ?_
  refine X (Ar [(0,31)] (As q_ q_ F181) q1 q_ W q_ V) ?_
  refine X (Ae [(0,31)] q_ F189 q2 q_ W q_ V) ?_
  refine X (Ae [(0,31)] q_ F188 qn q_ W q_ V) ?_
  refine C qa F190 ?_
  refine X (Ae [(0,31)] q_ F185 q3 q_ W q_ V) ?_
  cases hz:(eN != 0)
  ·have hz0:eN=0:=by simpa using hz
   rw[if_neg (by rw[hz0];simp)]
   refine T ?_
   exact D
  ·have hz0:eN≠0:=by simpa using hz
   rw[if_pos hz0]
   refine T ?_
   refine An 4 (Ay lineZ) q_ (.cons (.refl _) (.cons (.refl _) (.cons (.refl _) (.cons (.refl _) (.cons (.refl _) (.cons (.refl _) (.cons (.refl _) (.cons (.refl _) (.cons (.refl _) (.cons (.refl _) (.cons (.refl _) (.cons (.refl _) (.cons (.refl _) (.cons .nil (.cons .nil (.cons .nil (.cons .nil .nil))))))))))))))))) ?_
   refine T ?_
   exact D
 ·have h0:(0:Int).toNat<av.length:=hpos rfl
  have hb:(!(true && decide (av.head? ≠ some 0)))=(av[(0:Int).toNat]'h0 == 0):=by
   cases av with
   | nil=>exact absurd h0 qf
   | cons a r =>
    show (!(true && decide (some a≠some 0)))=(a == 0)
    by_cases h:a=0
    ·rw[h];rfl
    ·rw[beq_eq_false_iff_ne.2 h,decide_eq_true (by simpa using h)];rfl
  rw[hb]at q3
  refine T ?_
  refine C qk F180 ?_
  refine C qm F179 ?_
  refine C qk F180 ?_
  refine An 9 (Ay { lineZ with row:=row,kind:=7 }) rfl (.cons (.refl _) (.cons (.refl _) (.cons (.refl _) (.cons (.refl _) (.cons (.refl _) (.cons (.refl _) (.cons (.refl _) (.cons (.refl _) (.cons (.refl _) (.cons (.refl _) (.cons (.refl _) (.cons (.refl _) (.cons (.refl _) (.cons .nil (.cons .nil (.cons .nil (.cons .nil .nil))))))))))))))))) ?_
  refine T ?_
  refine X (Ar [(0,31)] (As q_ q_ F181) q1 q_ W q_ V) ?_
  refine X (Ae [(0,31)] q_ F189 q2 q_ W q_ V) ?_
  refine X (Ae [(0,31)] q_ F188 qn q_ W q_ V) ?_
  refine C qa F190 ?_
  refine X (Ae [(0,31)] q_ F185 q3 q_ W q_ V) ?_
  cases hz:(eN != 0)
  ·have hz0:eN=0:=by simpa using hz
   rw[if_neg (by rw[hz0];simp)]
   refine T ?_
   exact D
  ·have hz0:eN≠0:=by simpa using hz
   rw[if_pos hz0]
   refine T ?_
   refine An 4 (Ay lineZ) q_ (.cons (.refl _) (.cons (.refl _) (.cons (.refl _) (.cons (.refl _) (.cons (.refl _) (.cons (.refl _) (.cons (.refl _) (.cons (.refl _) (.cons (.refl _) (.cons (.refl _) (.cons (.refl _) (.cons (.refl _) (.cons (.refl _) (.cons .nil (.cons .nil (.cons .nil (.cons .nil .nil))))))))))))))))) ?_
   refine T ?_
   exact D
theorem Wt (s:ByteArray):∃ m:Nat,(prefixR s).1.1=m∧m<4294967296:=by
 rw[prefixR]
 split
 ·exact⟨0,q_,by decide⟩
 ·have h1:=Ey (cutT 47 s).1
  have h2:=Jw (cutT 47 s).1
  exact⟨(A8 (cutT 47 s).1).1.toNat,(Int.toNat_of_nonneg h1).symm,by omega⟩
theorem Aau (w:List ByteArray) (row:Int) (hw:w.length≤1000000) (hs:∀ s∈w,s.size≤40) (hne:0<w.length) (hk:kindL (wdT w 0)=9) (hmy:manyB 9 w=true) :
  Sy.Spec Tryz.prog 111 [.sl 1 Ab w,Aa row] [] (.tup [Ac (Ba w row).1,Aa (Ba w row).2]) []:=cT F111 Tryz.ntmps111 fun F hF=>by
 have hn0:(0:Int).toNat<w.length:=hne
 have f0:((w.length:Int) == 0)=false:=by rw[beq_eq_false_iff_ne];omega
 have hx0:w[(0:Int).toNat]'hn0=wdT w 0:=(Br hne).symm
 have qk:Sy.Spec Tryz.prog 180 [Ab (w[(0:Int).toNat]'hn0)] [] (Aa 9) []:=by
  have:=Dw (wdT w 0)
  rw[hk]at this
  rw[hx0];exact this
 have qm:=Dv 9 qe w hw
 rw[hmy]at qm
 have hml:=Eh hmy
 have hsT:Ba w row=if At (Ap w row).2≠0 then (lineZ,At (Ap w row).2) else ((Ap w row).1,0):=by
  rw[Ba,if_neg]
  rintro (hh | hh)
  ·rw[hh]at hne;simp at hne
  ·rw[hk,hmy]at hh;cases hh
 have hfe:=Cj _ (Cu w row)
 have hl:w.length=5:=hml.2.1 qe
 have q1:=Di w 1 (0:Int) j_ hw hs
 obtain ⟨e1,he1⟩:∃ e,Aj (0:Int) (!(nameB (wdT w 1))) 20=e:=⟨_,rfl⟩
 rw[he1]at q1
 have q2:=M8 w 2 e1 j_ hw
 obtain ⟨e2,he2⟩:∃ e,Aj e1 (!(A1 (wdT w 2)).2) 21=e:=⟨_,rfl⟩
 rw[he2]at q2
 have q3:=Di w 3 e2 j_ hw hs
 obtain ⟨e3,he3⟩:∃ e,Aj e2 (!(nameB (wdT w 3))) 20=e:=⟨_,rfl⟩
 rw[he3]at q3
 have qn:=Ir w 4 e3 j_ hw
 have hsz:(wdT w 4).size≤40:=by rw[Br (by omega:4<w.length)];exact hs _ (List.getElem_mem _)
 have qa:=Z8 (wdT w 4) j_
 have hrg:=Wt (wdT w 4)
 have q4:=Ej w 5 e3 (!((prefixR (wdT w 4)).2 && subnetB (prefixR (wdT w 4)).1.1 (prefixR (wdT w 4)).1.2)) 21
 obtain ⟨e4,he4⟩:∃ e,Aj e3 (!((prefixR (wdT w 4)).2 && subnetB (prefixR (wdT w 4)).1.1 (prefixR (wdT w 4)).1.2)) 21=e:=⟨_,rfl⟩
 rw[he4]at q4
 have hR:Ap w row=({ lineZ with row:=row,kind:=9,dev:=wdT w 1,vlan:=(A1 (wdT w 2)).1,name:=wdT w 3,addr:=(prefixR (wdT w 4)).1.1,bits:=(prefixR (wdT w 4)).1.2 },[((!(nameB (wdT w 1))),20),((!(A1 (wdT w 2)).2),21),((!(nameB (wdT w 3))),20),((!((prefixR (wdT w 4)).2 && subnetB (prefixR (wdT w 4)).1.1 (prefixR (wdT w 4)).1.2)),21)]):=by
  unfold Ap
  simp only[hk]
  rfl
 rw[hR]at hsT hfe
 have hfe:At _=e4:=hfe.trans (by
  show Aj (Aj (Aj (Aj ((0:Int)) (!(nameB (wdT w 1))) 20) (!(A1 (wdT w 2)).2) 21) (!(nameB (wdT w 3))) 20) (!((prefixR (wdT w 4)).2 && subnetB (prefixR (wdT w 4)).1.1 (prefixR (wdT w 4)).1.2)) 21=_
  rw[he1,he2,he3,he4])
 rw[hfe]at hsT
 rw[hsT]
 generalize e4=eN at *
 clear hR hsT hfe he4
 obtain ⟨m,hm1,hm2⟩:=hrg
 generalize prefixR (wdT w 4)=rt at *
 obtain ⟨⟨av,bv⟩,ok⟩:=rt
 dsimp only at qa q4 hm1 ⊢
 subst hm1
 have qs:=Qt m bv hm2
 generalize subnetB (m:Int) bv=sb at *
 cases ok
 ·have q4:Sy.Spec Tryz.prog 185 [.ptr 0 0,Af true,Aa 21] (rdO w 5 e3) (.tup []) (rdO w 5 eN):=q4
  refine T ?_
  refine C qk F180 ?_
  refine C qm F179 ?_
  refine C qk F180 ?_
  refine An 9 (Ay { lineZ with row:=row,kind:=9 }) rfl (.cons (.refl _) (.cons (.refl _) (.cons (.refl _) (.cons (.refl _) (.cons (.refl _) (.cons (.refl _) (.cons (.refl _) (.cons (.refl _) (.cons (.refl _) (.cons (.refl _) (.cons (.refl _) (.cons (.refl _) (.cons (.refl _) (.cons .nil (.cons .nil (.cons .nil (.cons .nil .nil))))))))))))))))) ?_
  refine T ?_
  refine X (Ar [(0,31)] (As q_ q_ F181) q1 q_ W q_ V) ?_
  refine X (Ar [(0,31)] (As q_ q_ F182) q2 q_ W q_ V) ?_
  refine X (Ar [(0,31)] (As q_ q_ F181) q3 q_ W q_ V) ?_
  refine X (Ae [(0,31)] q_ F188 qn q_ W q_ V) ?_
  refine C qa F192 ?_
  refine X (Ae [(0,31)] q_ F185 q4 q_ W q_ V) ?_
  cases hz:(eN != 0)
  ·have hz0:eN=0:=by simpa using hz
   rw[if_neg (by rw[hz0];simp)]
   refine T ?_
   exact D
  ·have hz0:eN≠0:=by simpa using hz
   rw[if_pos hz0]
   refine T ?_
   refine An 4 (Ay lineZ) q_ (.cons (.refl _) (.cons (.refl _) (.cons (.refl _) (.cons (.refl _) (.cons (.refl _) (.cons (.refl _) (.cons (.refl _) (.cons (.refl _) (.cons (.refl _) (.cons (.refl _) (.cons (.refl _) (.cons (.refl _) (.cons (.refl _) (.cons .nil (.cons .nil (.cons .nil (.cons .nil .nil))))))))))))))))) ?_
   refine T ?_
   exact D
 ·have hb:(!(true && sb))=!sb:=rfl
  rw[hb]at q4
  refine T ?_
  refine C qk F180 ?_
  refine C qm F179 ?_
  refine C qk F180 ?_
  refine An 9 (Ay { lineZ with row:=row,kind:=9 }) rfl (.cons (.refl _) (.cons (.refl _) (.cons (.refl _) (.cons (.refl _) (.cons (.refl _) (.cons (.refl _) (.cons (.refl _) (.cons (.refl _) (.cons (.refl _) (.cons (.refl _) (.cons (.refl _) (.cons (.refl _) (.cons (.refl _) (.cons .nil (.cons .nil (.cons .nil (.cons .nil .nil))))))))))))))))) ?_
  refine T ?_
  refine X (Ar [(0,31)] (As q_ q_ F181) q1 q_ W q_ V) ?_
  refine X (Ar [(0,31)] (As q_ q_ F182) q2 q_ W q_ V) ?_
  refine X (Ar [(0,31)] (As q_ q_ F181) q3 q_ W q_ V) ?_
  refine X (Ae [(0,31)] q_ F188 qn q_ W q_ V) ?_
  refine C qa F192 ?_
  refine C qs F193 ?_
  refine X (Ae [(0,31)] q_ F185 q4 q_ W q_ V) ?_
  cases hz:(eN != 0)
  ·have hz0:eN=0:=by simpa using hz
   rw[if_neg (by rw[hz0];simp)]
   refine T ?_
   exact D
  ·have hz0:eN≠0:=by simpa using hz
   rw[if_pos hz0]
   refine T ?_
   refine An 4 (Ay lineZ) q_ (.cons (.refl _) (.cons (.refl _) (.cons (.refl _) (.cons (.refl _) (.cons (.refl _) (.cons (.refl _) (.cons (.refl _) (.cons (.refl _) (.cons (.refl _) (.cons (.refl _) (.cons (.refl _) (.cons (.refl _) (.cons (.refl _) (.cons .nil (.cons .nil (.cons .nil (.cons .nil .nil))))))))))))))))) ?_
   refine T ?_
   exact D
theorem Aa1 (w:List ByteArray) (row:Int) (hw:w.length≤1000000) (hs:∀ s∈w,s.size≤40) (hne:0<w.length) (hk:kindL (wdT w 0)=2) (hmy:manyB 2 w=true) :
  Sy.Spec Tryz.prog 111 [.sl 1 Ab w,Aa row] [] (.tup [Ac (Ba w row).1,Aa (Ba w row).2]) []:=cT F111 Tryz.ntmps111 fun F hF=>by
 have hn0:(0:Int).toNat<w.length:=hne
 have f0:((w.length:Int) == 0)=false:=by rw[beq_eq_false_iff_ne];omega
 have hx0:w[(0:Int).toNat]'hn0=wdT w 0:=(Br hne).symm
 have qk:Sy.Spec Tryz.prog 180 [Ab (w[(0:Int).toNat]'hn0)] [] (Aa 2) []:=by
  have:=Dw (wdT w 0)
  rw[hk]at this
  rw[hx0];exact this
 have qm:=Dv 2 qe w hw
 rw[hmy]at qm
 have hml:=Eh hmy
 have hsT:Ba w row=if At (Ap w row).2≠0 then (lineZ,At (Ap w row).2) else ((Ap w row).1,0):=by
  rw[Ba,if_neg]
  rintro (hh | hh)
  ·rw[hh]at hne;simp at hne
  ·rw[hk,hmy]at hh;cases hh
 have hfe:=Cj _ (Cu w row)
 have hl:6≤w.length∧w.length≤7∧(wdT w 4=trunkT→w.length=7):=hml.2.2.2.1 rfl
 have q1:=Di w 1 (0:Int) j_ hw hs
 obtain ⟨e1,he1⟩:∃ e,Aj (0:Int) (!(nameB (wdT w 1))) 20=e:=⟨_,rfl⟩
 rw[he1]at q1
 have q2:=Di w 2 e1 j_ hw hs
 obtain ⟨e2,he2⟩:∃ e,Aj e1 (!(nameB (wdT w 2))) 20=e:=⟨_,rfl⟩
 rw[he2]at q2
 have q3:=K5 w 3 e2 1 65535 j_ hw
 obtain ⟨e3,he3⟩:∃ e,Aj e2 (!(numR (wdT w 3) 1 65535).2) 21=e:=⟨_,rfl⟩
 rw[he3]at q3
 have q4:=Ej w 4 e3 (decide (wdT w 4≠accessT) && decide (wdT w 4≠trunkT)) 20
 obtain ⟨e4,he4⟩:∃ e,Aj e3 (decide (wdT w 4≠accessT) && decide (wdT w 4≠trunkT)) 20=e:=⟨_,rfl⟩
 rw[he4]at q4
 have qp:=Aig w e4 { lineZ with row:=row,kind:=2,dev:=wdT w 1,port:=wdT w 2,cost:=(numR (wdT w 3) 1 65535).1 } hw hs j_ (fun x=>by
  have h6:w.length=6:=by
   have hm3:=hmy
   rw[manyB,if_neg qe,if_pos rfl,if_neg j_,if_pos x]at hm3
   exact of_decide_eq_true hm3
  omega) (fun x=>by have:=hl.2.2 x;omega) ⟨rfl,rfl⟩
 have hR:Ap w row=({ lineZ with row:=row,kind:=2,dev:=wdT w 1,port:=wdT w 2,cost:=(numR (wdT w 3) 1 65535).1,vlan:=(Bs w).1,tagged:=(Bs w).2.1 },
   [((!(nameB (wdT w 1))),20),((!(nameB (wdT w 2))),20),((!(numR (wdT w 3) 1 65535).2),21),((decide (wdT w 4≠accessT) && decide (wdT w 4≠trunkT)),20)]++(Bs w).2.2++[(!(membersB (Bs w).1 (Bs w).2.1),21)]):=by
  unfold Ap
  simp only[hk]
  rfl
 rw[hR]at hsT hfe
 have hfe:At _=Hv e4 ((Bs w).2.2++[(!(membersB (Bs w).1 (Bs w).2.1),21)]):=hfe.trans (by
  rw[K8,K8,K8]
  congr 2
  show Aj (Aj (Aj (Aj ((0:Int)) (!(nameB (wdT w 1))) 20) (!(nameB (wdT w 2))) 20) (!(numR (wdT w 3) 1 65535).2) 21) (decide (wdT w 4≠accessT) && decide (wdT w 4≠trunkT)) 20=_
  rw[he1,he2,he3,he4])
 rw[hfe]at hsT
 rw[hsT]
 clear hR hsT hfe he4
 dsimp only at qp ⊢
 generalize Hv e4 ((Bs w).2.2++[(!(membersB (Bs w).1 (Bs w).2.1),21)])=eN at *
 generalize Bs w=pr at *
 have hn4:(4:Int).toNat<w.length:=by show 4<w.length;omega
 have hx4:w[(4:Int).toNat]'hn4=wdT w 4:=(Br j_).symm
 by_cases ca:wdT w 4=accessT
 ·have g1:(!(w[(4:Int).toNat]'hn4 == (⟨#[97,99,99,101,115,115]⟩:ByteArray)))=false:=D8 (by rw[hx4];exact ca)
  have q4:Sy.Spec Tryz.prog 185 [.ptr 0 0,Af false,Aa 20] (rdO w 4 e3) (.tup []) (rdO w 4 e4):=by
   rw[decide_eq_false (fun x=>x ca)]at q4;exact q4
  refine T ?_
  refine C qk F180 ?_
  refine C qm F179 ?_
  refine C qk F180 ?_
  refine An 9 (Ay { lineZ with row:=row,kind:=2 }) rfl (.cons (.refl _) (.cons (.refl _) (.cons (.refl _) (.cons (.refl _) (.cons (.refl _) (.cons (.refl _) (.cons (.refl _) (.cons (.refl _) (.cons (.refl _) (.cons (.refl _) (.cons (.refl _) (.cons (.refl _) (.cons (.refl _) (.cons .nil (.cons .nil (.cons .nil (.cons .nil .nil))))))))))))))))) ?_
  refine T ?_
  refine X (Ar [(0,31)] (As q_ q_ F181) q1 q_ W q_ V) ?_
  refine X (Ar [(0,31)] (As q_ q_ F181) q2 q_ W q_ V) ?_
  refine X (Ae [(0,31)] q_ F183 q3 q_ W q_ V) ?_
  refine X (Ae [(0,31)] q_ F185 q4 q_ W q_ V) ?_
  refine X (Ae [(0,31),(1,9)] q_ F186 qp q_ W q_ V) ?_
  cases hz:(eN != 0)
  ·have hz0:eN=0:=by simpa using hz
   rw[if_neg (by rw[hz0];simp)]
   refine T ?_
   exact D
  ·have hz0:eN≠0:=by simpa using hz
   rw[if_pos hz0]
   refine T ?_
   refine An 4 (Ay lineZ) q_ (.cons (.refl _) (.cons (.refl _) (.cons (.refl _) (.cons (.refl _) (.cons (.refl _) (.cons (.refl _) (.cons (.refl _) (.cons (.refl _) (.cons (.refl _) (.cons (.refl _) (.cons (.refl _) (.cons (.refl _) (.cons (.refl _) (.cons .nil (.cons .nil (.cons .nil (.cons .nil .nil))))))))))))))))) ?_
   refine T ?_
   exact D
 ·have g1:(!(w[(4:Int).toNat]'hn4 == (⟨#[97,99,99,101,115,115]⟩:ByteArray)))=true:=Ih (by rw[hx4];exact ca)
  have hb:(decide (wdT w 4≠accessT) && decide (wdT w 4≠trunkT))=!(w[(4:Int).toNat]'hn4 == (⟨#[116,114,117,110,107]⟩:ByteArray)):=by
   rw[decide_eq_true ca,Bool.true_and,hx4]
   show decide (wdT w 4≠trunkT)=!(wdT w 4 == trunkT)
   by_cases cr:wdT w 4=trunkT
   ·rw[D8 cr,decide_eq_false (fun x:wdT w 4≠trunkT=>x cr)]
   ·rw[Ih cr,decide_eq_true cr]
  rw[hb]at q4
  refine T ?_
  refine C qk F180 ?_
  refine C qm F179 ?_
  refine C qk F180 ?_
  refine An 9 (Ay { lineZ with row:=row,kind:=2 }) rfl (.cons (.refl _) (.cons (.refl _) (.cons (.refl _) (.cons (.refl _) (.cons (.refl _) (.cons (.refl _) (.cons (.refl _) (.cons (.refl _) (.cons (.refl _) (.cons (.refl _) (.cons (.refl _) (.cons (.refl _) (.cons (.refl _) (.cons .nil (.cons .nil (.cons .nil (.cons .nil .nil))))))))))))))))) ?_
  refine T ?_
  refine X (Ar [(0,31)] (As q_ q_ F181) q1 q_ W q_ V) ?_
  refine X (Ar [(0,31)] (As q_ q_ F181) q2 q_ W q_ V) ?_
  refine X (Ae [(0,31)] q_ F183 q3 q_ W q_ V) ?_
  refine X (Ae [(0,31)] q_ F185 q4 q_ W q_ V) ?_
  refine X (Ae [(0,31),(1,9)] q_ F186 qp q_ W q_ V) ?_
  cases hz:(eN != 0)
  ·have hz0:eN=0:=by simpa using hz
   rw[if_neg (by rw[hz0];simp)]
   refine T ?_
   exact D
  ·have hz0:eN≠0:=by simpa using hz
   rw[if_pos hz0]
   refine T ?_
   refine An 4 (Ay lineZ) q_ (.cons (.refl _) (.cons (.refl _) (.cons (.refl _) (.cons (.refl _) (.cons (.refl _) (.cons (.refl _) (.cons (.refl _) (.cons (.refl _) (.cons (.refl _) (.cons (.refl _) (.cons (.refl _) (.cons (.refl _) (.cons (.refl _) (.cons .nil (.cons .nil (.cons .nil (.cons .nil .nil))))))))))))))))) ?_
   refine T ?_
   exact D
theorem Adr (w:List ByteArray) (row:Int) (hw:w.length≤1000000) (hs:∀ s∈w,s.size≤40):Sy.Spec Tryz.prog 111 [.sl 1 Ab w,Aa row] [] (.tup [Ac (Ba w row).1,Aa (Ba w row).2]) []:=by
 by_cases hne:0<w.length
 ·cases hmy:manyB (kindL (wdT w 0)) w with
  | true =>
   have hr:=Q8 (wdT w 0)
   have h0:=(Eh hmy).2.2.2.2
   rcases (by omega:kindL (wdT w 0)=1∨kindL (wdT w 0)=2∨kindL (wdT w 0)=3∨kindL (wdT w 0)=4∨kindL (wdT w 0)=5∨kindL (wdT w 0)=6∨kindL (wdT w 0)=7∨kindL (wdT w 0)=8∨kindL (wdT w 0)=9) with h | h | h | h | h | h | h | h | h
   ·exact Aa2 w row hw hs hne h (by rw[h]at hmy;exact hmy)
   ·exact Aa1 w row hw hs hne h (by rw[h]at hmy;exact hmy)
   ·exact Aa0 w row hw hs hne h (by rw[h]at hmy;exact hmy)
   ·exact Aaz w row hw hs hne h (by rw[h]at hmy;exact hmy)
   ·exact Aay w row hw hs hne h (by rw[h]at hmy;exact hmy)
   ·exact Aax w row hw hs hne h (by rw[h]at hmy;exact hmy)
   ·exact Aaw w row hw hs hne h (by rw[h]at hmy;exact hmy)
   ·exact Aav w row hw hs hne h (by rw[h]at hmy;exact hmy)
   ·exact Aau w row hw hs hne h (by rw[h]at hmy;exact hmy)
  | false =>
   have hsT:Ba w row=(lineZ,22):=by rw[Ba,if_pos (.inr hmy)]
   rw[hsT]
   refine Hd Γ hm 100 F111 Tryz.ntmps111 q_ fun F hF=>by
    have hn0:(0:Int).toNat<w.length:=hne
    have f0:((w.length:Int) == 0)=false:=by rw[beq_eq_false_iff_ne];omega
    have hx0:w[(0:Int).toNat]'hn0=wdT w 0:=(Br hne).symm
    have qk:Sy.Spec Tryz.prog 180 [Ab (w[(0:Int).toNat]'hn0)] [] (Aa (kindL (wdT w 0))) []:=by
     rw[hx0];exact Dw (wdT w 0)
    have qm:=Dv (kindL (wdT w 0)) (Q8 _) w hw
    rw[hmy]at qm
    refine T ?_
    refine C qk F180 ?_
    refine C qm F179 ?_
    refine An 4 (Ay lineZ) q_ (.cons (.refl _) (.cons (.refl _) (.cons (.refl _) (.cons (.refl _) (.cons (.refl _) (.cons (.refl _) (.cons (.refl _) (.cons (.refl _) (.cons (.refl _) (.cons (.refl _) (.cons (.refl _) (.cons (.refl _) (.cons (.refl _) (.cons .nil (.cons .nil (.cons .nil (.cons .nil .nil))))))))))))))))) ?_
    refine T ?_
    exact D
 ·have hw0:w=[]:=List.eq_nil_of_length_eq_zero j_
  subst hw0
  have hsT:Ba [] row=(lineZ,22):=by rw[Ba,if_pos (.inl rfl)]
  rw[hsT]
  refine Hd Γ hm 100 F111 Tryz.ntmps111 q_ fun F hF=>by
   refine T ?_
   refine An 4 (Ay lineZ) q_ (.cons (.refl _) (.cons (.refl _) (.cons (.refl _) (.cons (.refl _) (.cons (.refl _) (.cons (.refl _) (.cons (.refl _) (.cons (.refl _) (.cons (.refl _) (.cons (.refl _) (.cons (.refl _) (.cons (.refl _) (.cons (.refl _) (.cons .nil (.cons .nil (.cons .nil (.cons .nil .nil))))))))))))))))) ?_
   refine T ?_
   exact D
theorem Aer (hi:Int) (s:ByteArray):(listR hi s).1.length≤16:=by
 cases h:(listR hi s).2 with
 | true =>
  have:=Ie h
  rcases listOK_iff.1 this with e | e
  ·rw[e];simp
  ·exact(rising_iff.1 e).2.2.2
 | false =>
  unfold listR at h ⊢
  split
  ·simp
  ·rename_i hd
   rw[if_neg hd]at h
   rw[show Cn (fun p=>numR p 1 hi) s=([],false) from Mf _ _ _ h]
   simp
theorem Aby (s:ByteArray) (n:Nat) (l:LineM):(nameD s n l).kind=l.kind∧(nameD s n l).tagged=l.tagged:=by
 unfold nameD
 repeat' split
 all_goals exact⟨rfl,rfl⟩
def Xk:List UInt8:=[78,75,80,67,77,86,87,84,73,65,76,82,83]
theorem Aag (k:UInt8) (s:ByteArray) (n:Nat) (l:LineM) (hk:k∈Xk):(A9 k s n l).1.kind=l.kind∧(l.tagged.length≤16→(A9 k s n l).1.tagged.length≤16):=by
 simp only[Xk,List.mem_cons,List.not_mem_nil,or_false]at hk
 rcases hk with rfl | rfl | rfl | rfl | rfl | rfl | rfl | rfl | rfl | rfl | rfl | rfl | rfl
 ·rw[wkN]
  have h:=Aby s n l
  split
  ·exact⟨q_,fun h=>h⟩
  ·exact⟨h.1,fun g=>by dsimp only;rw[h.2];exact g⟩
 ·rw[wkK];exact⟨rfl,fun h=>h⟩
 ·rw[wkP];exact⟨rfl,fun h=>h⟩
 ·rw[wkC];exact⟨rfl,fun h=>h⟩
 ·rw[wkM];exact⟨rfl,fun h=>h⟩
 ·rw[wkV];exact⟨rfl,fun h=>h⟩
 ·rw[wkW];exact⟨rfl,fun h=>h⟩
 ·rw[wkT];exact⟨rfl,fun _=>Aer _ _⟩
 ·rw[wkI];exact⟨rfl,fun h=>h⟩
 ·rw[wkA];exact⟨rfl,fun h=>h⟩
 ·rw[wkL];exact⟨rfl,fun h=>h⟩
 ·rw[wkR];exact⟨rfl,fun h=>h⟩
 ·rw[wkS];exact⟨rfl,fun h=>h⟩
theorem Ahr (w:List ByteArray):∀ c∈formD w,c∈Xk:=by
 have key:∀ f,f=formD w→∀ c∈f,c∈Xk:=by
  intro f hf
  unfold formD at hf
  repeat' split at hf
  all_goals
   subst hf
   decide
 exact key _ q_
theorem Ae3 (w:List ByteArray):(formD w).length≤6:=by
 unfold formD
 repeat' split
 all_goals decide
theorem port_form {w:List ByteArray} (h0:wdT w 0=(⟨#[112,111,114,116]⟩:ByteArray)) (h6:6≤w.length) (h7:w.length≤7) (ha:wdT w 4≠accessT) (ht:wdT w 4≠trunkT):¬ (formD w=[]∨w.length≠(formD w).length+1):=by
 have e:formD w=(if w.length=7∧wdT w 4≠accessT then [78,78,67,75,87,84] else if w.length=6∧wdT w 4≠trunkT then [78,78,67,75,86] else []):=by simp[formD,h0,k2]
 rcases (by omega:w.length=6∨w.length=7) with l | l
 ·rw[if_neg j_,if_pos ⟨l,ht⟩]at e
  rw[e];simp[l]
 ·rw[if_pos ⟨l,ha⟩]at e
  rw[e];simp[l]
theorem Yu (w:List ByteArray) (row:Int) (hw:w.length≤1000000) (hs:∀ s∈w,s.size≤1000000):Sy.Spec Tryz.prog 115 [.sl 1 Ab w,Aa row] [] (.tup [Ac (readD w row).1,Aa (readD w row).2]) []:=cT F115 Tryz.ntmps115 fun F hF=>by
 have q0:=Agi w hw
 have hfl:=Ae3 w
 have hms:(mkT (formD w)).size=(formD w).length:=Ax _
 have hport:=@port_form w
 by_cases hbad:formD w=[]∨w.length≠(formD w).length+1
 ·rw[M7 hbad]
  by_cases hf0:formD w=[]
  ·have f0:(mkT (formD w) == (⟨#[]⟩:ByteArray))=true:=Bl (by rw[hf0];rfl)
   generalize formD w=f at *
   by_cases c1:w.length>4
   ·have g1:decide ((w.length:Int)>4)=true:=decide_eq_true j_
    have hn0:(0:Int).toNat<w.length:=by show 0<_;omega
    have hx0:wdT w 0=w[(0:Int).toNat]'hn0:=Br j_
    by_cases c2:w[(0:Int).toNat]'hn0=(⟨#[112,111,114,116]⟩:ByteArray)
    ·have g2:=Bl c2
     by_cases c3:w.length≤7
     ·have g3:decide ((w.length:Int)≤7)=true:=decide_eq_true j_
      by_cases c4:w.length≥6
      ·have g4:decide ((w.length:Int)≥6)=true:=decide_eq_true j_
       have hn4:(4:Int).toNat<w.length:=by show 4<_;omega
       have hx4:wdT w 4=w[(4:Int).toNat]'hn4:=Br j_
       by_cases c5:w[(4:Int).toNat]'hn4=accessT
       ·have g5:(!(w[(4:Int).toNat]'hn4 == (⟨#[97,99,99,101,115,115]⟩:ByteArray)))=false:=D8 c5
        refine T ?_
        refine C q0 F197 ?_
        refine An 4 (Ay lineZ) q_ (.cons (.refl _) (.cons (.refl _) (.cons (.refl _) (.cons (.refl _) (.cons (.refl _) (.cons (.refl _) (.cons (.refl _) (.cons (.refl _) (.cons (.refl _) (.cons (.refl _) (.cons (.refl _) (.cons (.refl _) (.cons (.refl _) (.cons .nil (.cons .nil (.cons .nil (.cons .nil .nil))))))))))))))))) ?_
        refine T ?_
        exact D
       ·have g5:(!(w[(4:Int).toNat]'hn4 == (⟨#[97,99,99,101,115,115]⟩:ByteArray)))=true:=Ih c5
        by_cases c6:w[(4:Int).toNat]'hn4=trunkT
        ·have g6:(!(w[(4:Int).toNat]'hn4 == (⟨#[116,114,117,110,107]⟩:ByteArray)))=false:=D8 c6
         refine T ?_
         refine C q0 F197 ?_
         refine An 4 (Ay lineZ) q_ (.cons (.refl _) (.cons (.refl _) (.cons (.refl _) (.cons (.refl _) (.cons (.refl _) (.cons (.refl _) (.cons (.refl _) (.cons (.refl _) (.cons (.refl _) (.cons (.refl _) (.cons (.refl _) (.cons (.refl _) (.cons (.refl _) (.cons .nil (.cons .nil (.cons .nil (.cons .nil .nil))))))))))))))))) ?_
         refine T ?_
         exact D
        ·exact absurd hbad (hport (by rw[hx0];exact c2) c4 c3 (by rw[hx4];exact c5) (by rw[hx4];exact c6))
      ·have g4:decide ((w.length:Int)≥6)=false:=decide_eq_false j_
       refine T ?_
       refine C q0 F197 ?_
       refine An 4 (Ay lineZ) q_ (.cons (.refl _) (.cons (.refl _) (.cons (.refl _) (.cons (.refl _) (.cons (.refl _) (.cons (.refl _) (.cons (.refl _) (.cons (.refl _) (.cons (.refl _) (.cons (.refl _) (.cons (.refl _) (.cons (.refl _) (.cons (.refl _) (.cons .nil (.cons .nil (.cons .nil (.cons .nil .nil))))))))))))))))) ?_
       refine T ?_
       exact D
     ·have g3:decide ((w.length:Int)≤7)=false:=decide_eq_false j_
      refine T ?_
      refine C q0 F197 ?_
      refine An 4 (Ay lineZ) q_ (.cons (.refl _) (.cons (.refl _) (.cons (.refl _) (.cons (.refl _) (.cons (.refl _) (.cons (.refl _) (.cons (.refl _) (.cons (.refl _) (.cons (.refl _) (.cons (.refl _) (.cons (.refl _) (.cons (.refl _) (.cons (.refl _) (.cons .nil (.cons .nil (.cons .nil (.cons .nil .nil))))))))))))))))) ?_
      refine T ?_
      exact D
    ·have g2:=B2 c2
     refine T ?_
     refine C q0 F197 ?_
     refine An 4 (Ay lineZ) q_ (.cons (.refl _) (.cons (.refl _) (.cons (.refl _) (.cons (.refl _) (.cons (.refl _) (.cons (.refl _) (.cons (.refl _) (.cons (.refl _) (.cons (.refl _) (.cons (.refl _) (.cons (.refl _) (.cons (.refl _) (.cons (.refl _) (.cons .nil (.cons .nil (.cons .nil (.cons .nil .nil))))))))))))))))) ?_
     refine T ?_
     exact D
   ·have g1:decide ((w.length:Int)>4)=false:=decide_eq_false j_
    refine T ?_
    refine C q0 F197 ?_
    refine An 4 (Ay lineZ) q_ (.cons (.refl _) (.cons (.refl _) (.cons (.refl _) (.cons (.refl _) (.cons (.refl _) (.cons (.refl _) (.cons (.refl _) (.cons (.refl _) (.cons (.refl _) (.cons (.refl _) (.cons (.refl _) (.cons (.refl _) (.cons (.refl _) (.cons .nil (.cons .nil (.cons .nil (.cons .nil .nil))))))))))))))))) ?_
    refine T ?_
    exact D
  ·have f0:(mkT (formD w) == (⟨#[]⟩:ByteArray))=false:=B2 (fun e=>hf0 (by have:=congrArg (fun b:ByteArray=>b.data.toList) e;simpa [mkT] using this))
   have f1:((w.length:Int) != ((mkT (formD w)).size:Int)+1)=true:=by rw[bne_iff_ne];have:=hbad.resolve_left hf0;omega
   generalize formD w=f at *
   by_cases c1:w.length>4
   ·have g1:decide ((w.length:Int)>4)=true:=decide_eq_true j_
    have hn0:(0:Int).toNat<w.length:=by show 0<_;omega
    have hx0:wdT w 0=w[(0:Int).toNat]'hn0:=Br j_
    by_cases c2:w[(0:Int).toNat]'hn0=(⟨#[112,111,114,116]⟩:ByteArray)
    ·have g2:=Bl c2
     by_cases c3:w.length≤7
     ·have g3:decide ((w.length:Int)≤7)=true:=decide_eq_true j_
      by_cases c4:w.length≥6
      ·have g4:decide ((w.length:Int)≥6)=true:=decide_eq_true j_
       have hn4:(4:Int).toNat<w.length:=by show 4<_;omega
       have hx4:wdT w 4=w[(4:Int).toNat]'hn4:=Br j_
       by_cases c5:w[(4:Int).toNat]'hn4=accessT
       ·have g5:(!(w[(4:Int).toNat]'hn4 == (⟨#[97,99,99,101,115,115]⟩:ByteArray)))=false:=D8 c5
        refine T ?_
        refine C q0 F197 ?_
        refine An 4 (Ay lineZ) q_ (.cons (.refl _) (.cons (.refl _) (.cons (.refl _) (.cons (.refl _) (.cons (.refl _) (.cons (.refl _) (.cons (.refl _) (.cons (.refl _) (.cons (.refl _) (.cons (.refl _) (.cons (.refl _) (.cons (.refl _) (.cons (.refl _) (.cons .nil (.cons .nil (.cons .nil (.cons .nil .nil))))))))))))))))) ?_
        refine T ?_
        exact D
       ·have g5:(!(w[(4:Int).toNat]'hn4 == (⟨#[97,99,99,101,115,115]⟩:ByteArray)))=true:=Ih c5
        by_cases c6:w[(4:Int).toNat]'hn4=trunkT
        ·have g6:(!(w[(4:Int).toNat]'hn4 == (⟨#[116,114,117,110,107]⟩:ByteArray)))=false:=D8 c6
         refine T ?_
         refine C q0 F197 ?_
         refine An 4 (Ay lineZ) q_ (.cons (.refl _) (.cons (.refl _) (.cons (.refl _) (.cons (.refl _) (.cons (.refl _) (.cons (.refl _) (.cons (.refl _) (.cons (.refl _) (.cons (.refl _) (.cons (.refl _) (.cons (.refl _) (.cons (.refl _) (.cons (.refl _) (.cons .nil (.cons .nil (.cons .nil (.cons .nil .nil))))))))))))))))) ?_
         refine T ?_
         exact D
        ·exact absurd hbad (hport (by rw[hx0];exact c2) c4 c3 (by rw[hx4];exact c5) (by rw[hx4];exact c6))
      ·have g4:decide ((w.length:Int)≥6)=false:=decide_eq_false j_
       refine T ?_
       refine C q0 F197 ?_
       refine An 4 (Ay lineZ) q_ (.cons (.refl _) (.cons (.refl _) (.cons (.refl _) (.cons (.refl _) (.cons (.refl _) (.cons (.refl _) (.cons (.refl _) (.cons (.refl _) (.cons (.refl _) (.cons (.refl _) (.cons (.refl _) (.cons (.refl _) (.cons (.refl _) (.cons .nil (.cons .nil (.cons .nil (.cons .nil .nil))))))))))))))))) ?_
       refine T ?_
       exact D
     ·have g3:decide ((w.length:Int)≤7)=false:=decide_eq_false j_
      refine T ?_
      refine C q0 F197 ?_
      refine An 4 (Ay lineZ) q_ (.cons (.refl _) (.cons (.refl _) (.cons (.refl _) (.cons (.refl _) (.cons (.refl _) (.cons (.refl _) (.cons (.refl _) (.cons (.refl _) (.cons (.refl _) (.cons (.refl _) (.cons (.refl _) (.cons (.refl _) (.cons (.refl _) (.cons .nil (.cons .nil (.cons .nil (.cons .nil .nil))))))))))))))))) ?_
      refine T ?_
      exact D
    ·have g2:=B2 c2
     refine T ?_
     refine C q0 F197 ?_
     refine An 4 (Ay lineZ) q_ (.cons (.refl _) (.cons (.refl _) (.cons (.refl _) (.cons (.refl _) (.cons (.refl _) (.cons (.refl _) (.cons (.refl _) (.cons (.refl _) (.cons (.refl _) (.cons (.refl _) (.cons (.refl _) (.cons (.refl _) (.cons (.refl _) (.cons .nil (.cons .nil (.cons .nil (.cons .nil .nil))))))))))))))))) ?_
     refine T ?_
     exact D
   ·have g1:decide ((w.length:Int)>4)=false:=decide_eq_false j_
    refine T ?_
    refine C q0 F197 ?_
    refine An 4 (Ay lineZ) q_ (.cons (.refl _) (.cons (.refl _) (.cons (.refl _) (.cons (.refl _) (.cons (.refl _) (.cons (.refl _) (.cons (.refl _) (.cons (.refl _) (.cons (.refl _) (.cons (.refl _) (.cons (.refl _) (.cons (.refl _) (.cons (.refl _) (.cons .nil (.cons .nil (.cons .nil (.cons .nil .nil))))))))))))))))) ?_
    refine T ?_
    exact D
 ·have hb2:=hbad
  simp only[not_or,ne_eq,Decidable.not_not]at hb2
  obtain ⟨hf0,hl⟩:=hb2
  have f0:(mkT (formD w) == (⟨#[]⟩:ByteArray))=false:=B2 (fun e=>hf0 (by have:=congrArg (fun b:ByteArray=>b.data.toList) e;simpa [mkT] using this))
  have f1:((w.length:Int) != ((mkT (formD w)).size:Int)+1)=false:=by rw[bne_eq_false_iff_eq];omega
  have hin:=Ahr w
  have hrd:=readD.eq_1 w row
  rw[if_neg hbad]at hrd
  generalize readD w row=res at *
  have hn0:(0:Int).toNat<w.length:=by show 0<_;omega
  have qk:=Agh (w[(0:Int).toNat]'hn0)
  have hx0:w[(0:Int).toNat]'hn0=wdT w 0:=(Br j_).symm
  rw[show kindL (w[(0:Int).toNat]'hn0)=kindL (wdT w 0) by rw[hx0]]at qk
  clear hport hbad
  generalize kindL (wdT w 0)=kd at *
  generalize formD w=f at *
  refine T ?_
  refine C q0 F197 ?_
  refine An 4 (Ay lineZ) q_ (.cons (.refl _) (.cons (.refl _) (.cons (.refl _) (.cons (.refl _) (.cons (.refl _) (.cons (.refl _) (.cons (.refl _) (.cons (.refl _) (.cons (.refl _) (.cons (.refl _) (.cons (.refl _) (.cons (.refl _) (.cons (.refl _) (.cons .nil (.cons .nil (.cons .nil (.cons .nil .nil))))))))))))))))) ?_
  refine T ?_
  refine C qk F198 ?_
  refine An 7 (Ay (Hz row kd)) q_ (.cons (.refl _) (.cons (.refl _) (.cons (.refl _) (.cons (.refl _) (.cons (.refl _) (.cons (.refl _) (.cons (.refl _) (.cons (.refl _) (.cons (.refl _) (.cons (.refl _) (.cons (.refl _) (.cons (.refl _) (.cons (.refl _) (.cons .nil (.cons .nil (.cons .nil (.cons .nil .nil))))))))))))))))) ?_
  refine T ?_
  refine Av (fun x:Nat × Nat × LineM=>x.1≤f.length∧x.2.1≤x.1∧x.2.2.kind=kd∧x.2.2.tagged.length≤16∧Cf f (w.drop 1) 0 (Hz row kd)=Cf (f.drop x.1) (w.drop (x.1+1)) x.2.1 x.2.2)
   (fun x=>[(0,.sl 1 Ab w),(4,.ptr 1001 0),(6,Ab (mkT f)),(7,.ptr 1002 0),(8,Aa x.2.1),(9,Aa x.1)]) (fun x=>[(1001,.box (Ay lineZ)),(1002,.box (Ay x.2.2))]) (fun x=>f.length-x.1) (0,0,Hz row kd) [(1001,4),(1002,7)] ⟨by simp,by simp,rfl,by simp[Hz],by simp⟩ U ?_
  rintro ⟨i,n,l⟩ ⟨h1,h2,h3,h4,hI⟩
  dsimp only at h1 h2 h3 h4 hI ⊢
  have hI0:=hI
  rw[hI]at hrd
  clear hI
  refine T ?_
  refine⟨fun h=>?_,fun h=>?_⟩
  ·have hlt:i<f.length:=qA h
   clear h
   have hbi:Ad (mkT f) ((i:Nat):Int).toNat=f[i]:=by
    have:i<(mkT f).data.toList.length:=by rw[A2];exact hlt
    rw[Int.toNat_natCast,Dj this];simp[mkT]
   have hlw:((i:Int)+1).toNat<w.length:=by omega
   have hwi:w[i+1]'j_=w[((i:Int)+1).toNat]'hlw:=by
    have e:((i:Int)+1).toNat=i+1:=by omega
    simp only[e]
   have hfk:=hin _ (List.getElem_mem hlt)
   rw[← hbi]at hfk
   have q:=Agf (Ad (mkT f) ((i:Nat):Int).toNat) (w[((i:Int)+1).toNat]'hlw) n l (hs _ (List.getElem_mem hlw)) hfk
   have hkd:=Aag (Ad (mkT f) ((i:Nat):Int).toNat) (w[((i:Int)+1).toNat]'hlw) n l hfk
   rw[List.drop_eq_getElem_cons hlt,List.drop_eq_getElem_cons (by omega:i+1<w.length),Cf,hwi,← hbi]at hrd hI0
   have hlm:((i:Nat):Int).toNat<(mkT f).size:=by rw[hms];show i<_;exact hlt
   generalize A9 (Ad (mkT f) ((i:Nat):Int).toNat) (w[((i:Int)+1).toNat]'hlw) n l=r at *
   obtain ⟨l2,e⟩:=r
   dsimp only at hrd hkd q hI0
   by_cases he:e≠0
   ·have g1:(e != 0)=true:=by rw[bne_iff_ne];exact he
    rw[if_pos he]at hrd
    dsimp only at hrd
    rw[if_pos he]at hrd
    subst hrd
    refine T ?_
    refine Xd (Ae [(0,1002)] q_ F199 q q_ W q_ V) ?_
    refine T ?_
    refine An 1001 (Ay lineZ) q_ (.cons (.refl _) (.cons (.refl _) (.cons (.refl _) (.cons (.refl _) (.cons (.refl _) (.cons (.refl _) (.cons (.refl _) (.cons (.refl _) (.cons (.refl _) (.cons (.refl _) (.cons (.refl _) (.cons (.refl _) (.cons (.refl _) (.cons .nil (.cons .nil (.cons .nil (.cons .nil .nil))))))))))))))))) ?_
    refine T ?_
    exact D
   ·have g1:(e != 0)=false:=by rw[bne_eq_false_iff_eq];omega
    rw[if_neg he]at hrd hI0
    by_cases k78:Ad (mkT f) ((i:Nat):Int).toNat=78
    ·have g2:(((Ad (mkT f) ((i:Nat):Int).toNat).toNat:Int) == 78)=true:=by rw[k78];rfl
     rw[if_pos k78]at hrd hI0
     refine T ?_
     refine Xd (Ae [(0,1002)] q_ F199 q q_ W q_ V) ?_
     refine T ?_
     exact Ag (i+1,n+1,l2) [] ⟨hlt,by dsimp only;omega,by dsimp only;rw[hkd.1];exact h3,hkd.2 h4,hI0⟩ (by dsimp only;omega) U
    ·have g2:(((Ad (mkT f) ((i:Nat):Int).toNat).toNat:Int) == 78)=false:=by
      rw[beq_eq_false_iff_ne]
      intro e
      exact k78 (UInt8.toNat_inj.1 (by show _=78;omega))
     rw[if_neg k78]at hrd hI0
     refine T ?_
     refine Xd (Ae [(0,1002)] q_ F199 q q_ W q_ V) ?_
     refine T ?_
     exact Ag (i+1,n,l2) [] ⟨hlt,by dsimp only;omega,by dsimp only;rw[hkd.1];exact h3,hkd.2 h4,hI0⟩ (by dsimp only;omega) U
  ·have hie:i=f.length:=qB h
   clear h
   rw[hie,List.drop_length]at hrd
   have e:∀ W n l,Cf [] W n l=(l,0):=fun W n l=>by rw[Cf]
   rw[e]at hrd
   dsimp only at hrd
   rw[if_neg qf]at hrd
   have q:=Yv l j_
   by_cases hk2:kd=2
   ·have g1:(l.kind == 2)=true:=by rw[beq_iff_eq];omega
    cases hb:membersB l.vlan l.tagged with
    | true =>
     rw[hb,if_neg qf]at hrd
     rw[hb]at q
     subst hrd
     refine T ?_
     refine C q F200 ?_
     exact D
    | false =>
     rw[hb,if_pos ⟨hk2,rfl⟩]at hrd
     rw[hb]at q
     subst hrd
     refine T ?_
     refine C q F200 ?_
     refine An 1001 (Ay lineZ) q_ (.cons (.refl _) (.cons (.refl _) (.cons (.refl _) (.cons (.refl _) (.cons (.refl _) (.cons (.refl _) (.cons (.refl _) (.cons (.refl _) (.cons (.refl _) (.cons (.refl _) (.cons (.refl _) (.cons (.refl _) (.cons (.refl _) (.cons .nil (.cons .nil (.cons .nil (.cons .nil .nil))))))))))))))))) ?_
     refine T ?_
     exact D
   ·have g1:(l.kind == 2)=false:=by rw[beq_eq_false_iff_ne];omega
    rw[if_neg (fun h=>hk2 h.1)]at hrd
    subst hrd
    refine T ?_
    exact D
theorem L0 (D:List LineM) (a b n:Nat) (cmp:SV) (hc:cmp.inn [0]=true) (ha:a+n≤b) (hb:b+n≤D.length) (hl:D.length<1000000) :
  Sy.Spec Tryz.prog 287 [.osl 0,Aa a,Aa b,Aa n,cmp] [(0,.row 17 Ac D)] (.tup []) [(0,.row 17 Ac (Tb n D a b))]:=cT F287 Tryz.ntmps287 fun F hF=>by
 rw[Afr]
 refine T ?_
 refine Dk n (fun j=>[(0,.osl 0),(1,Aa a),(2,Aa b),(3,Aa n),(10,Aa j)]) (fun j=>[(0,.row 17 Ac (swapP j D a b))]) [] U ?_
 intro j hj
 have hlen:=U9 j D a b
 have hnx:=swapP.eq_2 D a b j
 refine T ?_
 refine⟨fun h=>?_,fun h=>?_⟩
 ·have hlt:j<n:=qA h
  generalize swapP j D a b=A at *
  have ea:((a:Int)+(j:Int)).toNat=a+j:=by omega
  have eb:((b:Int)+(j:Int)).toNat=b+j:=by omega
  have ha0:((a:Int)+(j:Int)).toNat<A.length:=by omega
  have hb0:((b:Int)+(j:Int)).toNat<A.length:=by omega
  rw[Afs j_ j_]at hnx
  have hfin:swapP (j+1) D a b=(A.set ((a:Int)+(j:Int)).toNat (A[((b:Int)+(j:Int)).toNat]'hb0)).set ((b:Int)+(j:Int)).toNat (A[((a:Int)+(j:Int)).toNat]'ha0):=by
   simp only[ea,eb];exact hnx
  clear h hnx
  have hls:(A.set ((a:Int)+(j:Int)).toNat (A[((b:Int)+(j:Int)).toNat]'hb0)).length=A.length:=List.length_set
  have hbs:((b:Int)+(j:Int)).toNat<(A.set ((a:Int)+(j:Int)).toNat (A[((b:Int)+(j:Int)).toNat]'hb0)).length:=by rw[hls];exact hb0
  refine T ?_
  refine⟨A[((b:Int)+(j:Int)).toNat]'hb0,q_,q_,?_⟩
  refine T ?_
  refine⟨A[((a:Int)+(j:Int)).toNat]'ha0,q_,q_,?_⟩
  refine T ?_
  refine Dr [] hlt ⟨⟨q_,q_,q_,q_,q_,q_,q_,q_,q_,q_,z_⟩,⟨.inl (congrArg (Ob.row 17 Ac) hfin),q_,z_⟩,q_,q_⟩
 ·have hjj:j=n:=qB h
  subst hjj
  refine T ?_
  exact B1 q_ .nil [] [(0,.row 17 Ac (swapP j D a b))] (fun _ h=>h) q_ q_ ⟨z_,⟨.inl q_,q_,z_⟩,q_,q_⟩
def Ah9 (Z:List LineM) (m:Nat) (x:List LineM × List LineM × List LineM × List LineM):Prop:=x.1++(x.2.2.1++(x.2.1++x.2.2.2))=Z∧x.1.length+x.2.1.length=m∧0<x.2.1.length∧0<x.2.2.1.length
theorem Aie (P U V B:List LineM) (f:FuncId) (first cap:List SV) (hc:(SV.clo (.func f) first cap).inn [0]=true) (hu:0<U.length) (hv:0<V.length) (hl:(P++(U++(V++B))).length<1000000) (m b:Nat) (hm1:m=P.length+U.length) (hb1:b=m+V.length) :
  Sy.Spec Tryz.prog 229 [.osl 0,Aa P.length,Aa m,Aa b,.clo (.func f) first cap] [(0,.row 17 Ac (P++(U++(V++B))))] (.tup []) [(0,.row 17 Ac (P++(V++(U++B))))]:=cT F229 Tryz.ntmps229 fun F hF=>by
 have h0:Ah9 (P++(V++(U++B))) m (P,U,V,B):=⟨rfl,hm1.symm,hu,hv⟩
 have htl:(P++(V++(U++B))).length<1000000:=by simp only[List.length_append]at hl ⊢;omega
 have hml:m+V.length<1000000:=by simp only[List.length_append]at hl;omega
 generalize P++(V++(U++B))=Z at *
 refine T ?_
 refine Av (Ah9 Z m) (fun x=>[(0,.osl 0),(2,Aa m),(4,.clo (.func f) first cap),(10,Aa x.2.1.length),(11,Aa x.2.2.1.length)]) (fun x=>[(0,.row 17 Ac (x.1++(x.2.1++(x.2.2.1++x.2.2.2))))]) (fun x=>x.2.1.length+x.2.2.1.length) (P,U,V,B) [] h0 ⟨⟨q_,q_,q_,q_,Bo _,hc,congrArg Aa (by dsimp only;omega),q_,congrArg Aa (by dsimp only;omega),q_,z_⟩,⟨.inl q_,q_,z_⟩,q_,q_⟩ ?_
 clear h0 hm1 hb1 hu hv hl hml
 intro x hx
 obtain ⟨P,U,V,B⟩:=x
 obtain ⟨hT,hm1,hu,hv⟩:=hx
 dsimp only at hT hm1 hu hv ⊢
 have hlt:P.length+V.length+U.length+B.length<1000000:=by rw[← hT]at htl;simp only[List.length_append]at htl;omega
 have hok:∀ a b n:Int,Cg [0] [.osl 0,Aa a,Aa b,Aa n,.clo (.func f) first cap]=true:=fun a b n=>by simp only[Cg,hc];rfl
 by_cases he:U.length=V.length
 ·have q:=L0 (P++(U++([]++(V++B)))) P.length (P.length+U.length+0) U.length (.clo (.func f) first cap) hc j_ (by simp only[List.length_append,List.length_nil];omega) (by simp only[List.length_append,List.length_nil];omega)
  have w:=Mt U V P [] B he
  rw[List.length_nil]at w
  rw[w]at q
  rw[List.nil_append,List.nil_append]at q
  rw[show ((P.length:Nat):Int)=(m:Int)-(U.length:Int) by omega,show ((P.length+U.length+0:Nat):Int)=(m:Int) by omega,hT]at q
  have hok:=hok ((m:Int)-(U.length:Int)) m U.length
  refine T ?_
  refine X (Ae [] q_ F287 q (Ci _) ⟨q_,z_⟩ (by simp only[D0,Obs.keys,List.map_cons,List.map_nil,hok];rfl) ⟨.inl q_,z_⟩) ?_
  exact B1 q_ .nil [] [(0,.row 17 Ac Z)] (fun _ h=>h) q_ q_ ⟨z_,⟨.inl q_,q_,z_⟩,q_,q_⟩
 by_cases hgt:V.length<U.length
 ·obtain ⟨U1,U2,rfl,hu1⟩:∃ U1 U2,U=U1++U2∧U1.length=V.length:=⟨U.take V.length,U.drop V.length,(List.take_append_drop _ _).symm,by rw[List.length_take];omega⟩
  have hul:(U1++U2).length=U1.length+U2.length:=List.length_append
  have hu2:0<U2.length:=by omega
  have q:=L0 (P++(U1++(U2++(V++B)))) P.length (P.length+U1.length+U2.length) U1.length (.clo (.func f) first cap) hc j_ (by simp only[List.length_append];omega) (by simp only[List.length_append];omega)
  rw[Mt U1 V P U2 B hu1]at q
  rw[show ((P.length:Nat):Int)=(m:Int)-(((U1++U2).length:Nat):Int) by omega,show ((P.length+U1.length+U2.length:Nat):Int)=(m:Int) by omega,show ((U1.length:Nat):Int)=((V.length:Nat):Int) by omega]at q
  have hok:=hok ((m:Int)-(((U1++U2).length:Nat):Int)) m V.length
  rw[List.append_assoc]
  refine T ?_
  refine X (Ae [] q_ F287 q (Ci _) ⟨q_,z_⟩ (by simp only[D0,Obs.keys,List.map_cons,List.map_nil,hok];rfl) ⟨.inl q_,z_⟩) ?_
  refine Ag (P++V,U2,U1,B) [] ⟨by dsimp only;rw[← hT];simp,by dsimp only;rw[List.length_append];omega,by dsimp only;omega,by dsimp only;omega⟩ (by dsimp only;omega) ⟨⟨q_,q_,q_,q_,Bo _,hc,congrArg Aa (by dsimp only;omega),q_,congrArg Aa (by dsimp only;omega),q_,z_⟩,⟨.inl (congrArg (Ob.row 17 Ac) (by dsimp only;simp)),q_,z_⟩,q_,q_⟩
 ·obtain ⟨V1,V2,rfl,hv2⟩:∃ V1 V2,V=V1++V2∧V2.length=U.length:=⟨V.take (V.length-U.length),V.drop (V.length-U.length),(List.take_append_drop _ _).symm,by rw[List.length_drop];omega⟩
  have hvl:(V1++V2).length=V1.length+V2.length:=List.length_append
  have hv1:0<V1.length:=by omega
  have q:=L0 (P++(U++(V1++(V2++B)))) P.length (P.length+U.length+V1.length) U.length (.clo (.func f) first cap) hc j_ (by simp only[List.length_append];omega) (by simp only[List.length_append];omega)
  rw[Mt U V2 P V1 B hv2.symm]at q
  rw[show ((P.length:Nat):Int)=(m:Int)-(U.length:Int) by omega,show ((P.length+U.length+V1.length:Nat):Int)=(m:Int)+(((V1++V2).length:Nat):Int)-(U.length:Int) by omega]at q
  have hok:=hok ((m:Int)-(U.length:Int)) ((m:Int)+(((V1++V2).length:Nat):Int)-(U.length:Int)) U.length
  rw[List.append_assoc]
  refine T ?_
  refine X (Ae [] q_ F287 q (Ci _) ⟨q_,z_⟩ (by simp only[D0,Obs.keys,List.map_cons,List.map_nil,hok];rfl) ⟨.inl q_,z_⟩) ?_
  refine Ag (P,V2,V1,U++B) [] ⟨by dsimp only;rw[← hT];simp,by dsimp only;omega,by dsimp only;omega,by dsimp only;omega⟩ (by dsimp only;omega) ⟨⟨q_,q_,q_,q_,Bo _,hc,congrArg Aa (by dsimp only;omega),q_,congrArg Aa (by dsimp only;omega),q_,z_⟩,⟨.inl q_,q_,z_⟩,q_,q_⟩
def InsI (lt:LineM→LineM→Bool) (x:LineM) (out:List LineM) (q:List LineM × List LineM):Prop:=q.1++q.2=out∧∀ y∈q.2,lt x y=true
theorem Yd (A R:List LineM) (y x:LineM):((A++y::x::R).set (A.length+1) y).set A.length x=A++x::y::R:=by
 rw[List.set_append_right _ _ j_,List.set_append_right _ _ (Nat.le_refl _)]
 simp
theorem Zo (c:LineM→LineM→Int) (Q:LineM→Prop) (f:FuncId) (first cap:List SV) (hc:(SV.clo (.func f) first cap).inn []=true) (hf:∀ a b,Q a→Q b→Su Tryz.prog f (first++[Ac a,Ac b]++cap) (Aa (c a b))) (P M B:List LineM) (hQ:∀ x∈M,Q x) (hl:(P++(M++B)).length<1000000) (a b:Nat) (ha:a=P.length) (hb:b=P.length+M.length) :
  Sy.Spec Tryz.prog 168 [.osl 0,Aa a,Aa b,.clo (.func f) first cap] [(0,.row 17 Ac (P++(M++B)))] (.tup []) [(0,.row 17 Ac (P++(Bb (fun x y=>decide (c x y<0)) M++B)))]:=cT F168 Tryz.ntmps168 fun F hF=>by
 have hin:∀ x y:LineM,Cg [] (first++[Ac x,Ac y]++cap)=true:=fun x y=>S5 hc rfl
 have hc':(SV.clo (.func f) first cap).inn [0]=true:=Ek _ hc
 have hll:P.length+M.length+B.length<1000000:=by simp only[List.length_append]at hl;omega
 generalize hlt:(fun x y=>decide (c x y<0))=lt
 refine T ?_
 refine Dk (M.length-1) (fun j=>[(0,.osl 0),(1,Aa a),(2,Aa b),(3,.clo (.func f) first cap),(8,Aa ((a:Int)+1+(j:Int)))]) (fun j=>[(0,.row 17 Ac (P++(Bb lt (M.take (j+1))++(M.drop (j+1)++B))))]) [] ⟨⟨q_,q_,q_,q_,q_,q_,Bo _,hc',congrArg Aa j_,q_,z_⟩,⟨.inl (congrArg (Ob.row 17 Ac) ?_),q_,z_⟩,q_,q_⟩ ?_
 ·cases M with
  | nil=>simp[Bb,C2]
  | cons x M=>simp[Bb,C2,Kr,J2]
 intro j hj
 refine T ?_
 refine⟨fun h=>?_,fun h=>?_⟩
 ·have hjm:j+1<M.length:=qA h
  have hdrop:M.drop (j+1)=M[j+1]::M.drop (j+1+1):=List.drop_eq_getElem_cons hjm
  have hsn:Bb lt (M.take (j+1+1))=Kr lt M[j+1] (Bb lt (M.take (j+1))):=by rw[List.take_succ_eq_append_getElem hjm,Ji]
  have hol:=Dl lt (M.take (j+1))
  rw[List.length_take]at hol
  have hQx:Q M[j+1]:=hQ _ (List.getElem_mem hjm)
  have hQo:∀ y∈Bb lt (M.take (j+1)),Q y:=fun y hy=>hQ y (List.mem_of_mem_take (Es lt _ y hy))
  have hfin:P++(Bb lt (M.take (j+1+1))++(M.drop (j+1+1)++B))=P++(Kr lt M[j+1] (Bb lt (M.take (j+1)))++(M.drop (j+1+1)++B)):=by rw[hsn]
  have hrl:(M.drop (j+1+1)++B).length+(j+2)=M.length+B.length:=by rw[List.length_append,List.length_drop];omega
  rw[hdrop]
  generalize M[j+1]=x at *
  generalize Bb lt (M.take (j+1))=out at *
  rw[show ((x::M.drop (j+1+1))++B)=x::(M.drop (j+1+1)++B) from rfl]
  generalize hR:M.drop (j+1+1)++B=R at *
  have hol:out.length=j+1:=by omega
  clear h hsn hdrop
  refine T ?_
  refine Av (InsI lt x out) (fun q=>[(0,.osl 0),(1,Aa a),(2,Aa b),(3,.clo (.func f) first cap),(8,Aa ((a:Int)+1+(j:Int))),(9,Aa ((P.length+q.1.length:Nat):Int))]) (fun q=>[(0,.row 17 Ac ((P++q.1)++x::(q.2++R)))]) (fun q=>q.1.length) (out,[]) [] ⟨List.append_nil _,fun y hy=>(by cases hy)⟩ ⟨⟨rfl,rfl,rfl,rfl,rfl,rfl,Bo _,hc',rfl,rfl,congrArg Aa (by dsimp only;omega),rfl,trivial⟩,⟨.inl (congrArg (Ob.row 17 Ac) qf),rfl,trivial⟩,rfl,rfl⟩ ?_
  intro q hq
  obtain ⟨O1,O2⟩:=q
  obtain ⟨hq1,hq2⟩:=hq
  dsimp only at hq1 hq2 ⊢
  have hq3:O1.length+O2.length=j+1:=by rw[← hol,← hq1,List.length_append]
  have hrun:=Zp lt x O1 O2 hq2
  rw[hq1]at hrun
  rcases List.eq_nil_or_concat O1 with h1 | ⟨c1,y,h1⟩
  ·subst h1
   have hrun:=hrun (.inl rfl)
   refine T ?_
   refine Dr [] j_ ⟨⟨q_,q_,q_,q_,q_,q_,Bo _,hc',congrArg Aa j_,q_,z_⟩,⟨.inl (congrArg (Ob.row 17 Ac) (by rw[hR,hfin,hrun];simp)),q_,z_⟩,q_,q_⟩
  subst h1
  have hrun:=fun h=>hrun (.inr ⟨c1,y,by simp,h⟩)
  have hQy:Q y:=hQo y (by rw[← hq1];simp)
  have hL:(P++c1.concat y)++x::(O2++R)=(P++c1)++y::x::(O2++R):=by simp
  have hk:P.length+(c1.concat y).length=(P++c1).length+1:=by simp;omega
  have hcl:(c1.concat y).length=c1.length+1:=by simp
  rw[hL,hk]
  have hAl:(P++c1).length=P.length+c1.length:=List.length_append
  have hWl:(O2++R).length=O2.length+R.length:=List.length_append
  have hLl:((P++c1)++y::x::(O2++R)).length=(P++c1).length+2+(O2++R).length:=by simp;omega
  have hset:=Yd (P++c1) (O2++R) y x
  have n1:((((P++c1).length+1:Nat):Int)).toNat=(P++c1).length+1:=by omega
  have n2:((((P++c1).length+1:Nat):Int)-1).toNat=(P++c1).length:=by omega
  have b1:((((P++c1).length+1:Nat):Int)).toNat<((P++c1)++y::x::(O2++R)).length:=by omega
  have b2:((((P++c1).length+1:Nat):Int)-1).toNat<((P++c1)++y::x::(O2++R)).length:=by omega
  have e1:((P++c1)++y::x::(O2++R))[((((P++c1).length+1:Nat):Int)).toNat]'b1=x:=by simp only[n1];rw[List.getElem_append_right j_];simp
  have e2:((P++c1)++y::x::(O2++R))[((((P++c1).length+1:Nat):Int)-1).toNat]'b2=y:=by simp only[n2];rw[List.getElem_append_right j_];simp
  generalize hLL:(P++c1)++y::x::(O2++R)=L at *
  have hset2:(L.set ((((P++c1).length+1:Nat):Int)).toNat (L[((((P++c1).length+1:Nat):Int)-1).toNat]'b2)).set ((((P++c1).length+1:Nat):Int)-1).toNat (L[((((P++c1).length+1:Nat):Int)).toNat]'b1)=(P++c1)++x::y::(O2++R):=by
   rw[e1,e2];simp only[n1,n2];exact hset
  have b3:((((P++c1).length+1:Nat):Int)-1).toNat<(L.set ((((P++c1).length+1:Nat):Int)).toNat (L[((((P++c1).length+1:Nat):Int)-1).toNat]'b2)).length:=by rw[List.length_set];exact b2
  have hcc:lt x y=decide (c (L[((((P++c1).length+1:Nat):Int)).toNat]'b1) (L[((((P++c1).length+1:Nat):Int)-1).toNat]'b2)<0):=by rw[e1,e2,← hlt]
  have q1:=hf (L[((((P++c1).length+1:Nat):Int)).toNat]'b1) (L[((((P++c1).length+1:Nat):Int)-1).toNat]'b2) (by rw[e1];exact hQx) (by rw[e2];exact hQy)
  refine T ?_
  refine Qm q1 q_ q_ q_ (by simp only[hin];rfl) y_ q_ ?_
  refine T ?_
  refine⟨fun h2=>?_,fun h2=>?_⟩
  ·rw[h2]at hcc
   refine T ?_
   refine⟨L[((((P++c1).length+1:Nat):Int)-1).toNat]'b2,q_,q_,?_⟩
   refine T ?_
   refine⟨L[((((P++c1).length+1:Nat):Int)).toNat]'b1,q_,q_,?_⟩
   refine T ?_
   refine Ag (c1,y::O2) [] ⟨by dsimp only;rw[← hq1];simp,fun z hz=>by
    rcases List.mem_cons.1 hz with rfl | hz
    ·exact hcc
    ·exact hq2 z hz⟩ (by dsimp only;omega) ⟨⟨q_,q_,q_,q_,q_,q_,Bo _,hc',q_,q_,congrArg Aa (by dsimp only;omega),q_,z_⟩,⟨.inl (congrArg (Ob.row 17 Ac) (by rw[hset2];rfl)),q_,z_⟩,q_,q_⟩
  ·rw[h2]at hcc
   have hrun:=hrun hcc
   refine T ?_
   refine Dr [] j_ ⟨⟨q_,q_,q_,q_,q_,q_,Bo _,hc',congrArg Aa j_,q_,z_⟩,⟨.inl (congrArg (Ob.row 17 Ac) (by rw[hR,hfin,hrun,← hLL];simp)),q_,z_⟩,q_,q_⟩
 ·have h:=of_decide_eq_false h
  have e:Bb lt (M.take (j+1))++(M.drop (j+1)++B)=Bb lt M++B:=by
   rw[List.take_of_length_le j_,List.drop_of_length_le j_,List.nil_append]
  rw[e]
  refine T ?_
  exact B1 q_ .nil [] [(0,.row 17 Ac (P++(Bb lt M++B)))] (fun _ h=>h) q_ q_ ⟨z_,⟨.inl q_,q_,z_⟩,q_,q_⟩
end Go.Sy.YtgblchnfjbkipaaGreatDoor
