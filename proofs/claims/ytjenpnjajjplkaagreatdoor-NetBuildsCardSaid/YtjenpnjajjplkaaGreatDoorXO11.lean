/-
  RB15 RB16 RB17 Sy23 O1 O6 I46 RB18: parts of a proof, joined by program.
-/
import Derived.Test.YtjenpnjajjplkaaGreatDoorXO10
import Derived.Test.YtjenpnjajjplkaaGreatDoorXO7
import Derived.Test.YtjenpnjajjplkaaGreatDoorXO4
import Derived.Test.YtjenpnjajjplkaaGreatDoorXO6
import Derived.Test.YtjenpnjajjplkaaGreatDoorXO2
import Derived.Test.YtjenpnjajjplkaaGreatDoorXO3
set_option linter.all false
set_option linter.unusedVariables false
set_option linter.unusedSimpArgs false
set_option linter.deprecated false
namespace Go.Sy.YtjenpnjajjplkaaGreatDoor
open Go.Proofs
attribute [local irreducible] Go.Sy.G Go.Sy.DR
set_option maxRecDepth 100000
set_option maxHeartbeats 4000000
structure LineV (l:LineM):Prop where
 w:LineW l
 vlan:C5 l.vlan
 num:C5 l.num
 cost:C5 l.cost
 t:l.tagged.length≤16
 i:l.imports.length≤16
 e:l.exports.length≤16
 a:l.addrs.length≤16
 wt:∀ x∈l.tagged,C5 x
 wi:∀ x∈l.imports,C5 x
 we:∀ x∈l.exports,C5 x
theorem Aa6 (l:List Int) (hl:l.length≤100000) (hw:∀ x∈l,C5 x):Sy.Spec Tryz.prog 443 [.sl 1 Aa l] [] (Ad (Dw l)) []:=cT F443 Tryz.ntmps443 fun F hF=>by
 have hall:l.take l.length=l:=List.take_length
 refine T ?_
 refine Au (fun j:Nat=>j≤l.length∧(Dw (l.take j)).size≤30 * j) (fun j=>[(0,.sl 1 Aa l),(3,Ad (Dw (l.take j))),(4,Aa j)]) (fun _=>[]) (fun j=>l.length-j) 0 [] ⟨by simp,by rw[List.take_zero];decide⟩ U ?_
 rintro j ⟨hj,hz⟩
 refine T ?_
 refine⟨fun h=>?_,fun h=>?_⟩
 ·have hlt:j<l.length:=qA h
  have hlt0:((j:Nat):Int).toNat<l.length:=hlt
  clear h hall
  have hx:=hw _ (List.getElem_mem hlt0)
  have q:=Bf _ hx
  have hns:=Ek hx
  have hsn:Dw (l.take (j+1))=(if j=0 then Dw (l.take j) else Dw (l.take j)++comma)++Aw (l[((j:Nat):Int).toNat]'hlt0):=Oq Aw l hlt hlt0
  have hcz:comma.size=1:=rfl
  generalize Aw (l[((j:Nat):Int).toNat]'hlt0)=t at *
  generalize hu:Dw (l.take j)=u at *
  by_cases k:0<j
  ·have f:decide ((j:Int)>0)=true:=decide_eq_true z_
   rw[if_neg z_]at hsn
   have z1:u.size+(⟨#[44]⟩:ByteArray).size≤9223372036854775807:=by show u.size+comma.size≤_;omega
   have z2:(u++(⟨#[44]⟩:ByteArray)).size+t.size≤9223372036854775807:=by show (u++comma).size+t.size≤_;rw[ByteArray.size_append];omega
   have z3:(Dw (l.take (j+1))).size≤30 * (j+1):=by rw[hsn,ByteArray.size_append,ByteArray.size_append];omega
   refine T ?_
   refine C q F372 ?_
   exact Ae (j+1) [] ⟨hlt,z3⟩ z_ ⟨⟨Y,Y,congrArg Ad hsn,Y,Y,Y,q_⟩,q_,Y,Y⟩
  ·have f:decide ((j:Int)>0)=false:=decide_eq_false z_
   rw[if_pos z_]at hsn
   have z2:u.size+t.size≤9223372036854775807:=by omega
   have z3:(Dw (l.take (j+1))).size≤30 * (j+1):=by rw[hsn,ByteArray.size_append];omega
   refine T ?_
   refine C q F372 ?_
   exact Ae (j+1) [] ⟨hlt,z3⟩ z_ ⟨⟨Y,Y,congrArg Ad hsn,Y,Y,Y,q_⟩,q_,Y,Y⟩
 ·have hje:j=l.length:=qB h
  subst hje
  clear h
  rw[hall]
  refine T ?_
  exact D
theorem Sf (l:List Int) (hl:l.length≤16) (hw:∀ x∈l,C5 x):Sy.Spec Tryz.prog 417 [.sl 1 Aa l] [] (Ad (Ct l)) []:=cT F417 Tryz.ntmps417 fun F hF=>by
 have q:=Aa6 l z_ hw
 rw[Ct]
 by_cases h0:l.length=0
 ·have f:((l.length:Int) == 0)=true:=by rw[beq_iff_eq];omega
  rw[if_pos (List.length_eq_zero_iff.1 h0)]
  refine T ?_
  exact D
 ·have f:((l.length:Int) == 0)=false:=by rw[beq_eq_false_iff_ne];omega
  rw[if_neg (fun e=>h0 (by rw[e];rfl))]
  refine T ?_
  refine C q F443 ?_
  exact D
theorem Ap1 {n b:Int} (h:0≤n∧n<4294967296):Sy.Spec Tryz.prog 420 [Di n b] [] (Ad (C1 n b)) []:=by
 by_cases hb:0≤b∧b≤32
 ·exact Ai8 h hb
 ·rw[C1,if_neg hb]
  have q1:=Ho n b
  rw[decide_eq_false hb]at q1
  exact Ht Γ hm 100 F420 Tryz.ntmps420 Y fun F hF=>by
   refine T ?_
   refine C q1 F358 ?_
   exact D
theorem Adq (l:LineM) (h:LineV l) (hk:l.kind=1):Sy.Spec Tryz.prog 356 [Al l] [] (.sl 1 Ad (Ao l)) []:=cT F356 Tryz.ntmps356 fun F hF=>by
 have qv:=Bf l.vlan h.vlan
 have qn:=Bf l.num h.num
 have qm:=L2 h.w.ok.mac
 have hwo:Ao l=[(⟨#[100,101,118,105,99,101]⟩:ByteArray),l.dev,Aw l.num,A1 l.mac]:=by
  simp only[Ao,hk]
  rfl
 rw[hwo]
 have f1:(l.kind == 1)=true:=by rw[hk];rfl
 clear hk hwo h
 generalize Aw l.vlan=vv at *
 generalize Aw l.num=nn at *
 generalize A1 l.mac=mm at *
 refine T ?_
 refine C qv F372 ?_
 refine C qn F372 ?_
 refine C qm F373 ?_
 refine De 24 Ad [(⟨#[100,101,118,105,99,101]⟩:ByteArray),l.dev,nn,mm] Y Y ?_
 refine Ac 24 Y ?_
 refine T ?_
 exact D
theorem Ado (l:LineM) (h:LineV l) (hk:l.kind=3):Sy.Spec Tryz.prog 356 [Al l] [] (.sl 1 Ad (Ao l)) []:=cT F356 Tryz.ntmps356 fun F hF=>by
 have qv:=Bf l.vlan h.vlan
 have qn:=Bf l.num h.num
 have qm:=L2 h.w.ok.mac
 have hwo:Ao l=[(⟨#[108,105,110,107]⟩:ByteArray),l.dev,l.port,l.peer,l.far]:=by
  simp only[Ao,hk]
  rfl
 rw[hwo]
 have f1:(l.kind == 1)=false:=by rw[hk];rfl
 have f2:(l.kind == 2)=false:=by rw[hk];rfl
 have f3:(l.kind == 3)=true:=by rw[hk];rfl
 clear hk hwo h
 generalize Aw l.vlan=vv at *
 generalize Aw l.num=nn at *
 generalize A1 l.mac=mm at *
 refine T ?_
 refine C qv F372 ?_
 refine C qn F372 ?_
 refine C qm F373 ?_
 refine De 64 Ad [(⟨#[108,105,110,107]⟩:ByteArray),l.dev,l.port,l.peer,l.far] Y Y ?_
 refine Ac 64 Y ?_
 refine T ?_
 exact D
theorem Adn (l:LineM) (h:LineV l) (hk:l.kind=4):Sy.Spec Tryz.prog 356 [Al l] [] (.sl 1 Ad (Ao l)) []:=cT F356 Tryz.ntmps356 fun F hF=>by
 have qv:=Bf l.vlan h.vlan
 have qn:=Bf l.num h.num
 have qm:=L2 h.w.ok.mac
 have hwo:Ao l=[(⟨#[115,116,97,116,105,99]⟩:ByteArray),l.dev,Aw l.vlan,A1 l.mac,l.port]:=by
  simp only[Ao,hk]
  rfl
 rw[hwo]
 have f1:(l.kind == 1)=false:=by rw[hk];rfl
 have f2:(l.kind == 2)=false:=by rw[hk];rfl
 have f3:(l.kind == 3)=false:=by rw[hk];rfl
 have f4:(l.kind == 4)=true:=by rw[hk];rfl
 clear hk hwo h
 generalize Aw l.vlan=vv at *
 generalize Aw l.num=nn at *
 generalize A1 l.mac=mm at *
 refine T ?_
 refine C qv F372 ?_
 refine C qn F372 ?_
 refine C qm F373 ?_
 refine De 73 Ad [(⟨#[115,116,97,116,105,99]⟩:ByteArray),l.dev,vv,mm,l.port] Y Y ?_
 refine Ac 73 Y ?_
 refine T ?_
 exact D
theorem Adm (l:LineM) (h:LineV l) (hk:l.kind=5):Sy.Spec Tryz.prog 356 [Al l] [] (.sl 1 Ad (Ao l)) []:=cT F356 Tryz.ntmps356 fun F hF=>by
 have qv:=Bf l.vlan h.vlan
 have qn:=Bf l.num h.num
 have qm:=L2 h.w.ok.mac
 have q0:=Arf h.w.ok.addr
 have hwo:Ao l=[(⟨#[118,116,101,112]⟩:ByteArray),l.dev,B6 l.addr]:=by
  simp only[Ao,hk]
  rfl
 rw[hwo]
 have f1:(l.kind == 1)=false:=by rw[hk];rfl
 have f2:(l.kind == 2)=false:=by rw[hk];rfl
 have f3:(l.kind == 3)=false:=by rw[hk];rfl
 have f4:(l.kind == 4)=false:=by rw[hk];rfl
 have f5:(l.kind == 5)=true:=by rw[hk];rfl
 clear hk hwo h
 generalize Aw l.vlan=vv at *
 generalize Aw l.num=nn at *
 generalize A1 l.mac=mm at *
 generalize B6 l.addr=aa at *
 refine T ?_
 refine C qv F372 ?_
 refine C qn F372 ?_
 refine C qm F373 ?_
 refine C q0 F418 ?_
 refine De 81 Ad [(⟨#[118,116,101,112]⟩:ByteArray),l.dev,aa] Y Y ?_
 refine Ac 81 Y ?_
 refine T ?_
 exact D
theorem Adl (l:LineM) (h:LineV l) (hk:l.kind=6):Sy.Spec Tryz.prog 356 [Al l] [] (.sl 1 Ad (Ao l)) []:=cT F356 Tryz.ntmps356 fun F hF=>by
 have qv:=Bf l.vlan h.vlan
 have qn:=Bf l.num h.num
 have qm:=L2 h.w.ok.mac
 have hwo:Ao l=[(⟨#[118,110,105]⟩:ByteArray),l.dev,Aw l.vlan,Aw l.num]:=by
  simp only[Ao,hk]
  rfl
 rw[hwo]
 have f1:(l.kind == 1)=false:=by rw[hk];rfl
 have f2:(l.kind == 2)=false:=by rw[hk];rfl
 have f3:(l.kind == 3)=false:=by rw[hk];rfl
 have f4:(l.kind == 4)=false:=by rw[hk];rfl
 have f5:(l.kind == 5)=false:=by rw[hk];rfl
 have f6:(l.kind == 6)=true:=by rw[hk];rfl
 clear hk hwo h
 generalize Aw l.vlan=vv at *
 generalize Aw l.num=nn at *
 generalize A1 l.mac=mm at *
 refine T ?_
 refine C qv F372 ?_
 refine C qn F372 ?_
 refine C qm F373 ?_
 refine De 88 Ad [(⟨#[118,110,105]⟩:ByteArray),l.dev,vv,nn] Y Y ?_
 refine Ac 88 Y ?_
 refine T ?_
 exact D
theorem Adk (l:LineM) (h:LineV l) (hk:l.kind=7):Sy.Spec Tryz.prog 356 [Al l] [] (.sl 1 Ad (Ao l)) []:=cT F356 Tryz.ntmps356 fun F hF=>by
 have qv:=Bf l.vlan h.vlan
 have qn:=Bf l.num h.num
 have qm:=L2 h.w.ok.mac
 have q0:=Th l.addrs (by have:=h.a;omega) h.w.ok.addrs
 have hwo:Ao l=[(⟨#[102,108,111,111,100]⟩:ByteArray),l.dev,Aw l.num,Dn l.addrs]:=by
  simp only[Ao,hk]
  rfl
 rw[hwo]
 have f1:(l.kind == 1)=false:=by rw[hk];rfl
 have f2:(l.kind == 2)=false:=by rw[hk];rfl
 have f3:(l.kind == 3)=false:=by rw[hk];rfl
 have f4:(l.kind == 4)=false:=by rw[hk];rfl
 have f5:(l.kind == 5)=false:=by rw[hk];rfl
 have f6:(l.kind == 6)=false:=by rw[hk];rfl
 have f7:(l.kind == 7)=true:=by rw[hk];rfl
 clear hk hwo h
 generalize Aw l.vlan=vv at *
 generalize Aw l.num=nn at *
 generalize A1 l.mac=mm at *
 generalize Dn l.addrs=aa at *
 refine T ?_
 refine C qv F372 ?_
 refine C qn F372 ?_
 refine C qm F373 ?_
 refine C q0 F419 ?_
 refine De 97 Ad [(⟨#[102,108,111,111,100]⟩:ByteArray),l.dev,nn,aa] Y Y ?_
 refine Ac 97 Y ?_
 refine T ?_
 exact D
theorem Adj (l:LineM) (h:LineV l) (hk:l.kind=8):Sy.Spec Tryz.prog 356 [Al l] [] (.sl 1 Ad (Ao l)) []:=cT F356 Tryz.ntmps356 fun F hF=>by
 have qv:=Bf l.vlan h.vlan
 have qn:=Bf l.num h.num
 have qm:=L2 h.w.ok.mac
 have q0:=Sf l.imports h.i h.wi
 have q1:=Sf l.exports h.e h.we
 have hwo:Ao l=[(⟨#[118,114,102]⟩:ByteArray),l.dev,l.name,Ct l.imports,Ct l.exports]:=by
  simp only[Ao,hk]
  rfl
 rw[hwo]
 have f1:(l.kind == 1)=false:=by rw[hk];rfl
 have f2:(l.kind == 2)=false:=by rw[hk];rfl
 have f3:(l.kind == 3)=false:=by rw[hk];rfl
 have f4:(l.kind == 4)=false:=by rw[hk];rfl
 have f5:(l.kind == 5)=false:=by rw[hk];rfl
 have f6:(l.kind == 6)=false:=by rw[hk];rfl
 have f7:(l.kind == 7)=false:=by rw[hk];rfl
 have f8:(l.kind == 8)=true:=by rw[hk];rfl
 clear hk hwo h
 generalize Aw l.vlan=vv at *
 generalize Aw l.num=nn at *
 generalize A1 l.mac=mm at *
 generalize Ct l.imports=ii at *
 generalize Ct l.exports=ee at *
 refine T ?_
 refine C qv F372 ?_
 refine C qn F372 ?_
 refine C qm F373 ?_
 refine C q0 F417 ?_
 refine C q1 F417 ?_
 refine De 110 Ad [(⟨#[118,114,102]⟩:ByteArray),l.dev,l.name,ii,ee] Y Y ?_
 refine Ac 110 Y ?_
 refine T ?_
 exact D
theorem Adi (l:LineM) (h:LineV l) (hk:l.kind=9):Sy.Spec Tryz.prog 356 [Al l] [] (.sl 1 Ad (Ao l)) []:=cT F356 Tryz.ntmps356 fun F hF=>by
 have qv:=Bf l.vlan h.vlan
 have qn:=Bf l.num h.num
 have qm:=L2 h.w.ok.mac
 have q0:=Ap1 (b:=l.bits) h.w.ok.addr
 have hwo:Ao l=[(⟨#[105,114,98]⟩:ByteArray),l.dev,Aw l.vlan,l.name,C1 l.addr l.bits]:=by
  simp only[Ao,hk]
  rfl
 rw[hwo]
 have f1:(l.kind == 1)=false:=by rw[hk];rfl
 have f2:(l.kind == 2)=false:=by rw[hk];rfl
 have f3:(l.kind == 3)=false:=by rw[hk];rfl
 have f4:(l.kind == 4)=false:=by rw[hk];rfl
 have f5:(l.kind == 5)=false:=by rw[hk];rfl
 have f6:(l.kind == 6)=false:=by rw[hk];rfl
 have f7:(l.kind == 7)=false:=by rw[hk];rfl
 have f8:(l.kind == 8)=false:=by rw[hk];rfl
 have f9:(l.kind == 9)=true:=by rw[hk];rfl
 clear hk hwo h
 generalize Aw l.vlan=vv at *
 generalize Aw l.num=nn at *
 generalize A1 l.mac=mm at *
 generalize C1 l.addr l.bits=pp at *
 refine T ?_
 refine C qv F372 ?_
 refine C qn F372 ?_
 refine C qm F373 ?_
 refine C q0 F420 ?_
 refine De 124 Ad [(⟨#[105,114,98]⟩:ByteArray),l.dev,vv,l.name,pp] Y Y ?_
 refine Ac 124 Y ?_
 refine T ?_
 exact D
theorem Adp (l:LineM) (h:LineV l) (hk:l.kind=2):Sy.Spec Tryz.prog 356 [Al l] [] (.sl 1 Ad (Ao l)) []:=cT F356 Tryz.ntmps356 fun F hF=>by
 have qv:=Bf l.vlan h.vlan
 have qn:=Bf l.num h.num
 have qm:=L2 h.w.ok.mac
 have qc:=Bf l.cost h.cost
 have q0:=Sf l.tagged h.t h.wt
 have hwo:Ao l=K6 l:=by
  simp only[Ao,hk]
  rfl
 rw[hwo,K6]
 have f1:(l.kind == 1)=false:=by rw[hk];rfl
 have f2:(l.kind == 2)=true:=by rw[hk];rfl
 clear hk hwo h
 by_cases h0:l.tagged.length=0
 ·have f0:((l.tagged.length:Int) == 0)=true:=by rw[h0];rfl
  rw[if_pos (List.eq_nil_of_length_eq_zero h0)]
  generalize Aw l.vlan=vv at *
  generalize Aw l.num=nn at *
  generalize A1 l.mac=mm at *
  generalize Aw l.cost=cc at *
  refine T ?_
  refine C qv F372 ?_
  refine C qn F372 ?_
  refine C qm F373 ?_
  refine C qc F372 ?_
  refine De 40 Ad [(⟨#[112,111,114,116]⟩:ByteArray),l.dev,l.port,cc,accessT,vv] Y Y ?_
  refine Ac 40 Y ?_
  refine T ?_
  exact D
 ·have f0:((l.tagged.length:Int) == 0)=false:=by rw[beq_eq_false_iff_ne];omega
  rw[if_neg (fun e=>h0 (by rw[e];rfl))]
  by_cases hv:l.vlan=0
  ·have f3:(l.vlan == 0)=true:=beq_iff_eq.2 hv
   rw[if_pos hv]
   clear hv
   generalize Aw l.vlan=vv at *
   generalize Aw l.num=nn at *
   generalize A1 l.mac=mm at *
   generalize Aw l.cost=cc at *
   generalize Ct l.tagged=tt at *
   refine T ?_
   refine C qv F372 ?_
   refine C qn F372 ?_
   refine C qm F373 ?_
   refine C qc F372 ?_
   refine C q0 F417 ?_
   refine De 53 Ad [(⟨#[112,111,114,116]⟩:ByteArray),l.dev,l.port,cc,trunkT,dash,tt] Y Y ?_
   refine Ac 53 Y ?_
   refine T ?_
   exact D
  ·have f3:(l.vlan == 0)=false:=beq_eq_false_iff_ne.2 hv
   rw[if_neg hv]
   clear hv
   generalize Aw l.vlan=vv at *
   generalize Aw l.num=nn at *
   generalize A1 l.mac=mm at *
   generalize Aw l.cost=cc at *
   generalize Ct l.tagged=tt at *
   refine T ?_
   refine C qv F372 ?_
   refine C qn F372 ?_
   refine C qm F373 ?_
   refine C qc F372 ?_
   refine C q0 F417 ?_
   refine De 53 Ad [(⟨#[112,111,114,116]⟩:ByteArray),l.dev,l.port,cc,trunkT,vv,tt] Y Y ?_
   refine Ac 53 Y ?_
   refine T ?_
   exact D
theorem Adr (l:LineM) (h:LineV l) (hk:¬ (1≤l.kind∧l.kind≤9)):Sy.Spec Tryz.prog 356 [Al l] [] (.sl 1 Ad []) []:=cT F356 Tryz.ntmps356 fun F hF=>by
 have qv:=Bf l.vlan h.vlan
 have qn:=Bf l.num h.num
 have qm:=L2 h.w.ok.mac
 have f1:(l.kind == 1)=false:=by rw[beq_eq_false_iff_ne];omega
 have f2:(l.kind == 2)=false:=by rw[beq_eq_false_iff_ne];omega
 have f3:(l.kind == 3)=false:=by rw[beq_eq_false_iff_ne];omega
 have f4:(l.kind == 4)=false:=by rw[beq_eq_false_iff_ne];omega
 have f5:(l.kind == 5)=false:=by rw[beq_eq_false_iff_ne];omega
 have f6:(l.kind == 6)=false:=by rw[beq_eq_false_iff_ne];omega
 have f7:(l.kind == 7)=false:=by rw[beq_eq_false_iff_ne];omega
 have f8:(l.kind == 8)=false:=by rw[beq_eq_false_iff_ne];omega
 have f9:(l.kind == 9)=false:=by rw[beq_eq_false_iff_ne];omega
 refine T ?_
 refine C qv F372 ?_
 refine C qn F372 ?_
 refine C qm F373 ?_
 refine Dh 2 1 Ad Y ?_
 exact D
def K3 (l:LineM):List ByteArray:=if 1≤l.kind∧l.kind≤9 then Ao l else []
theorem Ag4 (l:LineM) (h:LineV l):Sy.Spec Tryz.prog 356 [Al l] [] (.sl 1 Ad (K3 l)) []:=by
 rw[K3]
 split
 ·rename_i hk
  have hc:l.kind=1∨l.kind=2∨l.kind=3∨l.kind=4∨l.kind=5∨l.kind=6∨l.kind=7∨l.kind=8∨l.kind=9:=by omega
  rcases hc with k | k | k | k | k | k | k | k | k
  ·exact Adq l h k
  ·exact Adp l h k
  ·exact Ado l h k
  ·exact Adn l h k
  ·exact Adm l h k
  ·exact Adl l h k
  ·exact Adk l h k
  ·exact Adj l h k
  ·exact Adi l h k
 ·rename_i hk
  exact Adr l h hk
theorem Lr {l:List Int} (h:l.length≤16) (hw:∀ x∈l,C5 x):(Ct l).size≤2000:=by
 rw[Ct]
 split
 ·decide
 ·have h3:=L6 (l.map Aw) comma
  have h4:=Mw (tx:=Aw) l (fun x hx=>by have:=Ek (hw x hx);omega)
  have h5:comma.size=1:=rfl
  rw[List.length_map,h5]at h3
  rw[Dw];omega
theorem Acj {l:LineM} (h:LineV l):(K3 l).length≤7∧∀ x∈K3 l,x.size≤1000000:=by
 have hd:=h.w.dev;have hp:=h.w.port;have hpe:=h.w.peer;have hf:=h.w.far;have hn:=h.w.name
 have nv:=Ek h.vlan
 have nn:=Ek h.num
 have nc:=Ek h.cost
 have s1:=Lr h.t h.wt
 have s2:=Lr h.i h.wi
 have s3:=Lr h.e h.we
 have s4:(Dn l.addrs).size≤2000:=by
  have h1:=L6 (l.addrs.map B6) comma
  have h2:=Mw (tx:=B6) l.addrs (fun x _=>El x)
  have h3:comma.size=1:=rfl
  rw[List.length_map,h3]at h1
  have:=h.a
  rw[Dn];omega
 have s5:(A1 l.mac).size≤2000:=by
  have:=Xx l.mac.toNat 6
  rw[A1,Bp];omega
 have s6:(C1 l.addr l.bits).size≤2000:=by
  rw[C1]
  split
  ·have h1:=El l.addr
   have h2:=Cb 2 l.bits.toNat z_
   rw[Bp,List.length_append,List.length_append,List.length_reverse]
   have:(B6 l.addr).data.toList.length=(B6 l.addr).size:=rfl
   simp;omega
  ·decide
 have s7:=El l.addr
 have z1:accessT.size=6:=rfl
 have z2:trunkT.size=5:=rfl
 have z3:dash.size=1:=rfl
 have lz:∀ a:Array UInt8,a.size≤20→(⟨a⟩:ByteArray).size≤1000000:=fun a ha=>Nat.le_trans ha y_
 generalize e:K3 l=ws
 rw[K3,Ao,K6]at e
 repeat' split at e
 all_goals subst e
 all_goals refine⟨by simp,?_⟩
 all_goals try simp only[List.forall_mem_cons]
 all_goals repeat' apply And.intro
 all_goals first | omega | (split<;>omega) | (exact lz _ y_) | (intro x hx;cases hx)
theorem Am2 (a b:List Int) (ha:a.length<2147483648) (hb:b.length<2147483648):Sy.Spec Tryz.prog 43 [.sl 1 A3 a,.sl 1 A3 b] [] (Ab (decide (a=b))) []:=cT F43 Tryz.ntmps43 fun F hF=>by
 by_cases hlen:a.length=b.length
 ·have f0:((a.length:Int) != (b.length:Int))=false:=by rw[hlen];simp
  refine T ?_
  refine Au (fun j:Nat=>j≤a.length∧∀ i (h:i<a.length),i<j→a[i]=b[i]) (fun j=>[(0,.sl 1 A3 a),(1,.sl 1 A3 b),(5,Aa j)]) (fun _=>[]) (fun j=>a.length-j) 0 [] ⟨by simp,fun i h hj=>absurd hj z_⟩ U ?_
  rintro j ⟨hj,hI⟩
  refine T ?_
  refine⟨fun h2=>?_,fun h2=>?_⟩
  ·have hlt:j<a.length:=by have:=of_decide_eq_true h2;omega
   have hja:((j:Nat):Int).toNat<a.length:=hlt
   have hjb:((j:Nat):Int).toNat<b.length:=by rw[← hlen];exact hlt
   clear h2
   by_cases he:(a[((j:Nat):Int).toNat]'hja)=(b[((j:Nat):Int).toNat]'hjb)
   ·have f:((a[((j:Nat):Int).toNat]'hja) != (b[((j:Nat):Int).toNat]'hjb))=false:=by rw[bne_eq_false_iff_eq];exact he
    refine T ?_
    refine Ae (j+1) [] ⟨hlt,fun i hi hij=>?_⟩ z_ U
    by_cases h:i<j
    ·exact hI i hi h
    ·have:i=j:=by omega
     subst this
     exact he
   ·have f:((a[((j:Nat):Int).toNat]'hja) != (b[((j:Nat):Int).toNat]'hjb))=true:=by rw[bne_iff_ne];exact he
    have hne:decide (a=b)=false:=decide_eq_false (fun e=>he (by subst e;rfl))
    rw[hne]
    refine T ?_
    exact D
  ·have hje:a.length≤j:=by have:=of_decide_eq_false h2;omega
   have hyes:decide (a=b)=true:=decide_eq_true (List.ext_getElem hlen (fun i h1 h2=>hI i h1 z_))
   rw[hyes]
   refine T ?_
   exact D
 ·have f0:((a.length:Int) != (b.length:Int))=true:=by rw[bne_iff_ne];omega
  have hne:decide (a=b)=false:=decide_eq_false (fun e=>hlen (by rw[e]))
  rw[hne]
  refine T ?_
  exact D
theorem Ahf (a b:LineM) (ha:LineFin a) (hb:LineFin b) (hab:a≠b):Sy.Spec Tryz.prog 357 [Al a,Al b] [] (Ab false) []:=cT F357 Tryz.ntmps357 fun F hF=>by
 have z1:=ha.t;have z2:=ha.i;have z3:=ha.e;have z4:=ha.a
 have y4:=hb.a
 by_cases c_row:a.row=b.row
 case neg =>
  have f_row:(a.row == b.row)=false:=by rw[beq_eq_false_iff_ne];exact c_row
  refine T ?_
  exact D
 have f_row:(a.row == b.row)=true:=by rw[beq_iff_eq];exact c_row
 by_cases c_kind:a.kind=b.kind
 case neg =>
  have f_kind:(a.kind == b.kind)=false:=by rw[beq_eq_false_iff_ne];exact c_kind
  refine T ?_
  exact D
 have f_kind:(a.kind == b.kind)=true:=by rw[beq_iff_eq];exact c_kind
 by_cases c_dev:a.dev=b.dev
 case neg =>
  have f_dev:(a.dev == b.dev)=false:=by rw[beq_eq_false_iff_ne];exact c_dev
  refine T ?_
  exact D
 have f_dev:(a.dev == b.dev)=true:=by rw[beq_iff_eq];exact c_dev
 by_cases c_port:a.port=b.port
 case neg =>
  have f_port:(a.port == b.port)=false:=by rw[beq_eq_false_iff_ne];exact c_port
  refine T ?_
  exact D
 have f_port:(a.port == b.port)=true:=by rw[beq_iff_eq];exact c_port
 by_cases c_peer:a.peer=b.peer
 case neg =>
  have f_peer:(a.peer == b.peer)=false:=by rw[beq_eq_false_iff_ne];exact c_peer
  refine T ?_
  exact D
 have f_peer:(a.peer == b.peer)=true:=by rw[beq_iff_eq];exact c_peer
 by_cases c_far:a.far=b.far
 case neg =>
  have f_far:(a.far == b.far)=false:=by rw[beq_eq_false_iff_ne];exact c_far
  refine T ?_
  exact D
 have f_far:(a.far == b.far)=true:=by rw[beq_iff_eq];exact c_far
 by_cases c_name:a.name=b.name
 case neg =>
  have f_name:(a.name == b.name)=false:=by rw[beq_eq_false_iff_ne];exact c_name
  refine T ?_
  exact D
 have f_name:(a.name == b.name)=true:=by rw[beq_iff_eq];exact c_name
 by_cases c_mac:a.mac=b.mac
 case neg =>
  have f_mac:(a.mac == b.mac)=false:=by rw[beq_eq_false_iff_ne];exact c_mac
  refine T ?_
  exact D
 have f_mac:(a.mac == b.mac)=true:=by rw[beq_iff_eq];exact c_mac
 by_cases c_addr:a.addr=b.addr
 case neg =>
  have f_addr:(a.addr == b.addr)=false:=by rw[beq_eq_false_iff_ne];exact c_addr
  refine T ?_
  exact D
 have f_addr:(a.addr == b.addr)=true:=by rw[beq_iff_eq];exact c_addr
 by_cases c_bits:a.bits=b.bits
 case neg =>
  have f_bits:(a.bits == b.bits)=false:=by rw[beq_eq_false_iff_ne];exact c_bits
  refine T ?_
  exact D
 have f_bits:(a.bits == b.bits)=true:=by rw[beq_iff_eq];exact c_bits
 by_cases c_vlan:a.vlan=b.vlan
 case neg =>
  have f_vlan:(a.vlan == b.vlan)=false:=by rw[beq_eq_false_iff_ne];exact c_vlan
  refine T ?_
  exact D
 have f_vlan:(a.vlan == b.vlan)=true:=by rw[beq_iff_eq];exact c_vlan
 by_cases c_num:a.num=b.num
 case neg =>
  have f_num:(a.num == b.num)=false:=by rw[beq_eq_false_iff_ne];exact c_num
  refine T ?_
  exact D
 have f_num:(a.num == b.num)=true:=by rw[beq_iff_eq];exact c_num
 by_cases c_cost:a.cost=b.cost
 case neg =>
  have f_cost:(a.cost == b.cost)=false:=by rw[beq_eq_false_iff_ne];exact c_cost
  refine T ?_
  exact D
 have f_cost:(a.cost == b.cost)=true:=by rw[beq_iff_eq];exact c_cost
 have q_tagged:=An8 a.tagged b.tagged (show a.tagged.length<2147483648 by omega)
 by_cases c_tagged:a.tagged=b.tagged
 case neg =>
  rw[decide_eq_false c_tagged]at q_tagged
  refine T ?_
  refine C q_tagged F42 ?_
  exact D
 rw[decide_eq_true c_tagged]at q_tagged
 have q_imports:=An8 a.imports b.imports (show a.imports.length<2147483648 by omega)
 by_cases c_imports:a.imports=b.imports
 case neg =>
  rw[decide_eq_false c_imports]at q_imports
  refine T ?_
  refine C q_tagged F42 ?_
  refine C q_imports F42 ?_
  exact D
 rw[decide_eq_true c_imports]at q_imports
 have q_exports:=An8 a.exports b.exports (show a.exports.length<2147483648 by omega)
 by_cases c_exports:a.exports=b.exports
 case neg =>
  rw[decide_eq_false c_exports]at q_exports
  refine T ?_
  refine C q_tagged F42 ?_
  refine C q_imports F42 ?_
  refine C q_exports F42 ?_
  exact D
 rw[decide_eq_true c_exports]at q_exports
 have q_addrs:=Am2 a.addrs b.addrs z_ z_
 by_cases c_addrs:a.addrs=b.addrs
 case neg =>
  rw[decide_eq_false c_addrs]at q_addrs
  refine T ?_
  refine C q_tagged F42 ?_
  refine C q_imports F42 ?_
  refine C q_exports F42 ?_
  refine C q_addrs F43 ?_
  exact D
 refine absurd ?_ hab
 cases a
 cases b
 simp_all
theorem Ags (l:LineM) (hw:LineW l) (hvl:C5 l.vlan) (hnu:C5 l.num) (hco:C5 l.cost) (wt:∀ x∈l.tagged,C5 x) (wi:∀ x∈l.imports,C5 x) (we:∀ x∈l.exports,C5 x):Hn l:=by
 cases hr:B1 l with
 | true =>
  have h2:=W9 hw.ok hr
  have h3:=Q8 (w:=Ao l) (row:=l.row) (by rw[h2])
  rw[h2]at h3
  have:=Ak0 l h3
  unfold Hn
  rw[hr]
  exact this
 | false =>
  unfold Hn
  rw[hr]
  exact Ht Γ hm 100 F292 Tryz.ntmps292 Y fun F hF=>by
   by_cases c1:l.tagged.length>16
   ·have f1:decide ((l.tagged.length:Int)>16)=true:=decide_eq_true z_
    refine T ?_
    exact D
   have f1:decide ((l.tagged.length:Int)>16)=false:=decide_eq_false z_
   by_cases c2:l.imports.length>16
   ·have f2:decide ((l.imports.length:Int)>16)=true:=decide_eq_true z_
    have z:=hw.fin.t
    refine T ?_
    exact D
   have f2:decide ((l.imports.length:Int)>16)=false:=decide_eq_false z_
   by_cases c3:l.exports.length>16
   ·have f3:decide ((l.exports.length:Int)>16)=true:=decide_eq_true z_
    refine T ?_
    exact D
   have f3:decide ((l.exports.length:Int)>16)=false:=decide_eq_false z_
   by_cases c4:l.addrs.length>16
   ·have f4:decide ((l.addrs.length:Int)>16)=true:=decide_eq_true z_
    refine T ?_
    exact D
   have f4:decide ((l.addrs.length:Int)>16)=false:=decide_eq_false z_
   have hV:LineV l:=⟨hw,hvl,hnu,hco,by omega,by omega,by omega,by omega,wt,wi,we⟩
   have q1:=Ag4 l hV
   obtain ⟨hz1,hz2⟩:=Acj hV
   have q2:=Adu (K3 l) l.row z_ hz2
   rw[Xi]at q2
   have hst:=Q8 (w:=K3 l) (row:=l.row)
   clear hV hz1 hz2
   generalize Bt (K3 l) l.row=r at *
   generalize K3 l=ws at *
   obtain ⟨m,e⟩:=r
   dsimp only at q2 hst
   by_cases he:e=0
   ·have g:(e == 0)=true:=by rw[beq_iff_eq];exact he
    have hm:=hst he
    have hne:l≠m:=fun e=>by
     rw[e,hm.right]at hr
     cases hr
    have q3:=Ahf l m hw.fin hm.fin hne
    refine T ?_
    refine C q1 F356 ?_
    refine C q2 F149 ?_
    refine C q3 F357 ?_
    exact D
   ·have g:(e == 0)=false:=by rw[beq_eq_false_iff_ne];exact he
    refine T ?_
    refine C q1 F356 ?_
    refine C q2 F149 ?_
    exact D
structure LineN (l:LineM):Prop where
 vlan:C5 l.vlan
 num:C5 l.num
 cost:C5 l.cost
 t:∀ x∈l.tagged,C5 x
 i:∀ x∈l.imports,C5 x
 e:∀ x∈l.exports,C5 x
theorem Y9 (M:List LineM) (hM:∀ z∈M,LineOK z) (hN:∀ z∈M,LineN z):Sy.Spec Tryz.prog 4 [.sl 17 Al M] [] (Ab true) []:=cT F4 Tryz.ntmps4 fun F hF=>by
 have qw:=Amc
 by_cases c0:100<M.length
 ·have f0:decide ((M.length:Int)>100)=true:=decide_eq_true z_
  refine T ?_
  refine C qw F17 ?_
  exact D
 have f0:decide ((M.length:Int)>100)=false:=decide_eq_false z_
 have qg:=Aek M z_
 cases hg:linesGreat M with
 | true =>
  rw[hg]at qg
  refine T ?_
  refine C qg F11 ?_
  refine C qw F17 ?_
  exact D
 | false =>
 rw[hg]at qg
 have wM:∀ z∈M,LineW z:=fun z hz=>Aqp hg z hz (hM z hz)
 have q1:=Z0 M wM z_
 have q2:=Akg M wM (fun l hl=>Ags l (wM l hl) (hN l hl).vlan (hN l hl).num (hN l hl).cost (hN l hl).t (hN l hl).i (hN l hl).e) z_
 have q3:=Am9 (Co M).1 (Alz wM)
 generalize Co M=r at *
 obtain ⟨n,row,e⟩:=r
 dsimp only at q1 q2 q3
 have g1:(row == row)=true:=by simp
 have g2:(e == e)=true:=by simp
 refine T ?_
 refine C qg F11 ?_
 refine C q1 F13 ?_
 refine C q2 F18 ?_
 refine C q3 F19 ?_
 refine C qw F17 ?_
 exact D
end Go.Sy.YtjenpnjajjplkaaGreatDoor
namespace Go.Sy
open Go.ChangeShapes Go.WideShapes Go.ChangeAt Go.RowKit
section
variable {H:Type} (enc:TypeId × Value→H) (P:Program) (W:World)
def Op1 (t:TypeId) {α:Type} (e:α→SV) (p:α→Prop):Prop :=
 ∀ n c y,DataW.trod enc P W 0 (fun _=>true) true n t [c]=some y→∃ x,p x∧Rd κ0 W (e x) c∧c.oneCell'=true
def OpN (t:TypeId) {α:Type} (e:α→SV) (p:α→Prop) (sz:Nat):Prop :=
 ∀ n cs y,DataW.trod enc P W 0 (fun _=>true) true n t cs=some y→∃ x,p x∧cs.length=sz∧Ones cs∧RdL κ0 W (cellsOf (e x)) cs
variable {enc P W}
theorem Of {t:TypeId} {k:IntKind} (ht:P.underlying t=some (.int k)):Op1 enc P W t (fun z=>.val (.int k z)) (fun z=>(Lit.int k z).wf=true):=fun n c y h=>by
 obtain ⟨z,e,_,hw⟩:=DataW.trod_int ht h
 have e:c=.int k z:=by simpa using e
 subst e
 exact⟨z,hw,by simp[Rd],Y⟩
theorem Xm {t:TypeId} (ht:P.underlying t=some .string):Op1 enc P W t Ad (fun s=>s.size≤maxLen):=fun n c y h=>by
 obtain ⟨z,e,_,hw⟩:=DataW.trod_string ht h
 have e:c=.string z:=by simpa using e
 subst e
 exact⟨z,hw,by simp[Ad,Rd],Y⟩
theorem Aja {t:TypeId} {k:IntKind} (ht:P.underlying t=some (.int k)):OpN enc P W t (fun z=>.val (.int k z)) (fun z=>(Lit.int k z).wf=true) 1:=fun n cs y h=>by
 obtain ⟨z,rfl,_,hw⟩:=DataW.trod_int ht h
 refine⟨z,hw,Y,fun c hc=>by simp at hc;subst hc;rfl,?_⟩
 simp[cellsOf,RdL,Rd]
theorem Aan {base:Nat} {a:Addr} {n:Nat} {cs:List Value} (h:W.cells? base a n=some cs):cs.length=n∧∀ j (_:j<n),W.cell? (a.add j)=cs[j]?:=by
 unfold World.cells? at h
 split at h
 ·refine⟨by simpa using mapM_some_length h,fun j hj=>?_⟩
  exact mapM_some_get h j j (by simp[hj])
 ·cases h
theorem Xn {t et:TypeId} {α:Type} {e:α→SV} {p:α→Prop} {sz:Nat} (ht:P.underlying t=some (.slice et)) (hsz:P.cellsOf et=sz) (h0:0<sz) (hb:∀ x,(e x).boxed=true) (hd:∀ x,(e x).data=true) (hO:OpN enc P W et e p sz) :
  Op1 enc P W t (fun l:List α=>.sl sz e l) (fun l=>(∀ x∈l,p x)∧l.length≤maxLen):=fun n c y h=>by
 rcases DataW.trod_slice ht h with ⟨hcs,_⟩ | ⟨a,len,cap,elems,rest,m,rfl,hcs,_,_,hlc,hcm,hel,hget,_⟩
 ·have hc:c=.slice none 0 0:=by simpa using hcs
  subst hc
  refine⟨[],⟨by simp,Nat.zero_le _⟩,?_,Y⟩
  simp only[Rd,RdD]
  exact .inl ⟨q_,none,0,Y⟩
 ·have hc:c=.slice (some a) len cap:=by simpa using hcs
  subst hc
  rw[hsz]at hget
  have hall:∀ i:Fin len,∃ x,p x∧∃ cs,W.cells? 0 (a.add (i * sz)) sz=some cs∧cs.length=sz∧Ones cs∧RdL κ0 W (cellsOf (e x)) cs:=fun i=>by
   have h1:=hget i.1 i.2
   rw[List.getElem?_eq_getElem z_]at h1
   obtain ⟨cs,h2,h3⟩:=Option.bind_eq_some_iff.1 h1
   obtain ⟨x,h4,h5,h6,h7⟩:=hO _ _ _ h3
   exact⟨x,h4,cs,h2,h5,h6,h7⟩
  let xs:Fin len→α:=fun i=>Classical.choose (hall i)
  have hxs:∀ i,p (xs i)∧∃ cs,W.cells? 0 (a.add (i.1 * sz)) sz=some cs∧cs.length=sz∧Ones cs∧RdL κ0 W (cellsOf (e (xs i))) cs:=fun i=>Classical.choose_spec (hall i)
  refine⟨List.ofFn xs,⟨fun x hx=>?_,by simp;omega⟩,?_,Y⟩
  ·obtain ⟨i,rfl⟩:=List.mem_ofFn.1 hx
   exact(hxs i).1
  ·simp only[Rd,RdD]
   by_cases hl:len=0
   ·subst hl
    exact .inl ⟨by simp,_,_,Y⟩
   ·have hcell:∀ i:Fin len,∀ j,j<sz→∃ v,W.cell? ((a.add (i.1 * sz)).add j)=some v:=fun i j hj=>by
     obtain ⟨_,cs,h1,h2,_⟩:=hxs i
     have:=(Aan h1).2 j hj
     rw[List.getElem?_eq_getElem z_]at this
     exact⟨_,this⟩
    obtain ⟨b,off,spot⟩:=a
    have hspot:spot=none:=by
     obtain ⟨v,hv⟩:=hcell ⟨0,by omega⟩ 0 h0
     simpa [Addr.add] using World.cell?_spot hv
    subst hspot
    have hadd:∀ i j,((⟨b,off,none⟩:Addr).add i).add j=⟨b,off+i+j,none⟩:=fun i j=>by rw[Addr.add_lit,Addr.add_lit]
    refine .inr ⟨b,off,cap,by simp,by simpa using hlc,?_,?_,fun i hi=>?_⟩
    ·rintro (⟨k,hk⟩ | hk)
     ·cases hk
     ·exact hk
    ·obtain ⟨v,hv⟩:=hcell ⟨0,by omega⟩ 0 h0
     rw[hadd]at hv
     rcases Nat.lt_or_ge b W.heap.size with h | h
     ·exact h
     ·simp[World.cell?,Array.getElem?_eq_none h]at hv
    ·simp only[List.length_ofFn]at hi
     obtain ⟨_,cs,h1,h2,h3,h4⟩:=hxs ⟨i,hi⟩
     obtain ⟨u,g1,g2⟩:=Rd.of_cells (hb _) h3 h4
     refine⟨u,?_,?_,by rw[g2];exact h3,fun j hj=>?_⟩
     ·rw[List.getElem_ofFn]
      exact Rd.data _ _ (hd _) g1
     ·have:u.cells.toList.length=sz:=by rw[g2,h2]
      simpa using this
     ·have:=(Aan h1).2 j hj
      rw[hadd]at this
      rw[this,← g2]
      simp
end
end Go.Sy
namespace Go.Sy.YtjenpnjajjplkaaGreatDoor
open Go.Proofs Go.ChangeShapes Go.WideShapes Go.ChangeAt Go.RowKit
set_option maxRecDepth 100000
section
variable {H:Type} {enc:TypeId × Value→H} {W:World}
def wI (k:IntKind) (z:Int):Prop:=(Lit.int k z).wf=true
theorem Abf:Op1 enc Tryz.prog W 63 (fun l:List Int=>.sl 1 (fun z=>.val (.int .i64 z)) l) (fun l=>(∀ z∈l,wI .i64 z)∧l.length≤maxLen) :=
 Xn Tryz.underlying63 (by kernel_rfl:Tryz.prog.cellsOf 3=1) y_ (fun _=>rfl) (fun _=>rfl) (Aja Tryz.underlying3)
theorem Ap7:Op1 enc Tryz.prog W 64 (fun l:List Int=>.sl 1 (fun z=>.val (.int .u32 z)) l) (fun l=>(∀ z∈l,wI .u32 z)∧l.length≤maxLen) :=
 Xn Tryz.underlying64 (by kernel_rfl:Tryz.prog.cellsOf 62=1) y_ (fun _=>rfl) (fun _=>rfl) (Aja Tryz.underlying62)
def Device.In (x:Device):Prop:=wI .i64 x.row∧wI .i64 x.prio∧x.name.size≤maxLen∧wI .u64 x.mac∧wI .u32 x.vtep
def Port.In (x:Port):Prop:=wI .i64 x.row∧wI .i64 x.dev∧wI .i64 x.native∧wI .i64 x.cost∧wI .i64 x.link∧x.name.size≤maxLen∧((∀ z∈x.tagged,wI .i64 z)∧x.tagged.length≤maxLen)
def Link.In (x:Link):Prop:=wI .i64 x.row∧wI .i64 x.a∧wI .i64 x.b
def Domain.In (x:Domain):Prop:=wI .i64 x.dev∧wI .i64 x.vlan∧wI .i64 x.vni∧wI .i64 x.irb∧wI .i64 x.row∧((∀ z∈x.peers,wI .i64 z)∧x.peers.length≤maxLen)
def Static.In (x:Static):Prop:=wI .i64 x.row∧wI .i64 x.domain∧wI .i64 x.port∧wI .u64 x.mac
def Flood.In (x:Flood):Prop:=wI .i64 x.row∧wI .i64 x.dev∧wI .i64 x.vni∧((∀ z∈x.addrs,wI .u32 z)∧x.addrs.length≤maxLen)
def Vrf.In (x:Vrf):Prop:=wI .i64 x.row∧wI .i64 x.dev∧x.name.size≤maxLen∧((∀ z∈x.imports,wI .i64 z)∧x.imports.length≤maxLen)∧((∀ z∈x.exports,wI .i64 z)∧x.exports.length≤maxLen)
def Irb.In (x:Irb):Prop:=wI .i64 x.row∧wI .i64 x.domain∧wI .i64 x.vrf∧wI .u32 x.addr∧wI .i64 x.bits
structure Net.In (n:Net):Prop where
 devices:(∀ x∈n.devices,Device.In x)∧n.devices.length≤maxLen
 ports:(∀ x∈n.ports,Port.In x)∧n.ports.length≤maxLen
 links:(∀ x∈n.links,Link.In x)∧n.links.length≤maxLen
 domains:(∀ x∈n.domains,Domain.In x)∧n.domains.length≤maxLen
 statics:(∀ x∈n.statics,Static.In x)∧n.statics.length≤maxLen
 floods:(∀ x∈n.floods,Flood.In x)∧n.floods.length≤maxLen
 vrfs:(∀ x∈n.vrfs,Vrf.In x)∧n.vrfs.length≤maxLen
 irbs:(∀ x∈n.irbs,Irb.In x)∧n.irbs.length≤maxLen
theorem Amz {t et:TypeId} {α:Type} {e:α→SV} {p:List α→Prop} {sz base:Nat} {v:Value} {d:DataW H} {ps:List MemPlace} (ht:Tryz.prog.underlying t=some (.slice et)) (hO:Op1 enc Tryz.prog W t (fun l:List α=>.sl sz e l) p)
  (hval:Value.okWide Tryz.prog W .any base t v) (h1:DataW.Trod enc Tryz.prog W 0 (fun _=>true) true t v d ps):∃ l,p l∧Rd κ0 W (.sl sz e l) v:=by
 obtain ⟨a,len,cap,rfl⟩:=okWide_slice ht hval
 obtain ⟨fuel,hf⟩:=h1
 obtain ⟨x,h1,h2,_⟩:=hO _ _ _ hf
 exact⟨x,h1,h2⟩
end
end Go.Sy.YtjenpnjajjplkaaGreatDoor
namespace Go.Sy.YtjenpnjajjplkaaGreatDoor
open Go.Proofs Go.ChangeShapes Go.WideShapes Go.ChangeAt Go.RowKit
set_option maxRecDepth 100000
section
variable {H:Type} {enc:TypeId × Value→H} {W:World}
def LineM.In (x:LineM):Prop:=wI .i64 x.row∧wI .i64 x.kind∧x.dev.size≤maxLen∧x.port.size≤maxLen∧x.peer.size≤maxLen∧x.far.size≤maxLen∧x.name.size≤maxLen∧wI .u64 x.mac∧wI .u32 x.addr∧wI .i64 x.bits∧wI .i64 x.vlan∧wI .i64 x.num∧wI .i64 x.cost∧((∀ z∈x.tagged,wI .i64 z)∧x.tagged.length≤maxLen)∧((∀ z∈x.imports,wI .i64 z)∧x.imports.length≤maxLen)∧((∀ z∈x.exports,wI .i64 z)∧x.exports.length≤maxLen)∧((∀ z∈x.addrs,wI .u32 z)∧x.addrs.length≤maxLen)
theorem Ak5:OpN enc Tryz.prog W 66 Al LineM.In 17:=fun n cs y h=>by
 obtain ⟨xs,m,_,_,hlen,hx,hg⟩:=DataW.trod_struct Tryz.underlying66 h
 have hlen:cs.length=17:=hlen.trans (by kernel_rfl:Tryz.prog.cellsOf 66=17)
 have hx:xs.length=17:=hx
 match cs,hlen with
 | [c0,c1,c2,c3,c4,c5,c6,c7,c8,c9,c10,c11,c12,c13,c14,c15,c16],_ =>
  have g0:DataW.trod enc Tryz.prog W 0 (fun _=>true) true m 3 (([c0,c1,c2,c3,c4,c5,c6,c7,c8,c9,c10,c11,c12,c13,c14,c15,c16].drop 0).take (Tryz.prog.cellsOf 3))=xs[0]?:=hg 0 _ rfl
  rw[(by kernel_rfl:Tryz.prog.cellsOf 3=1),List.getElem?_eq_getElem z_]at g0
  obtain ⟨z0,p0,r0,o0⟩:=Of Tryz.underlying3 _ _ _ g0
  have g1:DataW.trod enc Tryz.prog W 0 (fun _=>true) true m 3 (([c0,c1,c2,c3,c4,c5,c6,c7,c8,c9,c10,c11,c12,c13,c14,c15,c16].drop 1).take (Tryz.prog.cellsOf 3))=xs[1]?:=hg 1 _ rfl
  rw[(by kernel_rfl:Tryz.prog.cellsOf 3=1),List.getElem?_eq_getElem z_]at g1
  obtain ⟨z1,p1,r1,o1⟩:=Of Tryz.underlying3 _ _ _ g1
  have g2:DataW.trod enc Tryz.prog W 0 (fun _=>true) true m 9 (([c0,c1,c2,c3,c4,c5,c6,c7,c8,c9,c10,c11,c12,c13,c14,c15,c16].drop 2).take (Tryz.prog.cellsOf 9))=xs[2]?:=hg 2 _ rfl
  rw[(by kernel_rfl:Tryz.prog.cellsOf 9=1),List.getElem?_eq_getElem z_]at g2
  obtain ⟨z2,p2,r2,o2⟩:=Xm Tryz.underlying9 _ _ _ g2
  have g3:DataW.trod enc Tryz.prog W 0 (fun _=>true) true m 9 (([c0,c1,c2,c3,c4,c5,c6,c7,c8,c9,c10,c11,c12,c13,c14,c15,c16].drop 3).take (Tryz.prog.cellsOf 9))=xs[3]?:=hg 3 _ rfl
  rw[(by kernel_rfl:Tryz.prog.cellsOf 9=1),List.getElem?_eq_getElem z_]at g3
  obtain ⟨z3,p3,r3,o3⟩:=Xm Tryz.underlying9 _ _ _ g3
  have g4:DataW.trod enc Tryz.prog W 0 (fun _=>true) true m 9 (([c0,c1,c2,c3,c4,c5,c6,c7,c8,c9,c10,c11,c12,c13,c14,c15,c16].drop 4).take (Tryz.prog.cellsOf 9))=xs[4]?:=hg 4 _ rfl
  rw[(by kernel_rfl:Tryz.prog.cellsOf 9=1),List.getElem?_eq_getElem z_]at g4
  obtain ⟨z4,p4,r4,o4⟩:=Xm Tryz.underlying9 _ _ _ g4
  have g5:DataW.trod enc Tryz.prog W 0 (fun _=>true) true m 9 (([c0,c1,c2,c3,c4,c5,c6,c7,c8,c9,c10,c11,c12,c13,c14,c15,c16].drop 5).take (Tryz.prog.cellsOf 9))=xs[5]?:=hg 5 _ rfl
  rw[(by kernel_rfl:Tryz.prog.cellsOf 9=1),List.getElem?_eq_getElem z_]at g5
  obtain ⟨z5,p5,r5,o5⟩:=Xm Tryz.underlying9 _ _ _ g5
  have g6:DataW.trod enc Tryz.prog W 0 (fun _=>true) true m 9 (([c0,c1,c2,c3,c4,c5,c6,c7,c8,c9,c10,c11,c12,c13,c14,c15,c16].drop 6).take (Tryz.prog.cellsOf 9))=xs[6]?:=hg 6 _ rfl
  rw[(by kernel_rfl:Tryz.prog.cellsOf 9=1),List.getElem?_eq_getElem z_]at g6
  obtain ⟨z6,p6,r6,o6⟩:=Xm Tryz.underlying9 _ _ _ g6
  have g7:DataW.trod enc Tryz.prog W 0 (fun _=>true) true m 61 (([c0,c1,c2,c3,c4,c5,c6,c7,c8,c9,c10,c11,c12,c13,c14,c15,c16].drop 7).take (Tryz.prog.cellsOf 61))=xs[7]?:=hg 7 _ rfl
  rw[(by kernel_rfl:Tryz.prog.cellsOf 61=1),List.getElem?_eq_getElem z_]at g7
  obtain ⟨z7,p7,r7,o7⟩:=Of Tryz.underlying61 _ _ _ g7
  have g8:DataW.trod enc Tryz.prog W 0 (fun _=>true) true m 62 (([c0,c1,c2,c3,c4,c5,c6,c7,c8,c9,c10,c11,c12,c13,c14,c15,c16].drop 8).take (Tryz.prog.cellsOf 62))=xs[8]?:=hg 8 _ rfl
  rw[(by kernel_rfl:Tryz.prog.cellsOf 62=1),List.getElem?_eq_getElem z_]at g8
  obtain ⟨z8,p8,r8,o8⟩:=Of Tryz.underlying62 _ _ _ g8
  have g9:DataW.trod enc Tryz.prog W 0 (fun _=>true) true m 3 (([c0,c1,c2,c3,c4,c5,c6,c7,c8,c9,c10,c11,c12,c13,c14,c15,c16].drop 9).take (Tryz.prog.cellsOf 3))=xs[9]?:=hg 9 _ rfl
  rw[(by kernel_rfl:Tryz.prog.cellsOf 3=1),List.getElem?_eq_getElem z_]at g9
  obtain ⟨z9,p9,r9,o9⟩:=Of Tryz.underlying3 _ _ _ g9
  have g10:DataW.trod enc Tryz.prog W 0 (fun _=>true) true m 3 (([c0,c1,c2,c3,c4,c5,c6,c7,c8,c9,c10,c11,c12,c13,c14,c15,c16].drop 10).take (Tryz.prog.cellsOf 3))=xs[10]?:=hg 10 _ rfl
  rw[(by kernel_rfl:Tryz.prog.cellsOf 3=1),List.getElem?_eq_getElem z_]at g10
  obtain ⟨z10,p10,r10,o10⟩:=Of Tryz.underlying3 _ _ _ g10
  have g11:DataW.trod enc Tryz.prog W 0 (fun _=>true) true m 3 (([c0,c1,c2,c3,c4,c5,c6,c7,c8,c9,c10,c11,c12,c13,c14,c15,c16].drop 11).take (Tryz.prog.cellsOf 3))=xs[11]?:=hg 11 _ rfl
  rw[(by kernel_rfl:Tryz.prog.cellsOf 3=1),List.getElem?_eq_getElem z_]at g11
  obtain ⟨z11,p11,r11,o11⟩:=Of Tryz.underlying3 _ _ _ g11
  have g12:DataW.trod enc Tryz.prog W 0 (fun _=>true) true m 3 (([c0,c1,c2,c3,c4,c5,c6,c7,c8,c9,c10,c11,c12,c13,c14,c15,c16].drop 12).take (Tryz.prog.cellsOf 3))=xs[12]?:=hg 12 _ rfl
  rw[(by kernel_rfl:Tryz.prog.cellsOf 3=1),List.getElem?_eq_getElem z_]at g12
  obtain ⟨z12,p12,r12,o12⟩:=Of Tryz.underlying3 _ _ _ g12
  have g13:DataW.trod enc Tryz.prog W 0 (fun _=>true) true m 63 (([c0,c1,c2,c3,c4,c5,c6,c7,c8,c9,c10,c11,c12,c13,c14,c15,c16].drop 13).take (Tryz.prog.cellsOf 63))=xs[13]?:=hg 13 _ rfl
  rw[(by kernel_rfl:Tryz.prog.cellsOf 63=1),List.getElem?_eq_getElem z_]at g13
  obtain ⟨z13,p13,r13,o13⟩:=Abf _ _ _ g13
  have g14:DataW.trod enc Tryz.prog W 0 (fun _=>true) true m 63 (([c0,c1,c2,c3,c4,c5,c6,c7,c8,c9,c10,c11,c12,c13,c14,c15,c16].drop 14).take (Tryz.prog.cellsOf 63))=xs[14]?:=hg 14 _ rfl
  rw[(by kernel_rfl:Tryz.prog.cellsOf 63=1),List.getElem?_eq_getElem z_]at g14
  obtain ⟨z14,p14,r14,o14⟩:=Abf _ _ _ g14
  have g15:DataW.trod enc Tryz.prog W 0 (fun _=>true) true m 63 (([c0,c1,c2,c3,c4,c5,c6,c7,c8,c9,c10,c11,c12,c13,c14,c15,c16].drop 15).take (Tryz.prog.cellsOf 63))=xs[15]?:=hg 15 _ rfl
  rw[(by kernel_rfl:Tryz.prog.cellsOf 63=1),List.getElem?_eq_getElem z_]at g15
  obtain ⟨z15,p15,r15,o15⟩:=Abf _ _ _ g15
  have g16:DataW.trod enc Tryz.prog W 0 (fun _=>true) true m 64 (([c0,c1,c2,c3,c4,c5,c6,c7,c8,c9,c10,c11,c12,c13,c14,c15,c16].drop 16).take (Tryz.prog.cellsOf 64))=xs[16]?:=hg 16 _ rfl
  rw[(by kernel_rfl:Tryz.prog.cellsOf 64=1),List.getElem?_eq_getElem z_]at g16
  obtain ⟨z16,p16,r16,o16⟩:=Ap7 _ _ _ g16
  refine⟨⟨z0,z1,z2,z3,z4,z5,z6,z7,z8,z9,z10,z11,z12,z13,z14,z15,z16⟩,⟨p0,p1,p2,p3,p4,p5,p6,p7,p8,p9,p10,p11,p12,p13,p14,p15,p16⟩,Y,fun c hc=>?_,?_⟩
  ·simp only[List.mem_cons,List.not_mem_nil,or_false]at hc
   rcases hc with rfl | rfl | rfl | rfl | rfl | rfl | rfl | rfl | rfl | rfl | rfl | rfl | rfl | rfl | rfl | rfl | rfl<;>assumption
  ·simp only[Al,cellsOf,RdL]
   exact⟨_,_,Y,r0,_,_,Y,r1,_,_,Y,r2,_,_,Y,r3,_,_,Y,r4,_,_,Y,r5,_,_,Y,r6,_,_,Y,r7,_,_,Y,r8,_,_,Y,r9,_,_,Y,r10,_,_,Y,r11,_,_,Y,r12,_,_,Y,r13,_,_,Y,r14,_,_,Y,r15,_,_,Y,r16,Y⟩
theorem Ano:Op1 enc Tryz.prog W 22 (fun l:List LineM=>.sl 17 Al l) (fun l=>(∀ x∈l,LineM.In x)∧l.length≤maxLen) :=
 Xn Tryz.underlying22 (by kernel_rfl:Tryz.prog.cellsOf 66=17) y_ (fun _=>rfl) (fun _=>rfl) Ak5
end
end Go.Sy.YtjenpnjajjplkaaGreatDoor
namespace Go.Sy.YtjenpnjajjplkaaGreatDoor
open Go.Proofs
theorem Aqh {l:LineM} (h:LineM.In l):LineOK l:=by
 obtain ⟨_,_,_,_,_,_,_,h8,h9,_,_,_,_,_,_,_,h17⟩:=h
 refine⟨?_,?_,fun x hx=>?_⟩
 ·simp only[wI,Lit.wf,decide_eq_true_eq,Bool.and_eq_true]at h8
  exact⟨h8.1,Int.lt_of_le_of_lt h8.2 y_⟩
 ·simp only[wI,Lit.wf,decide_eq_true_eq,Bool.and_eq_true]at h9
  exact⟨h9.1,Int.lt_of_le_of_lt h9.2 y_⟩
 ·have h1:=h17.1 x hx
  simp only[wI,Lit.wf,decide_eq_true_eq,Bool.and_eq_true]at h1
  exact⟨h1.1,Int.lt_of_le_of_lt h1.2 y_⟩
theorem Ug {z:Int} (h:wI .i64 z):C5 z:=by
 simp only[wI,Lit.wf,decide_eq_true_eq,Bool.and_eq_true]at h
 exact⟨h.1,Int.lt_of_le_of_lt h.2 y_⟩
theorem line_n {l:LineM} (h:LineM.In l):LineN l:=by
 obtain ⟨_,_,_,_,_,_,_,_,_,_,h11,h12,h13,h14,h15,h16,_⟩:=h
 exact⟨Ug h11,Ug h12,Ug h13,fun x hx=>Ug (h14.1 x hx),fun x hx=>Ug (h15.1 x hx),fun x hx=>Ug (h16.1 x hx)⟩
end Go.Sy.YtjenpnjajjplkaaGreatDoor
