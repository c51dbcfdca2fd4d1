/-
  I32 I33 I34 I35 I27 I28 Sy34 Sy35 Sy36 Sy37 Sy38 Sy39 Sy40 I29 I30 I36 I39: parts of a proof, joined by program.
-/
import Derived.Test.YtdkfcckkkfghgaaGreatDoorXQ5
import Derived.Test.YtdkfcckkkfghgaaGreatDoorXQ4
import Derived.Test.YtdkfcckkkfghgaaGreatDoorXQ3
import Derived.Laws.LoneSync
import Derived.Test.YtdkfcckkkfghgaaGreatDoorXQ2
import Derived.Defers
import Derived.Tactics
import Derived.Tactics2
import Derived.Laws.Pointers
import Derived.RegionTactic
import Derived.RegionCalls
set_option linter.all false
set_option linter.unusedVariables false
set_option linter.unusedSimpArgs false
set_option linter.deprecated false
namespace Go.Sy.YtdkfcckkkfghgaaGreatDoor
open Go.Proofs
attribute [local irreducible] Go.Sy.G Go.Sy.DR
set_option maxRecDepth 100000
set_option maxHeartbeats 4000000
theorem J0 (l m:List Int) (hl:l.length≤1000000) (hm1:m.length≤1000000):Sy.Spec Tryz.prog 240 [.sl 1 Aa l,.sl 1 Aa m] [] (Ab (l == m)) []:=cT F240 Tryz.ntmps240 fun F hF=>by
 by_cases hlen:l.length=m.length
 rotate_left
 ·have hr:(l == m)=false:=by
   rw[beq_eq_false_iff_ne];intro e;exact hlen (by rw[e])
  have f0:((l.length:Int) != (m.length:Int))=true:=by rw[bne_iff_ne];omega
  rw[hr]
  refine T ?_
  exact D
 have f0:((l.length:Int) != (m.length:Int))=false:=by rw[bne_eq_false_iff_eq];omega
 refine T ?_
 refine Bf l.length (fun j=>l.take j=m.take j) (fun j=>[(0,.sl 1 Aa l),(1,.sl 1 Aa m),(12,Aa l.length),(13,Aa j)]) (fun _=>[]) [] q_ U ?_
 intro j hj hI
 refine T ?_
 refine⟨fun h=>?_,fun h=>?_⟩
 ·have hlt:j<l.length:=qA h
  have hlm:j<m.length:=by omega
  have hlt0:((j:Nat):Int).toNat<l.length:=hlt
  have hlm0:((j:Nat):Int).toNat<m.length:=hlm
  clear h
  by_cases he:l[j]=m[j]
  ·have f1:(l[((j:Nat):Int).toNat]'hlt0 != m[((j:Nat):Int).toNat]'hlm0)=false:=by rw[bne_eq_false_iff_eq];exact he
   refine T ?_
   refine Bi [] hI j_ ?_ U
   rw[List.take_succ_eq_append_getElem hlt,List.take_succ_eq_append_getElem hlm,hI,he]
  ·have f1:(l[((j:Nat):Int).toNat]'hlt0 != m[((j:Nat):Int).toNat]'hlm0)=true:=by rw[bne_iff_ne];exact he
   have hr:(l == m)=false:=by
    rw[beq_eq_false_iff_ne];intro e;subst e;exact he rfl
   rw[hr]
   refine T ?_
   exact D
 ·have hje:j=l.length:=qB h
  subst hje
  have hr:(l == m)=true:=by
   rw[beq_iff_eq]
   rw[List.take_length,hlen,List.take_length]at hI
   exact hI
  rw[hr]
  clear h
  refine T ?_
  exact D
theorem Wt (l m:List Int) (hl:l.length≤1000000) (hm1:m.length≤1000000):Sy.Spec Tryz.prog 241 [.sl 1 A7 l,.sl 1 A7 m] [] (Ab (l == m)) []:=cT F241 Tryz.ntmps241 fun F hF=>by
 by_cases hlen:l.length=m.length
 rotate_left
 ·have hr:(l == m)=false:=by
   rw[beq_eq_false_iff_ne];intro e;exact hlen (by rw[e])
  have f0:((l.length:Int) != (m.length:Int))=true:=by rw[bne_iff_ne];omega
  rw[hr]
  refine T ?_
  exact D
 have f0:((l.length:Int) != (m.length:Int))=false:=by rw[bne_eq_false_iff_eq];omega
 refine T ?_
 refine Bf l.length (fun j=>l.take j=m.take j) (fun j=>[(0,.sl 1 A7 l),(1,.sl 1 A7 m),(12,Aa l.length),(13,Aa j)]) (fun _=>[]) [] q_ U ?_
 intro j hj hI
 refine T ?_
 refine⟨fun h=>?_,fun h=>?_⟩
 ·have hlt:j<l.length:=qA h
  have hlm:j<m.length:=by omega
  have hlt0:((j:Nat):Int).toNat<l.length:=hlt
  have hlm0:((j:Nat):Int).toNat<m.length:=hlm
  clear h
  by_cases he:l[j]=m[j]
  ·have f1:(l[((j:Nat):Int).toNat]'hlt0 != m[((j:Nat):Int).toNat]'hlm0)=false:=by rw[bne_eq_false_iff_eq];exact he
   refine T ?_
   refine Bi [] hI j_ ?_ U
   rw[List.take_succ_eq_append_getElem hlt,List.take_succ_eq_append_getElem hlm,hI,he]
  ·have f1:(l[((j:Nat):Int).toNat]'hlt0 != m[((j:Nat):Int).toNat]'hlm0)=true:=by rw[bne_iff_ne];exact he
   have hr:(l == m)=false:=by
    rw[beq_eq_false_iff_ne];intro e;subst e;exact he rfl
   rw[hr]
   refine T ?_
   exact D
 ·have hje:j=l.length:=qB h
  subst hje
  have hr:(l == m)=true:=by
   rw[beq_iff_eq]
   rw[List.take_length,hlen,List.take_length]at hI
   exact hI
  rw[hr]
  clear h
  refine T ?_
  exact D
theorem Akw (a b:LineM) (ha:LineFin a) (hb:LineFin b):Sy.Spec Tryz.prog 186 [Ad a,Ad b] [] (Ab (E3 a b)) []:=cT F186 Tryz.ntmps186 fun F hF=>by
 have ht:=ha.t;have hi:=ha.i;have he:=ha.e;have haa:=ha.a
 have ht2:=hb.t;have hi2:=hb.i;have he2:=hb.e;have haa2:=hb.a
 have q0:=J0 a.tagged b.tagged j_ j_
 have q1:=J0 a.imports b.imports j_ j_
 have q2:=J0 a.exports b.exports j_ j_
 have q3:=Wt a.addrs b.addrs j_ j_
 rw[E3]
 cases h_row:(a.row == b.row)
 ·rw[Bool.false_and]
  refine T ?_
  exact D
 rw[Bool.true_and]
 cases h_kind:(a.kind == b.kind)
 ·rw[Bool.false_and]
  refine T ?_
  exact D
 rw[Bool.true_and]
 cases h_dev:(a.dev == b.dev)
 ·rw[Bool.false_and]
  refine T ?_
  exact D
 rw[Bool.true_and]
 cases h_port:(a.port == b.port)
 ·rw[Bool.false_and]
  refine T ?_
  exact D
 rw[Bool.true_and]
 cases h_peer:(a.peer == b.peer)
 ·rw[Bool.false_and]
  refine T ?_
  exact D
 rw[Bool.true_and]
 cases h_far:(a.far == b.far)
 ·rw[Bool.false_and]
  refine T ?_
  exact D
 rw[Bool.true_and]
 cases h_name:(a.name == b.name)
 ·rw[Bool.false_and]
  refine T ?_
  exact D
 rw[Bool.true_and]
 cases h_mac:(a.mac == b.mac)
 ·rw[Bool.false_and]
  refine T ?_
  exact D
 rw[Bool.true_and]
 cases h_addr:(a.addr == b.addr)
 ·rw[Bool.false_and]
  refine T ?_
  exact D
 rw[Bool.true_and]
 cases h_bits:(a.bits == b.bits)
 ·rw[Bool.false_and]
  refine T ?_
  exact D
 rw[Bool.true_and]
 cases h_vlan:(a.vlan == b.vlan)
 ·rw[Bool.false_and]
  refine T ?_
  exact D
 rw[Bool.true_and]
 cases h_num:(a.num == b.num)
 ·rw[Bool.false_and]
  refine T ?_
  exact D
 rw[Bool.true_and]
 cases h_cost:(a.cost == b.cost)
 ·rw[Bool.false_and]
  refine T ?_
  exact D
 rw[Bool.true_and]
 cases h_tagged:(a.tagged == b.tagged)
 ·rw[h_tagged]at q0
  rw[Bool.false_and]
  refine T ?_
  refine C q0 F240 ?_
  exact D
 rw[h_tagged]at q0
 rw[Bool.true_and]
 cases h_imports:(a.imports == b.imports)
 ·rw[h_imports]at q1
  rw[Bool.false_and]
  refine T ?_
  refine C q0 F240 ?_
  refine C q1 F240 ?_
  exact D
 rw[h_imports]at q1
 rw[Bool.true_and]
 cases h_exports:(a.exports == b.exports)
 ·rw[h_exports]at q2
  rw[Bool.false_and]
  refine T ?_
  refine C q0 F240 ?_
  refine C q1 F240 ?_
  refine C q2 F240 ?_
  exact D
 rw[h_exports]at q2
 rw[Bool.true_and]
 cases h_addrs:(a.addrs == b.addrs)
 ·rw[h_addrs]at q3
  skip
  refine T ?_
  refine C q0 F240 ?_
  refine C q1 F240 ?_
  refine C q2 F240 ?_
  refine C q3 F241 ?_
  exact D
 rw[h_addrs]at q3
 refine T ?_
 refine C q0 F240 ?_
 refine C q1 F240 ?_
 refine C q2 F240 ?_
 refine C q3 F241 ?_
 exact D
theorem Ea (n lo hi:Int):Sy.Spec Tryz.prog 237 [Aa n,Aa lo,Aa hi] [] (Ab (B3 n lo hi)) []:=cT F237 Tryz.ntmps237 fun F hF=>by
 rw[B3]
 by_cases h1:lo≤n
 ·have f1:decide (n≥lo)=true:=decide_eq_true h1
  rw[decide_eq_true h1,Bool.true_and]
  refine T ?_
  exact D
 ·have f1:decide (n≥lo)=false:=decide_eq_false h1
  rw[decide_eq_false h1,Bool.false_and]
  refine T ?_
  exact D
theorem U0 (l:List Int) (most:Int) (hl:l.length≤100000):Sy.Spec Tryz.prog 238 [.sl 1 Aa l,Aa most] [] (Ab (E5 l most)) []:=cT F238 Tryz.ntmps238 fun F hF=>by
 have q:=X8 l 1 most (by simp only[Ax];omega)
 rw[E5,Qr]
 by_cases h0:l.length=0
 ·rw[decide_eq_true h0,Bool.true_or]
  have f0:((l.length:Int) == 0)=true:=by rw[h0];rfl
  refine T ?_
  exact D
 ·rw[decide_eq_false h0,Bool.false_or]
  have f0:((l.length:Int) == 0)=false:=by rw[beq_eq_false_iff_ne];omega
  refine T ?_
  refine C q F226 ?_
  exact D
def Ox (l:List Int) (i:Nat) (x:Int):Bool:=decide (x≠0) && (i == 0 || decide (l.getD (i-1) 0<x))
theorem Aja (l:List Int):Hz l=(Hf (Ox l) l && (decide (0<l.length) && decide (l.length≤16))):=by
 have e:(List.range l.length).all (fun i=>decide (l.getD i 0≠0) && (i == 0 || decide (l.getD (i-1) 0<l.getD i 0)))=Hf (Ox l) l:=by
  rw[Bool.eq_iff_iff,List.all_eq_true,allB_iff]
  constructor
  ·intro h i hi
   have:=h i (List.mem_range.2 hi)
   rw[show l.getD i 0=l[i] by rw[List.getD_eq_getElem?_getD,List.getElem?_eq_getElem hi];rfl]at this
   exact this
  ·intro h i hi
   have hi:=List.mem_range.1 hi
   rw[show l.getD i 0=l[i] by rw[List.getD_eq_getElem?_getD,List.getElem?_eq_getElem hi];rfl]
   exact h i hi
 rw[Hz,e]
theorem Ahe (l:List Int) (hl:l.length≤100000):Sy.Spec Tryz.prog 239 [.sl 1 A7 l] [] (Ab (Hz l)) []:=cT F239 Tryz.ntmps239 fun F hF=>by
 have hres:=Aja l
 generalize Hz l=r at *
 refine T ?_
 refine Bf l.length (fun j=>I2 (Ox l) l j) (fun j=>[(0,.sl 1 A7 l),(5,.sl 1 A7 l),(6,Aa l.length),(7,Aa j)]) (fun _=>[]) [] (Bt _ _) U ?_
 intro j hj hI
 refine T ?_
 refine⟨fun h=>?_,fun h=>?_⟩
 ·have hlt:j<l.length:=qA h
  have hlt0:((j:Nat):Int).toNat<l.length:=hlt
  have hno:=fun h=>Cn (p:=Ox l) hlt h
  have hnx:=fun h=>Bm (p:=Ox l) hI hlt h
  clear h
  by_cases h1:l[j]=0
  ·have f1:(l[((j:Nat):Int).toNat]'hlt0 == 0)=true:=beq_iff_eq.2 h1
   rw[hno (by simp[Ox,h1]),Bool.false_and]at hres
   subst hres
   refine T ?_
   exact D
  ·have f1:(l[((j:Nat):Int).toNat]'hlt0 == 0)=false:=beq_eq_false_iff_ne.2 h1
   by_cases h2:j=0
   ·subst h2
    refine T ?_
    exact Bi [] hI j_ (hnx (by simp[Ox,h1])) U
   ·have f2:decide ((j:Int)>0)=true:=decide_eq_true j_
    have hk:((j:Int)-1).toNat<l.length:=by omega
    have hg:l.getD (j-1) 0=l[((j:Int)-1).toNat]'hk:=by
     rw[List.getD_eq_getElem?_getD,List.getElem?_eq_getElem (by omega:j-1<l.length)]
     have:((j:Int)-1).toNat=j-1:=by omega
     simp only[this]
     rfl
    have hx:Ox l j l[j]=(decide (l[j]≠0) && (j == 0 || decide (l.getD (j-1) 0<l[j]))):=rfl
    rw[hg]at hx
    by_cases h3:l[((j:Int)-1).toNat]'hk<l[j]
    ·have f3:decide (l[((j:Int)-1).toNat]'hk≥l[((j:Nat):Int).toNat]'hlt0)=false:=decide_eq_false (by show ¬ _≥l[j];omega)
     refine T ?_
     exact Bi [] hI j_ (hnx (by rw[hx,decide_eq_true h1,decide_eq_true h3,Bool.or_true];rfl)) U
    ·have f3:decide (l[((j:Int)-1).toNat]'hk≥l[((j:Nat):Int).toNat]'hlt0)=true:=decide_eq_true (by show _≥l[j];omega)
     rw[hno (by rw[hx,decide_eq_false h3,beq_eq_false_iff_ne.2 h2];simp),Bool.false_and]at hres
     subst hres
     refine T ?_
     exact D
 ·have hje:j=l.length:=qB h
  subst hje
  rw[Ej hI (Nat.le_refl _),Bool.true_and]at hres
  subst hres
  clear h
  by_cases h0:0<l.length
  ·rw[decide_eq_true h0,Bool.true_and]
   have f0:decide ((l.length:Int)>0)=true:=decide_eq_true j_
   refine T ?_
   refine Aw q_ (.cons .tmp .nil) (congrArg Ab ?_) q_
   exact decide_eq_decide.2 j_
  ·rw[decide_eq_false h0,Bool.false_and]
   have f0:decide ((l.length:Int)>0)=false:=decide_eq_false j_
   refine T ?_
   exact D
structure LineW (l:LineM):Prop where
 fin:LineFin l
 ok:LineOK l
 dev:l.dev.size≤100000
 port:l.port.size≤100000
 peer:l.peer.size≤100000
 far:l.far.size≤100000
 name:l.name.size≤100000
theorem Ag3 (l:LineM) (hw:LineW l) (hk:l.kind=1):Sy.Spec Tryz.prog 185 [Ad l] [] (.tup [Ad (A0 l).1,Ab (A0 l).2]) []:=cT F185 Tryz.ntmps185 fun F hF=>by
 have hU:A0 l=({ lineZ with row:=l.row,kind:=1,dev:=l.dev,num:=l.num,mac:=l.mac },(B3 l.num 0 65535 && statB l.mac)):=by
  simp only[A0,hk]
  rfl
 rw[hU]
 have q0:=Ea l.num 0 65535
 have q1:Sy.Spec Tryz.prog 100 [Dp l.mac] [] (Ab (statB l.mac)) []:=by
  have:=hw.ok.mac
  obtain ⟨m,hm1⟩:∃ m:Nat,l.mac=m:=⟨l.mac.toNat,by omega⟩
  rw[hm1];exact Xo m j_
 obtain ⟨row,kind,dev,port,peer,far,name,mac,addr,bits,vlan,num,cost,tagged,imports,exports,addrs⟩:=l
 dsimp only at hk q0 q1 ⊢
 subst hk
 clear hU hw
 generalize B3 num 0 65535=b0 at *
 generalize statB mac=b1 at *
 cases b0
 ·rw[Bool.false_and]
  refine T ?_
  refine C q0 F237 ?_
  refine Am 2 (Br { lineZ with row:=row,kind:=1,dev:=dev,num:=num,mac:=mac }) rfl (.cons (.refl _) (.cons (.refl _) (.cons (.refl _) (.cons (.refl _) (.cons (.refl _) (.cons (.refl _) (.cons (.refl _) (.cons (.refl _) (.cons (.refl _) (.cons (.refl _) (.cons (.refl _) (.cons (.refl _) (.cons (.refl _) (.cons .nil (.cons .nil (.cons .nil (.cons .nil .nil))))))))))))))))) ?_
  refine T ?_
  exact D
 rw[Bool.true_and]
 refine T ?_
 refine C q0 F237 ?_
 refine C q1 F100 ?_
 refine Am 2 (Br { lineZ with row:=row,kind:=1,dev:=dev,num:=num,mac:=mac }) rfl (.cons (.refl _) (.cons (.refl _) (.cons (.refl _) (.cons (.refl _) (.cons (.refl _) (.cons (.refl _) (.cons (.refl _) (.cons (.refl _) (.cons (.refl _) (.cons (.refl _) (.cons (.refl _) (.cons (.refl _) (.cons (.refl _) (.cons .nil (.cons .nil (.cons .nil (.cons .nil .nil))))))))))))))))) ?_
 refine T ?_
 exact D
theorem Ag2 (l:LineM) (hw:LineW l) (hk:l.kind=2):Sy.Spec Tryz.prog 185 [Ad l] [] (.tup [Ad (A0 l).1,Ab (A0 l).2]) []:=cT F185 Tryz.ntmps185 fun F hF=>by
 have hU:A0 l=({ lineZ with row:=l.row,kind:=2,dev:=l.dev,port:=l.port,cost:=l.cost,vlan:=l.vlan,tagged:=l.tagged },(Az l.port && (B3 l.cost 1 65535 && (B3 l.vlan 0 4094 && (E5 l.tagged 4094 && membersB l.vlan l.tagged))))):=by
  simp only[A0,hk]
  rfl
 rw[hU]
 have q0:=Ik l.port (by have:=hw.port;omega)
 have q1:=Ea l.cost 1 65535
 have q2:=Ea l.vlan 0 4094
 have q3:=U0 l.tagged 4094 hw.fin.t
 have q4:=If l (by have:=hw.fin.t;simp only[Ax];omega)
 obtain ⟨row,kind,dev,port,peer,far,name,mac,addr,bits,vlan,num,cost,tagged,imports,exports,addrs⟩:=l
 dsimp only at hk q0 q1 q2 q3 q4 ⊢
 subst hk
 clear hU hw
 generalize Az port=b0 at *
 generalize B3 cost 1 65535=b1 at *
 generalize B3 vlan 0 4094=b2 at *
 generalize E5 tagged 4094=b3 at *
 generalize membersB vlan tagged=b4 at *
 cases b0
 ·rw[Bool.false_and]
  refine T ?_
  refine C q0 F97 ?_
  refine Am 2 (Br { lineZ with row:=row,kind:=2,dev:=dev,port:=port,cost:=cost,vlan:=vlan,tagged:=tagged }) rfl (.cons (.refl _) (.cons (.refl _) (.cons (.refl _) (.cons (.refl _) (.cons (.refl _) (.cons (.refl _) (.cons (.refl _) (.cons (.refl _) (.cons (.refl _) (.cons (.refl _) (.cons (.refl _) (.cons (.refl _) (.cons (.refl _) (.cons (.refl _) (.cons .nil (.cons .nil (.cons .nil .nil))))))))))))))))) ?_
  refine T ?_
  exact D
 rw[Bool.true_and]
 cases b1
 ·rw[Bool.false_and]
  refine T ?_
  refine C q0 F97 ?_
  refine C q1 F237 ?_
  refine Am 2 (Br { lineZ with row:=row,kind:=2,dev:=dev,port:=port,cost:=cost,vlan:=vlan,tagged:=tagged }) rfl (.cons (.refl _) (.cons (.refl _) (.cons (.refl _) (.cons (.refl _) (.cons (.refl _) (.cons (.refl _) (.cons (.refl _) (.cons (.refl _) (.cons (.refl _) (.cons (.refl _) (.cons (.refl _) (.cons (.refl _) (.cons (.refl _) (.cons (.refl _) (.cons .nil (.cons .nil (.cons .nil .nil))))))))))))))))) ?_
  refine T ?_
  exact D
 rw[Bool.true_and]
 cases b2
 ·rw[Bool.false_and]
  refine T ?_
  refine C q0 F97 ?_
  refine C q1 F237 ?_
  refine C q2 F237 ?_
  refine Am 2 (Br { lineZ with row:=row,kind:=2,dev:=dev,port:=port,cost:=cost,vlan:=vlan,tagged:=tagged }) rfl (.cons (.refl _) (.cons (.refl _) (.cons (.refl _) (.cons (.refl _) (.cons (.refl _) (.cons (.refl _) (.cons (.refl _) (.cons (.refl _) (.cons (.refl _) (.cons (.refl _) (.cons (.refl _) (.cons (.refl _) (.cons (.refl _) (.cons (.refl _) (.cons .nil (.cons .nil (.cons .nil .nil))))))))))))))))) ?_
  refine T ?_
  exact D
 rw[Bool.true_and]
 cases b3
 ·rw[Bool.false_and]
  refine T ?_
  refine C q0 F97 ?_
  refine C q1 F237 ?_
  refine C q2 F237 ?_
  refine C q3 F238 ?_
  refine Am 2 (Br { lineZ with row:=row,kind:=2,dev:=dev,port:=port,cost:=cost,vlan:=vlan,tagged:=tagged }) rfl (.cons (.refl _) (.cons (.refl _) (.cons (.refl _) (.cons (.refl _) (.cons (.refl _) (.cons (.refl _) (.cons (.refl _) (.cons (.refl _) (.cons (.refl _) (.cons (.refl _) (.cons (.refl _) (.cons (.refl _) (.cons (.refl _) (.cons (.refl _) (.cons .nil (.cons .nil (.cons .nil .nil))))))))))))))))) ?_
  refine T ?_
  exact D
 rw[Bool.true_and]
 refine T ?_
 refine C q0 F97 ?_
 refine C q1 F237 ?_
 refine C q2 F237 ?_
 refine C q3 F238 ?_
 refine C q4 F101 ?_
 refine Am 2 (Br { lineZ with row:=row,kind:=2,dev:=dev,port:=port,cost:=cost,vlan:=vlan,tagged:=tagged }) rfl (.cons (.refl _) (.cons (.refl _) (.cons (.refl _) (.cons (.refl _) (.cons (.refl _) (.cons (.refl _) (.cons (.refl _) (.cons (.refl _) (.cons (.refl _) (.cons (.refl _) (.cons (.refl _) (.cons (.refl _) (.cons (.refl _) (.cons (.refl _) (.cons .nil (.cons .nil (.cons .nil .nil))))))))))))))))) ?_
 refine T ?_
 exact D
theorem Ag1 (l:LineM) (hw:LineW l) (hk:l.kind=3):Sy.Spec Tryz.prog 185 [Ad l] [] (.tup [Ad (A0 l).1,Ab (A0 l).2]) []:=cT F185 Tryz.ntmps185 fun F hF=>by
 have hU:A0 l=({ lineZ with row:=l.row,kind:=3,dev:=l.dev,port:=l.port,peer:=l.peer,far:=l.far },(Az l.port && (Az l.peer && Az l.far))):=by
  simp only[A0,hk]
  rfl
 rw[hU]
 have q0:=Ik l.port (by have:=hw.port;omega)
 have q1:=Ik l.peer (by have:=hw.peer;omega)
 have q2:=Ik l.far (by have:=hw.far;omega)
 obtain ⟨row,kind,dev,port,peer,far,name,mac,addr,bits,vlan,num,cost,tagged,imports,exports,addrs⟩:=l
 dsimp only at hk q0 q1 q2 ⊢
 subst hk
 clear hU hw
 generalize Az port=b0 at *
 generalize Az peer=b1 at *
 generalize Az far=b2 at *
 cases b0
 ·rw[Bool.false_and]
  refine T ?_
  refine C q0 F97 ?_
  refine Am 2 (Br { lineZ with row:=row,kind:=3,dev:=dev,port:=port,peer:=peer,far:=far }) rfl (.cons (.refl _) (.cons (.refl _) (.cons (.refl _) (.cons (.refl _) (.cons (.refl _) (.cons (.refl _) (.cons (.refl _) (.cons (.refl _) (.cons (.refl _) (.cons (.refl _) (.cons (.refl _) (.cons (.refl _) (.cons (.refl _) (.cons .nil (.cons .nil (.cons .nil (.cons .nil .nil))))))))))))))))) ?_
  refine T ?_
  exact D
 rw[Bool.true_and]
 cases b1
 ·rw[Bool.false_and]
  refine T ?_
  refine C q0 F97 ?_
  refine C q1 F97 ?_
  refine Am 2 (Br { lineZ with row:=row,kind:=3,dev:=dev,port:=port,peer:=peer,far:=far }) rfl (.cons (.refl _) (.cons (.refl _) (.cons (.refl _) (.cons (.refl _) (.cons (.refl _) (.cons (.refl _) (.cons (.refl _) (.cons (.refl _) (.cons (.refl _) (.cons (.refl _) (.cons (.refl _) (.cons (.refl _) (.cons (.refl _) (.cons .nil (.cons .nil (.cons .nil (.cons .nil .nil))))))))))))))))) ?_
  refine T ?_
  exact D
 rw[Bool.true_and]
 refine T ?_
 refine C q0 F97 ?_
 refine C q1 F97 ?_
 refine C q2 F97 ?_
 refine Am 2 (Br { lineZ with row:=row,kind:=3,dev:=dev,port:=port,peer:=peer,far:=far }) rfl (.cons (.refl _) (.cons (.refl _) (.cons (.refl _) (.cons (.refl _) (.cons (.refl _) (.cons (.refl _) (.cons (.refl _) (.cons (.refl _) (.cons (.refl _) (.cons (.refl _) (.cons (.refl _) (.cons (.refl _) (.cons (.refl _) (.cons .nil (.cons .nil (.cons .nil (.cons .nil .nil))))))))))))))))) ?_
 refine T ?_
 exact D
theorem Ag0 (l:LineM) (hw:LineW l) (hk:l.kind=4):Sy.Spec Tryz.prog 185 [Ad l] [] (.tup [Ad (A0 l).1,Ab (A0 l).2]) []:=cT F185 Tryz.ntmps185 fun F hF=>by
 have hU:A0 l=({ lineZ with row:=l.row,kind:=4,dev:=l.dev,vlan:=l.vlan,mac:=l.mac,port:=l.port },(B3 l.vlan 1 4094 && (statB l.mac && Az l.port))):=by
  simp only[A0,hk]
  rfl
 rw[hU]
 have q0:=Ea l.vlan 1 4094
 have q1:Sy.Spec Tryz.prog 100 [Dp l.mac] [] (Ab (statB l.mac)) []:=by
  have:=hw.ok.mac
  obtain ⟨m,hm1⟩:∃ m:Nat,l.mac=m:=⟨l.mac.toNat,by omega⟩
  rw[hm1];exact Xo m j_
 have q2:=Ik l.port (by have:=hw.port;omega)
 obtain ⟨row,kind,dev,port,peer,far,name,mac,addr,bits,vlan,num,cost,tagged,imports,exports,addrs⟩:=l
 dsimp only at hk q0 q1 q2 ⊢
 subst hk
 clear hU hw
 generalize B3 vlan 1 4094=b0 at *
 generalize statB mac=b1 at *
 generalize Az port=b2 at *
 cases b0
 ·rw[Bool.false_and]
  refine T ?_
  refine C q0 F237 ?_
  refine Am 2 (Br { lineZ with row:=row,kind:=4,dev:=dev,vlan:=vlan,mac:=mac,port:=port }) rfl (.cons (.refl _) (.cons (.refl _) (.cons (.refl _) (.cons (.refl _) (.cons (.refl _) (.cons (.refl _) (.cons (.refl _) (.cons (.refl _) (.cons (.refl _) (.cons (.refl _) (.cons (.refl _) (.cons (.refl _) (.cons (.refl _) (.cons .nil (.cons .nil (.cons .nil (.cons .nil .nil))))))))))))))))) ?_
  refine T ?_
  exact D
 rw[Bool.true_and]
 cases b1
 ·rw[Bool.false_and]
  refine T ?_
  refine C q0 F237 ?_
  refine C q1 F100 ?_
  refine Am 2 (Br { lineZ with row:=row,kind:=4,dev:=dev,vlan:=vlan,mac:=mac,port:=port }) rfl (.cons (.refl _) (.cons (.refl _) (.cons (.refl _) (.cons (.refl _) (.cons (.refl _) (.cons (.refl _) (.cons (.refl _) (.cons (.refl _) (.cons (.refl _) (.cons (.refl _) (.cons (.refl _) (.cons (.refl _) (.cons (.refl _) (.cons .nil (.cons .nil (.cons .nil (.cons .nil .nil))))))))))))))))) ?_
  refine T ?_
  exact D
 rw[Bool.true_and]
 refine T ?_
 refine C q0 F237 ?_
 refine C q1 F100 ?_
 refine C q2 F97 ?_
 refine Am 2 (Br { lineZ with row:=row,kind:=4,dev:=dev,vlan:=vlan,mac:=mac,port:=port }) rfl (.cons (.refl _) (.cons (.refl _) (.cons (.refl _) (.cons (.refl _) (.cons (.refl _) (.cons (.refl _) (.cons (.refl _) (.cons (.refl _) (.cons (.refl _) (.cons (.refl _) (.cons (.refl _) (.cons (.refl _) (.cons (.refl _) (.cons .nil (.cons .nil (.cons .nil (.cons .nil .nil))))))))))))))))) ?_
 refine T ?_
 exact D
theorem Agy (l:LineM) (hw:LineW l) (hk:l.kind=6):Sy.Spec Tryz.prog 185 [Ad l] [] (.tup [Ad (A0 l).1,Ab (A0 l).2]) []:=cT F185 Tryz.ntmps185 fun F hF=>by
 have hU:A0 l=({ lineZ with row:=l.row,kind:=6,dev:=l.dev,vlan:=l.vlan,num:=l.num },(B3 l.vlan 1 4094 && B3 l.num 1 16777215)):=by
  simp only[A0,hk]
  rfl
 rw[hU]
 have q0:=Ea l.vlan 1 4094
 have q1:=Ea l.num 1 16777215
 obtain ⟨row,kind,dev,port,peer,far,name,mac,addr,bits,vlan,num,cost,tagged,imports,exports,addrs⟩:=l
 dsimp only at hk q0 q1 ⊢
 subst hk
 clear hU hw
 generalize B3 vlan 1 4094=b0 at *
 generalize B3 num 1 16777215=b1 at *
 cases b0
 ·rw[Bool.false_and]
  refine T ?_
  refine C q0 F237 ?_
  refine Am 2 (Br { lineZ with row:=row,kind:=6,dev:=dev,vlan:=vlan,num:=num }) rfl (.cons (.refl _) (.cons (.refl _) (.cons (.refl _) (.cons (.refl _) (.cons (.refl _) (.cons (.refl _) (.cons (.refl _) (.cons (.refl _) (.cons (.refl _) (.cons (.refl _) (.cons (.refl _) (.cons (.refl _) (.cons (.refl _) (.cons .nil (.cons .nil (.cons .nil (.cons .nil .nil))))))))))))))))) ?_
  refine T ?_
  exact D
 rw[Bool.true_and]
 refine T ?_
 refine C q0 F237 ?_
 refine C q1 F237 ?_
 refine Am 2 (Br { lineZ with row:=row,kind:=6,dev:=dev,vlan:=vlan,num:=num }) rfl (.cons (.refl _) (.cons (.refl _) (.cons (.refl _) (.cons (.refl _) (.cons (.refl _) (.cons (.refl _) (.cons (.refl _) (.cons (.refl _) (.cons (.refl _) (.cons (.refl _) (.cons (.refl _) (.cons (.refl _) (.cons (.refl _) (.cons .nil (.cons .nil (.cons .nil (.cons .nil .nil))))))))))))))))) ?_
 refine T ?_
 exact D
theorem Agx (l:LineM) (hw:LineW l) (hk:l.kind=7):Sy.Spec Tryz.prog 185 [Ad l] [] (.tup [Ad (A0 l).1,Ab (A0 l).2]) []:=cT F185 Tryz.ntmps185 fun F hF=>by
 have hU:A0 l=({ lineZ with row:=l.row,kind:=7,dev:=l.dev,num:=l.num,addrs:=l.addrs },(B3 l.num 1 16777215 && Hz l.addrs)):=by
  simp only[A0,hk]
  rfl
 rw[hU]
 have q0:=Ea l.num 1 16777215
 have q1:=Ahe l.addrs hw.fin.a
 obtain ⟨row,kind,dev,port,peer,far,name,mac,addr,bits,vlan,num,cost,tagged,imports,exports,addrs⟩:=l
 dsimp only at hk q0 q1 ⊢
 subst hk
 clear hU hw
 generalize B3 num 1 16777215=b0 at *
 generalize Hz addrs=b1 at *
 cases b0
 ·rw[Bool.false_and]
  refine T ?_
  refine C q0 F237 ?_
  refine Am 2 (Br { lineZ with row:=row,kind:=7,dev:=dev,num:=num,addrs:=addrs }) rfl (.cons (.refl _) (.cons (.refl _) (.cons (.refl _) (.cons (.refl _) (.cons (.refl _) (.cons (.refl _) (.cons (.refl _) (.cons (.refl _) (.cons (.refl _) (.cons (.refl _) (.cons (.refl _) (.cons (.refl _) (.cons (.refl _) (.cons .nil (.cons .nil (.cons .nil (.cons (.refl _) .nil))))))))))))))))) ?_
  refine T ?_
  exact D
 rw[Bool.true_and]
 refine T ?_
 refine C q0 F237 ?_
 refine C q1 F239 ?_
 refine Am 2 (Br { lineZ with row:=row,kind:=7,dev:=dev,num:=num,addrs:=addrs }) rfl (.cons (.refl _) (.cons (.refl _) (.cons (.refl _) (.cons (.refl _) (.cons (.refl _) (.cons (.refl _) (.cons (.refl _) (.cons (.refl _) (.cons (.refl _) (.cons (.refl _) (.cons (.refl _) (.cons (.refl _) (.cons (.refl _) (.cons .nil (.cons .nil (.cons .nil (.cons (.refl _) .nil))))))))))))))))) ?_
 refine T ?_
 exact D
theorem Agw (l:LineM) (hw:LineW l) (hk:l.kind=8):Sy.Spec Tryz.prog 185 [Ad l] [] (.tup [Ad (A0 l).1,Ab (A0 l).2]) []:=cT F185 Tryz.ntmps185 fun F hF=>by
 have hU:A0 l=({ lineZ with row:=l.row,kind:=8,dev:=l.dev,name:=l.name,imports:=l.imports,exports:=l.exports },(Az l.name && (E5 l.imports 65535 && E5 l.exports 65535))):=by
  simp only[A0,hk]
  rfl
 rw[hU]
 have q0:=Ik l.name (by have:=hw.name;omega)
 have q1:=U0 l.imports 65535 hw.fin.i
 have q2:=U0 l.exports 65535 hw.fin.e
 obtain ⟨row,kind,dev,port,peer,far,name,mac,addr,bits,vlan,num,cost,tagged,imports,exports,addrs⟩:=l
 dsimp only at hk q0 q1 q2 ⊢
 subst hk
 clear hU hw
 generalize Az name=b0 at *
 generalize E5 imports 65535=b1 at *
 generalize E5 exports 65535=b2 at *
 cases b0
 ·rw[Bool.false_and]
  refine T ?_
  refine C q0 F97 ?_
  refine Am 2 (Br { lineZ with row:=row,kind:=8,dev:=dev,name:=name,imports:=imports,exports:=exports }) rfl (.cons (.refl _) (.cons (.refl _) (.cons (.refl _) (.cons (.refl _) (.cons (.refl _) (.cons (.refl _) (.cons (.refl _) (.cons (.refl _) (.cons (.refl _) (.cons (.refl _) (.cons (.refl _) (.cons (.refl _) (.cons (.refl _) (.cons .nil (.cons (.refl _) (.cons (.refl _) (.cons .nil .nil))))))))))))))))) ?_
  refine T ?_
  exact D
 rw[Bool.true_and]
 cases b1
 ·rw[Bool.false_and]
  refine T ?_
  refine C q0 F97 ?_
  refine C q1 F238 ?_
  refine Am 2 (Br { lineZ with row:=row,kind:=8,dev:=dev,name:=name,imports:=imports,exports:=exports }) rfl (.cons (.refl _) (.cons (.refl _) (.cons (.refl _) (.cons (.refl _) (.cons (.refl _) (.cons (.refl _) (.cons (.refl _) (.cons (.refl _) (.cons (.refl _) (.cons (.refl _) (.cons (.refl _) (.cons (.refl _) (.cons (.refl _) (.cons .nil (.cons (.refl _) (.cons (.refl _) (.cons .nil .nil))))))))))))))))) ?_
  refine T ?_
  exact D
 rw[Bool.true_and]
 refine T ?_
 refine C q0 F97 ?_
 refine C q1 F238 ?_
 refine C q2 F238 ?_
 refine Am 2 (Br { lineZ with row:=row,kind:=8,dev:=dev,name:=name,imports:=imports,exports:=exports }) rfl (.cons (.refl _) (.cons (.refl _) (.cons (.refl _) (.cons (.refl _) (.cons (.refl _) (.cons (.refl _) (.cons (.refl _) (.cons (.refl _) (.cons (.refl _) (.cons (.refl _) (.cons (.refl _) (.cons (.refl _) (.cons (.refl _) (.cons .nil (.cons (.refl _) (.cons (.refl _) (.cons .nil .nil))))))))))))))))) ?_
 refine T ?_
 exact D
theorem Agv (l:LineM) (hw:LineW l) (hk:l.kind=9):Sy.Spec Tryz.prog 185 [Ad l] [] (.tup [Ad (A0 l).1,Ab (A0 l).2]) []:=cT F185 Tryz.ntmps185 fun F hF=>by
 have hU:A0 l=({ lineZ with row:=l.row,kind:=9,dev:=l.dev,vlan:=l.vlan,name:=l.name,addr:=l.addr,bits:=l.bits },(B3 l.vlan 1 4094 && (Az l.name && subnetB l.addr l.bits))):=by
  simp only[A0,hk]
  rfl
 rw[hU]
 have q0:=Ea l.vlan 1 4094
 have q1:=Ik l.name (by have:=hw.name;omega)
 have q2:Sy.Spec Tryz.prog 65 [Ij l.addr l.bits] [] (Ab (subnetB l.addr l.bits)) []:=by
  have:=hw.ok.addr
  obtain ⟨m,hm1⟩:∃ m:Nat,l.addr=m:=⟨l.addr.toNat,by omega⟩
  rw[hm1];exact Vt m l.bits j_
 obtain ⟨row,kind,dev,port,peer,far,name,mac,addr,bits,vlan,num,cost,tagged,imports,exports,addrs⟩:=l
 dsimp only at hk q0 q1 q2 ⊢
 subst hk
 clear hU hw
 generalize B3 vlan 1 4094=b0 at *
 generalize Az name=b1 at *
 generalize subnetB addr bits=b2 at *
 cases b0
 ·rw[Bool.false_and]
  refine T ?_
  refine C q0 F237 ?_
  refine Am 2 (Br { lineZ with row:=row,kind:=9,dev:=dev,vlan:=vlan,name:=name,addr:=addr,bits:=bits }) rfl (.cons (.refl _) (.cons (.refl _) (.cons (.refl _) (.cons (.refl _) (.cons (.refl _) (.cons (.refl _) (.cons (.refl _) (.cons (.refl _) (.cons (.refl _) (.cons (.refl _) (.cons (.refl _) (.cons (.refl _) (.cons (.refl _) (.cons .nil (.cons .nil (.cons .nil (.cons .nil .nil))))))))))))))))) ?_
  refine T ?_
  exact D
 rw[Bool.true_and]
 cases b1
 ·rw[Bool.false_and]
  refine T ?_
  refine C q0 F237 ?_
  refine C q1 F97 ?_
  refine Am 2 (Br { lineZ with row:=row,kind:=9,dev:=dev,vlan:=vlan,name:=name,addr:=addr,bits:=bits }) rfl (.cons (.refl _) (.cons (.refl _) (.cons (.refl _) (.cons (.refl _) (.cons (.refl _) (.cons (.refl _) (.cons (.refl _) (.cons (.refl _) (.cons (.refl _) (.cons (.refl _) (.cons (.refl _) (.cons (.refl _) (.cons (.refl _) (.cons .nil (.cons .nil (.cons .nil (.cons .nil .nil))))))))))))))))) ?_
  refine T ?_
  exact D
 rw[Bool.true_and]
 refine T ?_
 refine C q0 F237 ?_
 refine C q1 F97 ?_
 refine C q2 F65 ?_
 refine Am 2 (Br { lineZ with row:=row,kind:=9,dev:=dev,vlan:=vlan,name:=name,addr:=addr,bits:=bits }) rfl (.cons (.refl _) (.cons (.refl _) (.cons (.refl _) (.cons (.refl _) (.cons (.refl _) (.cons (.refl _) (.cons (.refl _) (.cons (.refl _) (.cons (.refl _) (.cons (.refl _) (.cons (.refl _) (.cons (.refl _) (.cons (.refl _) (.cons .nil (.cons .nil (.cons .nil (.cons .nil .nil))))))))))))))))) ?_
 refine T ?_
 exact D
theorem Agz (l:LineM) (hw:LineW l) (hk:l.kind=5):Sy.Spec Tryz.prog 185 [Ad l] [] (.tup [Ad (A0 l).1,Ab (A0 l).2]) []:=cT F185 Tryz.ntmps185 fun F hF=>by
 have hU:A0 l=({ lineZ with row:=l.row,kind:=5,dev:=l.dev,addr:=l.addr },decide (l.addr≠0)):=by
  simp only[A0,hk]
  rfl
 rw[hU]
 obtain ⟨row,kind,dev,port,peer,far,name,mac,addr,bits,vlan,num,cost,tagged,imports,exports,addrs⟩:=l
 dsimp only at hk ⊢
 subst hk
 clear hU hw
 have hb:decide (addr≠0)=(addr != 0):=by
  by_cases h:addr=0
  ·rw[h];rfl
  ·rw[decide_eq_true h,bne_iff_ne.2 h]
 rw[hb]
 refine T ?_
 refine Am 2 (Br { lineZ with row:=row,kind:=5,dev:=dev,addr:=addr }) rfl (.cons (.refl _) (.cons (.refl _) (.cons (.refl _) (.cons (.refl _) (.cons (.refl _) (.cons (.refl _) (.cons (.refl _) (.cons (.refl _) (.cons (.refl _) (.cons (.refl _) (.cons (.refl _) (.cons (.refl _) (.cons (.refl _) (.cons .nil (.cons .nil (.cons .nil (.cons .nil .nil))))))))))))))))) ?_
 refine T ?_
 exact D
theorem Ag4 (l:LineM) (hk:¬ (1≤l.kind∧l.kind≤9)):Sy.Spec Tryz.prog 185 [Ad l] [] (.tup [Ad (A0 l).1,Ab (A0 l).2]) []:=cT F185 Tryz.ntmps185 fun F hF=>by
 have n1:¬ l.kind=1:=by omega
 have f1:(l.kind == 1)=false:=beq_eq_false_iff_ne.2 n1
 have n2:¬ l.kind=2:=by omega
 have f2:(l.kind == 2)=false:=beq_eq_false_iff_ne.2 n2
 have n3:¬ l.kind=3:=by omega
 have f3:(l.kind == 3)=false:=beq_eq_false_iff_ne.2 n3
 have n4:¬ l.kind=4:=by omega
 have f4:(l.kind == 4)=false:=beq_eq_false_iff_ne.2 n4
 have n5:¬ l.kind=5:=by omega
 have f5:(l.kind == 5)=false:=beq_eq_false_iff_ne.2 n5
 have n6:¬ l.kind=6:=by omega
 have f6:(l.kind == 6)=false:=beq_eq_false_iff_ne.2 n6
 have n7:¬ l.kind=7:=by omega
 have f7:(l.kind == 7)=false:=beq_eq_false_iff_ne.2 n7
 have n8:¬ l.kind=8:=by omega
 have f8:(l.kind == 8)=false:=beq_eq_false_iff_ne.2 n8
 have n9:¬ l.kind=9:=by omega
 have f9:(l.kind == 9)=false:=beq_eq_false_iff_ne.2 n9
 have hU:A0 l=({ lineZ with row:=l.row,kind:=l.kind,dev:=l.dev },false):=by
  simp only[A0,if_neg n1,if_neg n2,if_neg n3,if_neg n4,if_neg n5,if_neg n6,if_neg n7,if_neg n8,if_neg n9]
 rw[hU]
 refine T ?_
 refine Am 2 (Br { lineZ with row:=l.row,kind:=l.kind,dev:=l.dev }) rfl (.cons (.refl _) (.cons (.refl _) (.cons (.refl _) (.cons (.refl _) (.cons (.refl _) (.cons (.refl _) (.cons (.refl _) (.cons (.refl _) (.cons (.refl _) (.cons (.refl _) (.cons (.refl _) (.cons (.refl _) (.cons (.refl _) (.cons .nil (.cons .nil (.cons .nil (.cons .nil .nil))))))))))))))))) ?_
 refine T ?_
 exact D
theorem Akv (l:LineM) (hw:LineW l):Sy.Spec Tryz.prog 185 [Ad l] [] (.tup [Ad (A0 l).1,Ab (A0 l).2]) []:=by
 by_cases hk:1≤l.kind∧l.kind≤9
 ·rcases (by omega:l.kind=1∨l.kind=2∨l.kind=3∨l.kind=4∨l.kind=5∨l.kind=6∨l.kind=7∨l.kind=8∨l.kind=9) with h | h | h | h | h | h | h | h | h
  ·exact Ag3 l hw h
  ·exact Ag2 l hw h
  ·exact Ag1 l hw h
  ·exact Ag0 l hw h
  ·exact Agz l hw h
  ·exact Agy l hw h
  ·exact Agx l hw h
  ·exact Agw l hw h
  ·exact Agv l hw h
 ·exact Ag4 l hk
theorem Akq {l:LineM} (h:LineFin l):LineFin (A0 l).1:=by
 have ht:=h.t;have hi:=h.i;have he:=h.e;have haa:=h.a
 unfold A0
 dsimp only
 repeat' split
 all_goals exact⟨by first | exact ht | (show 0≤100000;decide),by first | exact hi | (show 0≤100000;decide),by first | exact he | (show 0≤100000;decide),by first | exact haa | (show 0≤100000;decide)⟩
theorem B8 (l:LineM) (hw:LineW l):Sy.Spec Tryz.prog 108 [Ad l] [] (Ab (Ao l)) []:=cT F108 Tryz.ntmps108 fun F hF=>by
 have q1:=Akv l hw
 have q2:=Ik l.dev (by have:=hw.dev;omega)
 have q3:=Akw (A0 l).1 l (Akq hw.fin) hw.fin
 rw[Ao]
 generalize A0 l=u at *
 obtain ⟨ul,ub⟩:=u
 dsimp only at q1 q3 ⊢
 cases ub
 ·rw[Bool.false_and]
  refine T ?_
  refine C q1 F185 ?_
  exact D
 rw[Bool.true_and]
 cases hn:Az l.dev
 ·rw[hn]at q2
  rw[Bool.false_and]
  refine T ?_
  refine C q1 F185 ?_
  refine C q2 F97 ?_
  exact D
 rw[hn]at q2
 rw[Bool.true_and]
 refine T ?_
 refine C q1 F185 ?_
 refine C q2 F97 ?_
 refine C q3 F186 ?_
 exact D
theorem Alu (i:Nat) (hi:i<6):Sy.Spec Tryz.prog 187 [Aa i] [] (Dp ((8 * (5-i):Nat):Int)) []:=cT F187 Tryz.ntmps187 fun F hF=>by
 refine T ?_
 refine Aw q_ (.cons .tmp .nil) (congrArg (fun z=>SV.val (.int .u64 z)) (?_:_=IntKind.u64.wrap (8 * (5-(i:Int))))) q_
 rw[IntKind.wrap_u64];omega
theorem Ai5 (m j:Nat) (hm:m<18446744073709551616) (hj:j<6):IntKind.u8.wrap ((m:Int).fdiv (2 ^ (min (((8 * (5-j):Nat):Int)).toNat IntKind.u64.bits)))=((byteN m j:Nat):Int):=by
 have hb:min (((8 * (5-j):Nat):Int)).toNat IntKind.u64.bits=8 * (5-j):=by show min _ 64=_;omega
 have hp:(2:Nat) ^ (8 * (5-j))=256 ^ (5-j):=by rw[Nat.pow_mul]
 rw[hb,show (2:Int) ^ (8 * (5-j))=((2 ^ (8 * (5-j)):Nat):Int) by rw[Int.natCast_pow];rfl,hp,Int.fdiv_eq_ediv_of_nonneg _ (Int.natCast_nonneg _),← Int.natCast_ediv,byteN,IntKind.wrap_u8]
 omega
theorem Yg (m:Nat):∀ j,(Zw m j).length≤3 * j
 | 0=>by simp[Zw]
 | j+1=>by
  have:=Yg m j
  rw[Zw,List.length_append,List.length_append]
  split<;>simp<;>omega
theorem Ao2:∀ k:Fin 16,A5 (⟨#[48,49,50,51,52,53,54,55,56,57,97,98,99,100,101,102]⟩:ByteArray) k.1=Yt k.1:=by decide +kernel
theorem Ai7:∀ k:Fin 256,bits .and .u8 (k.1:Int) 15=((k.1 % 16:Nat):Int):=by decide +kernel
theorem Ana (c:Nat):(c:Int).fdiv (2 ^ min (Int.toNat 4) IntKind.u8.bits)=((c / 16:Nat):Int):=by
 show (c:Int).fdiv 16=_
 rw[Int.fdiv_eq_ediv_of_nonneg _ qd,Int.natCast_ediv];rfl
theorem Ae9 (m:Nat) (h_:m<18446744073709551616):Sy.Spec Tryz.prog 111 [Dp m] [] (Ae (Od m)) []:=cT F111 Tryz.ntmps111 fun F hF=>by
 refine T ?_
 refine C0 3 1000 1 A3 q_ q_ ?_
 refine T ?_
 refine Dj 6 (fun j=>[(0,Dp m),(3,.osl 1000),(6,Aa j)]) (fun j=>[(1000,.row 1 A3 (Zw m j))]) [] U ?_
 intro j hj
 have hlu:=Yg m j
 have hsu:Zw m (j+1)=Zw m j++(if 0<j then [58] else [])++[Yt (byteN m j / 16),Yt (byteN m j % 16)]:=rfl
 generalize hu:Zw m j=u at *
 refine T ?_
 refine⟨fun h=>?_,fun h=>?_⟩
 ·have hlt:j<6:=qA h
  have hsh:=Ai5 m j h_ hlt
  clear h
  refine T ?_
  refine C (Alu j hlt) F187 ?_
  rw[hsh]
  have hbn:byteN m j<256:=Nat.mod_lt _ qd
  generalize byteN m j=c at *
  have hsz:(⟨#[48,49,50,51,52,53,54,55,56,57,97,98,99,100,101,102]⟩:ByteArray).size=16:=rfl
  have g1:0≤(c:Int).fdiv (2 ^ min (Int.toNat 4) IntKind.u8.bits):=by rw[Ana];omega
  have g2:((c:Int).fdiv (2 ^ min (Int.toNat 4) IntKind.u8.bits)).toNat<(⟨#[48,49,50,51,52,53,54,55,56,57,97,98,99,100,101,102]⟩:ByteArray).size:=by rw[Ana,hsz];omega
  have g3:0≤bits .and .u8 (c:Int) 15:=by rw[Ai7 ⟨c,hbn⟩];omega
  have g4:(bits .and .u8 (c:Int) 15).toNat<(⟨#[48,49,50,51,52,53,54,55,56,57,97,98,99,100,101,102]⟩:ByteArray).size:=by rw[Ai7 ⟨c,hbn⟩,hsz];show ((c % 16:Nat):Int).toNat<16;omega
  have x1:A5 (⟨#[48,49,50,51,52,53,54,55,56,57,97,98,99,100,101,102]⟩:ByteArray) ((c:Int).fdiv (2 ^ min (Int.toNat 4) IntKind.u8.bits)).toNat=Yt (c / 16):=by
   rw[Ana,Int.toNat_natCast];exact Ao2 ⟨c / 16,by omega⟩
  have x2:A5 (⟨#[48,49,50,51,52,53,54,55,56,57,97,98,99,100,101,102]⟩:ByteArray) (bits .and .u8 (c:Int) 15).toNat=Yt (c % 16):=by
   rw[Ai7 ⟨c,hbn⟩,Int.toNat_natCast];exact Ao2 ⟨c % 16,by omega⟩
  rw[← x1,← x2]at hsu
  by_cases h0:0<j
  ·rw[if_pos h0]at hsu
   refine T ?_
   refine X (Aj Γ.toTy 18 q_ q_ q_ q_ q_ (.row q_) (.lit (e:=A3) (l:=[58]) q_ q_) qd (by simp;omega) (by simp;omega)) ?_
   refine Xd (Aj Γ.toTy 27 q_ q_ q_ q_ q_ (.row q_) (.lit (e:=A3) (l:=[A5 (⟨#[48,49,50,51,52,53,54,55,56,57,97,98,99,100,101,102]⟩:ByteArray) ((c:Int).fdiv (2 ^ min (Int.toNat 4) IntKind.u8.bits)).toNat,A5 (⟨#[48,49,50,51,52,53,54,55,56,57,97,98,99,100,101,102]⟩:ByteArray) (bits .and .u8 (c:Int) 15).toNat]) q_ q_) qd (by simp;omega) (by simp;omega)) ?_
   exact Dl [(1000,27)] hlt ⟨⟨q_,q_,q_,q_,q_,q_,z_⟩,⟨.inl (congrArg (Ob.row 1 A3) hsu),q_,z_⟩,q_,q_⟩
  ·rw[if_neg h0,List.append_nil]at hsu
   refine T ?_
   refine Xd (Aj Γ.toTy 27 q_ q_ q_ q_ q_ (.row q_) (.lit (e:=A3) (l:=[A5 (⟨#[48,49,50,51,52,53,54,55,56,57,97,98,99,100,101,102]⟩:ByteArray) ((c:Int).fdiv (2 ^ min (Int.toNat 4) IntKind.u8.bits)).toNat,A5 (⟨#[48,49,50,51,52,53,54,55,56,57,97,98,99,100,101,102]⟩:ByteArray) (bits .and .u8 (c:Int) 15).toNat]) q_ q_) qd (by simp;omega) (by simp;omega)) ?_
   exact Dl [(1000,27)] hlt ⟨⟨q_,q_,q_,q_,q_,q_,z_⟩,⟨.inl (congrArg (Ob.row 1 A3) hsu),q_,z_⟩,q_,q_⟩
 ·have:j=6:=qB h
  subst this
  subst hu
  clear h
  refine T ?_
  refine X (Ee Γ.toTy (bs:=Zw m 6) q_ q_ q_ q_ q_ q_ q_ (.row q_)) ?_
  exact D
theorem Mx {α:Type} {tx:α→ByteArray}:∀ (l:List α),(∀ x∈l,(tx x).size≤100)→Li (l.map tx)≤100 * l.length
 | [],_=>by simp[Li]
 | x::l,h=>by
  have h1:=h x qe
  have h2:=Mx l (fun y hy=>h y (by simp[hy]))
  simp only[Li,List.map_cons,List.sum_cons,List.length_cons]at h2 ⊢
  omega
theorem Ace (tx:Int→ByteArray) (f:FuncId) (first cap:List SV) (hc:(SV.clo (.func f) first cap).inn []=true) (hr:∀ ρ:Nat→Nat,(SV.clo (.func f) first cap).ren ρ=.clo (.func f) first cap) (l:List Int) (hl:l.length≤100000) (hz:∀ x∈l,(tx x).size≤100) (hf:∀ x∈l,Hg Tryz.prog f (first++[Aa x]++cap) (Ae (tx x))) :
  Sy.Spec Tryz.prog 242 [.sl 1 Aa l,.clo (.func f) first cap] [] (Ae (Jo (l.map tx) comma)) []:=cT F242 Tryz.ntmps242 fun F hF=>by
 have hc':(SV.clo (.func f) first cap).inn [1000]=true:=Hv _ hc
 have hin:∀ y:SV,y.inn []=true→Bn [] (first++[y]++cap)=true:=fun y hy=>by
  simp only[SV.inn,Bool.and_eq_true]at hc
  rw[C5,C5,hc.1,hc.2]
  simp[Bn,hy]
 have hs:Li (l.map tx)≤100 * l.length:=Mx l hz
 have q2:=Xn (l.map tx) comma (by simp;omega) j_ (by rw[List.length_map];show 1 * l.length≤_;omega)
 refine T ?_
 refine C0 5 1000 1 Ae q_ q_ ?_
 refine T ?_
 refine Dj l.length (fun j=>[(1,.clo (.func f) first cap),(5,.osl 1000),(8,.sl 1 Aa l),(9,Aa l.length),(10,Aa j)]) (fun j=>[(1000,.row 1 Ae ((l.take j).map tx))]) [] ⟨⟨Ay _,hc',q_,q_,q_,q_,q_,q_,q_,q_,z_⟩,⟨.inl q_,q_,z_⟩,q_,q_⟩ ?_
 intro j hj
 refine T ?_
 refine⟨fun h=>?_,fun h=>?_⟩
 ·have hlt:j<l.length:=qA h
  have hlt0:((j:Nat):Int).toNat<l.length:=hlt
  clear h
  have q1:=hf (l[((j:Nat):Int).toNat]'hlt0) (List.getElem_mem _)
  refine T ?_
  refine Iy q1 q_ q_ q_ (by simp only[hin (Aa (l[((j:Nat):Int).toNat]'hlt0)) q_];rfl) q_ q_ ?_
  refine T ?_
  refine X (Aj Γ.toTy 19 q_ q_ q_ q_ q_ (.row q_) (.lit (e:=Ae) (l:=[tx (l[((j:Nat):Int).toNat]'hlt0)]) q_ q_) qd (by simp;omega) (by simp;omega)) ?_
  refine Dl [(1000,19)] hlt ⟨⟨hr _,hc',q_,q_,q_,q_,q_,q_,q_,q_,z_⟩,⟨.inl (congrArg (Ob.row 1 Ae) ?_),q_,z_⟩,q_,q_⟩
  rw[List.take_succ_eq_append_getElem hlt,List.map_append]
  rfl
 ·have hje:j=l.length:=qB h
  subst hje
  clear h
  rw[List.take_length]
  refine T ?_
  refine Ai 1000 q_ ?_
  refine C q2 F117 ?_
  exact D
theorem Acd (tx:Int→ByteArray) (f:FuncId) (first cap:List SV) (hc:(SV.clo (.func f) first cap).inn []=true) (hr:∀ ρ:Nat→Nat,(SV.clo (.func f) first cap).ren ρ=.clo (.func f) first cap) (l:List Int) (hl:l.length≤100000) (hz:∀ x∈l,(tx x).size≤100) (hf:∀ x∈l,Hg Tryz.prog f (first++[A7 x]++cap) (Ae (tx x))) :
  Sy.Spec Tryz.prog 189 [.sl 1 A7 l,.clo (.func f) first cap] [] (Ae (Jo (l.map tx) comma)) []:=cT F189 Tryz.ntmps189 fun F hF=>by
 have hc':(SV.clo (.func f) first cap).inn [1000]=true:=Hv _ hc
 have hin:∀ y:SV,y.inn []=true→Bn [] (first++[y]++cap)=true:=fun y hy=>by
  simp only[SV.inn,Bool.and_eq_true]at hc
  rw[C5,C5,hc.1,hc.2]
  simp[Bn,hy]
 have hs:Li (l.map tx)≤100 * l.length:=Mx l hz
 have q2:=Xn (l.map tx) comma (by simp;omega) j_ (by rw[List.length_map];show 1 * l.length≤_;omega)
 refine T ?_
 refine C0 5 1000 1 Ae q_ q_ ?_
 refine T ?_
 refine Dj l.length (fun j=>[(1,.clo (.func f) first cap),(5,.osl 1000),(8,.sl 1 A7 l),(9,Aa l.length),(10,Aa j)]) (fun j=>[(1000,.row 1 Ae ((l.take j).map tx))]) [] ⟨⟨Ay _,hc',q_,q_,q_,q_,q_,q_,q_,q_,z_⟩,⟨.inl q_,q_,z_⟩,q_,q_⟩ ?_
 intro j hj
 refine T ?_
 refine⟨fun h=>?_,fun h=>?_⟩
 ·have hlt:j<l.length:=qA h
  have hlt0:((j:Nat):Int).toNat<l.length:=hlt
  clear h
  have q1:=hf (l[((j:Nat):Int).toNat]'hlt0) (List.getElem_mem _)
  refine T ?_
  refine Iy q1 q_ q_ q_ (by simp only[hin (A7 (l[((j:Nat):Int).toNat]'hlt0)) q_];rfl) q_ q_ ?_
  refine T ?_
  refine X (Aj Γ.toTy 19 q_ q_ q_ q_ q_ (.row q_) (.lit (e:=Ae) (l:=[tx (l[((j:Nat):Int).toNat]'hlt0)]) q_ q_) qd (by simp;omega) (by simp;omega)) ?_
  refine Dl [(1000,19)] hlt ⟨⟨hr _,hc',q_,q_,q_,q_,q_,q_,q_,q_,z_⟩,⟨.inl (congrArg (Ob.row 1 Ae) ?_),q_,z_⟩,q_,q_⟩
  rw[List.take_succ_eq_append_getElem hlt,List.map_append]
  rfl
 ·have hje:j=l.length:=qB h
  subst hje
  clear h
  rw[List.take_length]
  refine T ?_
  refine Ai 1000 q_ ?_
  refine C q2 F117 ?_
  exact D
theorem Alw (l:List Int) (hl:l.length≤100000) (hw:∀ x∈l,Ei x):Sy.Spec Tryz.prog 190 [.sl 1 Aa l] [] (Ae (Yi l)) []:=cT F190 Tryz.ntmps190 fun F hF=>by
 have q:=Ace Ci 109 [] [] rfl (fun _=>rfl) l hl (fun x hx=>by have:=Jk (hw x hx);omega) (fun x hx=>⟨⟨_,_,F109⟩,Bu x (hw x hx)⟩)
 rw[Yi]
 generalize Jo (l.map Ci) comma=r at *
 refine T ?_
 refine C q F242 ?_
 exact D
theorem Jz (a:Int):(Hn a).size≤100:=by
 have:=Mk a.toNat 4
 rw[Hn,Dg];omega
theorem Ai9 (l:List Int) (hl:l.length≤100000) (hw:∀ x∈l,0≤x∧x<4294967296):Sy.Spec Tryz.prog 114 [.sl 1 A7 l] [] (Ae (Mj l)) []:=cT F114 Tryz.ntmps114 fun F hF=>by
 have q:=Acd Hn 113 [] [] rfl (fun _=>rfl) l hl (fun x hx=>Jz x) (fun x hx=>⟨⟨_,_,F113⟩,by
  obtain ⟨m,hm1⟩:∃ m:Nat,x=m:=⟨x.toNat,by have:=hw x hx;omega⟩
  have:=hw x hx
  rw[hm1];exact Vn m j_⟩)
 rw[Mj]
 generalize Jo (l.map Hn) comma=r at *
 refine T ?_
 refine C q F189 ?_
 exact D
theorem Si (l:List Int) (hl:l.length≤100000) (hw:∀ x∈l,Ei x):Sy.Spec Tryz.prog 115 [.sl 1 Aa l] [] (Ae (H1 l)) []:=cT F115 Tryz.ntmps115 fun F hF=>by
 have q:=Alw l hl hw
 rw[H1]
 by_cases h0:l.length=0
 ·rw[if_pos (List.eq_nil_of_length_eq_zero h0)]
  have f0:((l.length:Int) == 0)=true:=by rw[h0];rfl
  refine T ?_
  exact D
 ·rw[if_neg (fun e=>h0 (by rw[e];rfl))]
  have f0:((l.length:Int) == 0)=false:=by rw[beq_eq_false_iff_ne];omega
  refine T ?_
  refine C q F190 ?_
  exact D
theorem El (svs:List SV):Sy.Spec Tryz.prog 110 [.osl 0] [(0,.lit 1 svs)] (.osl 0) [(0,.lit 1 svs)]:=cT F110 Tryz.ntmps110 fun F hF=>by
 refine T ?_
 exact done q_ (.cons .tmp .nil) [] [(0,.lit 1 svs)] (fun _ h=>h) q_ q_ ⟨z_,⟨.inl q_,q_,z_⟩,q_,q_⟩
theorem Aej (a:Nat) (b:Int) (ha:a<4294967296) (hb:0≤b∧b≤32):Sy.Spec Tryz.prog 116 [Ij a b] [] (Ae (Jh a b)) []:=cT F116 Tryz.ntmps116 fun F hF=>by
 have q1:=S3 (a:Int) b
 rw[decide_eq_true hb]at q1
 have q2:=Vn a ha
 have hsz:=Jz (a:Int)
 rw[Jh,if_pos hb]
 generalize Hn (a:Int)=t at *
 have q3:=Zj b.toNat (t++(⟨#[47]⟩:ByteArray)).data.toList j_ (by
  have h1:=Dx 2 b.toNat j_
  have h2:(t++(⟨#[47]⟩:ByteArray)).data.toList.length=t.size+1:=by
   rw[show (t++(⟨#[47]⟩:ByteArray)).data.toList=t.data.toList++[47] from by simp]
   simp
  omega)
 rw[Int.toNat_of_nonneg hb.1]at q3
 have he:t.data.toList++[47]++(revDigs b.toNat).reverse=(t++(⟨#[47]⟩:ByteArray)).data.toList++(revDigs b.toNat).reverse:=by
  rw[show (t++(⟨#[47]⟩:ByteArray)).data.toList=t.data.toList++[47] from by simp]
 rw[he]
 refine T ?_
 refine C q1 F183 ?_
 refine C q2 F113 ?_
 refine Xd (T6 Γ.toTy (d:=10) q_ q_ q_ q_ q_ q_ q_ q_ q_) ?_
 refine Xd (Ac [(0,10),(1,900)] q_ F188 q3 q_ W q_ V) ?_
 refine Xd (Ee Γ.toTy (bs:=(t++(⟨#[47]⟩:ByteArray)).data.toList++(revDigs b.toNat).reverse) q_ q_ q_ q_ q_ q_ q_ (.row q_)) ?_
 exact D
structure LineX (l:LineM):Prop where
 w:LineW l
 vlan:Ei l.vlan
 num:Ei l.num
 cost:Ei l.cost
 tagged:∀ x∈l.tagged,Ei x
 imports:∀ x∈l.imports,Ei x
 exports:∀ x∈l.exports,Ei x
theorem Ahz (l:LineM) (h:LineX l):Sy.Spec Tryz.prog 112 [Ad l] [] (.sl 1 Ae (Sh l)) []:=cT F112 Tryz.ntmps112 fun F hF=>by
 have q1:=Bu l.vlan h.vlan
 have q2:=Bu l.cost h.cost
 have q3:=Si l.tagged h.w.fin.t h.tagged
 have q4:=El [Ae ⟨#[112,111,114,116]⟩,Ae l.dev,Ae l.port,Ae (Ci l.cost)]
 rw[Sh]
 by_cases h0:l.tagged.length=0
 ·have f0:((l.tagged.length:Int) == 0)=true:=by rw[h0];rfl
  rw[if_pos (List.eq_nil_of_length_eq_zero h0)]
  have q5:=El [Ae accessT,Ae (Ci l.vlan)]
  refine T ?_
  refine C q1 F109 ?_
  refine C q2 F109 ?_
  refine Xe (Ac [(0,15)] q_ F110 q4 q_ W q_ V) ?_
  refine X (Ac [(0,24)] q_ F110 q5 q_ W q_ V) ?_
  refine X (Aj Γ.toTy 26 q_ q_ q_ q_ q_ (.lit (e:=Ae) (l:=[⟨#[112,111,114,116]⟩,l.dev,l.port,Ci l.cost]) q_ q_) (.lit (e:=Ae) (l:=[accessT,Ci l.vlan]) q_ q_) qd qe qe) ?_
  refine Ai 26 q_ ?_
  refine T ?_
  exact D
 ·have f0:((l.tagged.length:Int) == 0)=false:=by rw[beq_eq_false_iff_ne];omega
  rw[if_neg (fun e=>h0 (by rw[e];rfl))]
  by_cases hv:l.vlan=0
  ·have f1:(l.vlan == 0)=true:=beq_iff_eq.2 hv
   rw[if_pos hv]
   have q5:=El [Ae trunkT,Ae dash,Ae (H1 l.tagged)]
   refine T ?_
   refine C q1 F109 ?_
   refine C q2 F109 ?_
   refine Xe (Ac [(0,15)] q_ F110 q4 q_ W q_ V) ?_
   refine C q3 F115 ?_
   refine X (Ac [(0,36)] q_ F110 q5 q_ W q_ V) ?_
   refine X (Aj Γ.toTy 38 q_ q_ q_ q_ q_ (.lit (e:=Ae) (l:=[⟨#[112,111,114,116]⟩,l.dev,l.port,Ci l.cost]) q_ q_) (.lit (e:=Ae) (l:=[trunkT,dash,H1 l.tagged]) q_ q_) qd qe qe) ?_
   refine Ai 38 q_ ?_
   refine T ?_
   exact D
  ·have f1:(l.vlan == 0)=false:=beq_eq_false_iff_ne.2 hv
   rw[if_neg hv]
   have q5:=El [Ae trunkT,Ae (Ci l.vlan),Ae (H1 l.tagged)]
   refine T ?_
   refine C q1 F109 ?_
   refine C q2 F109 ?_
   refine Xe (Ac [(0,15)] q_ F110 q4 q_ W q_ V) ?_
   refine C q3 F115 ?_
   refine X (Ac [(0,36)] q_ F110 q5 q_ W q_ V) ?_
   refine X (Aj Γ.toTy 38 q_ q_ q_ q_ q_ (.lit (e:=Ae) (l:=[⟨#[112,111,114,116]⟩,l.dev,l.port,Ci l.cost]) q_ q_) (.lit (e:=Ae) (l:=[trunkT,Ci l.vlan,H1 l.tagged]) q_ q_) qd qe qe) ?_
   refine Ai 38 q_ ?_
   refine T ?_
   exact D
theorem Ab4 (l:LineM) (h:LineX l) (hr:Ao l=true) (hk:l.kind=1):Sy.Spec Tryz.prog 66 [Ad l] [] (.sl 1 Ae (Bv l)) []:=cT F66 Tryz.ntmps66 fun F hF=>by
 have q0:=B8 l h.w
 have qv:=Bu l.vlan h.vlan
 have qn:=Bu l.num h.num
 have qa:Sy.Spec Tryz.prog 111 [Dp l.mac] [] (Ae (Od l.mac)) []:=by
  have:=h.w.ok.mac
  obtain ⟨m,hm1⟩:∃ m:Nat,l.mac=m:=⟨l.mac.toNat,by omega⟩
  rw[hm1];exact Ae9 m j_
 have hwo:Bv l=[(⟨#[100,101,118,105,99,101]⟩:ByteArray),l.dev,Ci l.num,Od l.mac]:=by
  simp only[Bv,hk]
  rfl
 rw[hwo]
 rw[hr]at q0
 have f1:(l.kind == 1)=true:=by rw[hk];rfl
 generalize Ci l.vlan=vv at *
 generalize Ci l.num=nn at *
 generalize Od l.mac=mm at *
 have qo:=El [Ae (⟨#[100,101,118,105,99,101]⟩:ByteArray),Ae l.dev,Ae nn,Ae mm]
 refine T ?_
 refine C q0 F108 ?_
 refine C qv F109 ?_
 refine C qn F109 ?_
 refine C qa F111 ?_
 refine Xe (Ac [(0,24)] q_ F110 qo q_ W q_ V) ?_
 refine Lh 24 Ae [(⟨#[100,101,118,105,99,101]⟩:ByteArray),l.dev,nn,mm] q_ q_ ?_
 refine Ai 24 q_ ?_
 refine T ?_
 exact D
theorem Ab2 (l:LineM) (h:LineX l) (hr:Ao l=true) (hk:l.kind=3):Sy.Spec Tryz.prog 66 [Ad l] [] (.sl 1 Ae (Bv l)) []:=cT F66 Tryz.ntmps66 fun F hF=>by
 have q0:=B8 l h.w
 have qv:=Bu l.vlan h.vlan
 have qn:=Bu l.num h.num
 have hwo:Bv l=[(⟨#[108,105,110,107]⟩:ByteArray),l.dev,l.port,l.peer,l.far]:=by
  simp only[Bv,hk]
  rfl
 rw[hwo]
 rw[hr]at q0
 have f1:(l.kind == 1)=false:=by rw[hk];rfl
 have f2:(l.kind == 2)=false:=by rw[hk];rfl
 have f3:(l.kind == 3)=true:=by rw[hk];rfl
 generalize Ci l.vlan=vv at *
 generalize Ci l.num=nn at *
 have qo:=El [Ae (⟨#[108,105,110,107]⟩:ByteArray),Ae l.dev,Ae l.port,Ae l.peer,Ae l.far]
 refine T ?_
 refine C q0 F108 ?_
 refine C qv F109 ?_
 refine C qn F109 ?_
 refine X (Ac [(0,40)] q_ F110 qo q_ W q_ V) ?_
 refine Lh 40 Ae [(⟨#[108,105,110,107]⟩:ByteArray),l.dev,l.port,l.peer,l.far] q_ q_ ?_
 refine Ai 40 q_ ?_
 refine T ?_
 exact D
theorem Ab1 (l:LineM) (h:LineX l) (hr:Ao l=true) (hk:l.kind=4):Sy.Spec Tryz.prog 66 [Ad l] [] (.sl 1 Ae (Bv l)) []:=cT F66 Tryz.ntmps66 fun F hF=>by
 have q0:=B8 l h.w
 have qv:=Bu l.vlan h.vlan
 have qn:=Bu l.num h.num
 have qa:Sy.Spec Tryz.prog 111 [Dp l.mac] [] (Ae (Od l.mac)) []:=by
  have:=h.w.ok.mac
  obtain ⟨m,hm1⟩:∃ m:Nat,l.mac=m:=⟨l.mac.toNat,by omega⟩
  rw[hm1];exact Ae9 m j_
 have hwo:Bv l=[(⟨#[115,116,97,116,105,99]⟩:ByteArray),l.dev,Ci l.vlan,Od l.mac,l.port]:=by
  simp only[Bv,hk]
  rfl
 rw[hwo]
 rw[hr]at q0
 have f1:(l.kind == 1)=false:=by rw[hk];rfl
 have f2:(l.kind == 2)=false:=by rw[hk];rfl
 have f3:(l.kind == 3)=false:=by rw[hk];rfl
 have f4:(l.kind == 4)=true:=by rw[hk];rfl
 generalize Ci l.vlan=vv at *
 generalize Ci l.num=nn at *
 generalize Od l.mac=mm at *
 have qo:=El [Ae (⟨#[115,116,97,116,105,99]⟩:ByteArray),Ae l.dev,Ae vv,Ae mm,Ae l.port]
 refine T ?_
 refine C q0 F108 ?_
 refine C qv F109 ?_
 refine C qn F109 ?_
 refine C qa F111 ?_
 refine Xe (Ac [(0,52)] q_ F110 qo q_ W q_ V) ?_
 refine Lh 52 Ae [(⟨#[115,116,97,116,105,99]⟩:ByteArray),l.dev,vv,mm,l.port] q_ q_ ?_
 refine Ai 52 q_ ?_
 refine T ?_
 exact D
theorem Ab0 (l:LineM) (h:LineX l) (hr:Ao l=true) (hk:l.kind=5):Sy.Spec Tryz.prog 66 [Ad l] [] (.sl 1 Ae (Bv l)) []:=cT F66 Tryz.ntmps66 fun F hF=>by
 have q0:=B8 l h.w
 have qv:=Bu l.vlan h.vlan
 have qn:=Bu l.num h.num
 have qa:Sy.Spec Tryz.prog 113 [A7 l.addr] [] (Ae (Hn l.addr)) []:=by
  have:=h.w.ok.addr
  obtain ⟨m,hm1⟩:∃ m:Nat,l.addr=m:=⟨l.addr.toNat,by omega⟩
  rw[hm1];exact Vn m j_
 have hwo:Bv l=[(⟨#[118,116,101,112]⟩:ByteArray),l.dev,Hn l.addr]:=by
  simp only[Bv,hk]
  rfl
 rw[hwo]
 rw[hr]at q0
 have f1:(l.kind == 1)=false:=by rw[hk];rfl
 have f2:(l.kind == 2)=false:=by rw[hk];rfl
 have f3:(l.kind == 3)=false:=by rw[hk];rfl
 have f4:(l.kind == 4)=false:=by rw[hk];rfl
 have f5:(l.kind == 5)=true:=by rw[hk];rfl
 generalize Ci l.vlan=vv at *
 generalize Ci l.num=nn at *
 generalize Hn l.addr=aa at *
 have qo:=El [Ae (⟨#[118,116,101,112]⟩:ByteArray),Ae l.dev,Ae aa]
 refine T ?_
 refine C q0 F108 ?_
 refine C qv F109 ?_
 refine C qn F109 ?_
 refine C qa F113 ?_
 refine Xe (Ac [(0,61)] q_ F110 qo q_ W q_ V) ?_
 refine Lh 61 Ae [(⟨#[118,116,101,112]⟩:ByteArray),l.dev,aa] q_ q_ ?_
 refine Ai 61 q_ ?_
 refine T ?_
 exact D
theorem Abz (l:LineM) (h:LineX l) (hr:Ao l=true) (hk:l.kind=6):Sy.Spec Tryz.prog 66 [Ad l] [] (.sl 1 Ae (Bv l)) []:=cT F66 Tryz.ntmps66 fun F hF=>by
 have q0:=B8 l h.w
 have qv:=Bu l.vlan h.vlan
 have qn:=Bu l.num h.num
 have hwo:Bv l=[(⟨#[118,110,105]⟩:ByteArray),l.dev,Ci l.vlan,Ci l.num]:=by
  simp only[Bv,hk]
  rfl
 rw[hwo]
 rw[hr]at q0
 have f1:(l.kind == 1)=false:=by rw[hk];rfl
 have f2:(l.kind == 2)=false:=by rw[hk];rfl
 have f3:(l.kind == 3)=false:=by rw[hk];rfl
 have f4:(l.kind == 4)=false:=by rw[hk];rfl
 have f5:(l.kind == 5)=false:=by rw[hk];rfl
 have f6:(l.kind == 6)=true:=by rw[hk];rfl
 generalize Ci l.vlan=vv at *
 generalize Ci l.num=nn at *
 have qo:=El [Ae (⟨#[118,110,105]⟩:ByteArray),Ae l.dev,Ae vv,Ae nn]
 refine T ?_
 refine C q0 F108 ?_
 refine C qv F109 ?_
 refine C qn F109 ?_
 refine X (Ac [(0,69)] q_ F110 qo q_ W q_ V) ?_
 refine Lh 69 Ae [(⟨#[118,110,105]⟩:ByteArray),l.dev,vv,nn] q_ q_ ?_
 refine Ai 69 q_ ?_
 refine T ?_
 exact D
theorem Aby (l:LineM) (h:LineX l) (hr:Ao l=true) (hk:l.kind=7):Sy.Spec Tryz.prog 66 [Ad l] [] (.sl 1 Ae (Bv l)) []:=cT F66 Tryz.ntmps66 fun F hF=>by
 have q0:=B8 l h.w
 have qv:=Bu l.vlan h.vlan
 have qn:=Bu l.num h.num
 have qa:=Ai9 l.addrs h.w.fin.a h.w.ok.addrs
 have hwo:Bv l=[(⟨#[102,108,111,111,100]⟩:ByteArray),l.dev,Ci l.num,Mj l.addrs]:=by
  simp only[Bv,hk]
  rfl
 rw[hwo]
 rw[hr]at q0
 have f1:(l.kind == 1)=false:=by rw[hk];rfl
 have f2:(l.kind == 2)=false:=by rw[hk];rfl
 have f3:(l.kind == 3)=false:=by rw[hk];rfl
 have f4:(l.kind == 4)=false:=by rw[hk];rfl
 have f5:(l.kind == 5)=false:=by rw[hk];rfl
 have f6:(l.kind == 6)=false:=by rw[hk];rfl
 have f7:(l.kind == 7)=true:=by rw[hk];rfl
 generalize Ci l.vlan=vv at *
 generalize Ci l.num=nn at *
 generalize Mj l.addrs=ad at *
 have qo:=El [Ae (⟨#[102,108,111,111,100]⟩:ByteArray),Ae l.dev,Ae nn,Ae ad]
 refine T ?_
 refine C q0 F108 ?_
 refine C qv F109 ?_
 refine C qn F109 ?_
 refine C qa F114 ?_
 refine Xe (Ac [(0,79)] q_ F110 qo q_ W q_ V) ?_
 refine Lh 79 Ae [(⟨#[102,108,111,111,100]⟩:ByteArray),l.dev,nn,ad] q_ q_ ?_
 refine Ai 79 q_ ?_
 refine T ?_
 exact D
theorem Abx (l:LineM) (h:LineX l) (hr:Ao l=true) (hk:l.kind=8):Sy.Spec Tryz.prog 66 [Ad l] [] (.sl 1 Ae (Bv l)) []:=cT F66 Tryz.ntmps66 fun F hF=>by
 have q0:=B8 l h.w
 have qv:=Bu l.vlan h.vlan
 have qn:=Bu l.num h.num
 have qa:=Si l.imports h.w.fin.i h.imports
 have qb:=Si l.exports h.w.fin.e h.exports
 have hwo:Bv l=[(⟨#[118,114,102]⟩:ByteArray),l.dev,l.name,H1 l.imports,H1 l.exports]:=by
  simp only[Bv,hk]
  rfl
 rw[hwo]
 rw[hr]at q0
 have f1:(l.kind == 1)=false:=by rw[hk];rfl
 have f2:(l.kind == 2)=false:=by rw[hk];rfl
 have f3:(l.kind == 3)=false:=by rw[hk];rfl
 have f4:(l.kind == 4)=false:=by rw[hk];rfl
 have f5:(l.kind == 5)=false:=by rw[hk];rfl
 have f6:(l.kind == 6)=false:=by rw[hk];rfl
 have f7:(l.kind == 7)=false:=by rw[hk];rfl
 have f8:(l.kind == 8)=true:=by rw[hk];rfl
 generalize Ci l.vlan=vv at *
 generalize Ci l.num=nn at *
 generalize H1 l.imports=si at *
 generalize H1 l.exports=se at *
 have qo:=El [Ae (⟨#[118,114,102]⟩:ByteArray),Ae l.dev,Ae l.name,Ae si,Ae se]
 refine T ?_
 refine C q0 F108 ?_
 refine C qv F109 ?_
 refine C qn F109 ?_
 refine C qa F115 ?_
 refine C qb F115 ?_
 refine Xe (Ac [(0,93)] q_ F110 qo q_ W q_ V) ?_
 refine Lh 93 Ae [(⟨#[118,114,102]⟩:ByteArray),l.dev,l.name,si,se] q_ q_ ?_
 refine Ai 93 q_ ?_
 refine T ?_
 exact D
theorem Abw (l:LineM) (h:LineX l) (hr:Ao l=true) (hk:l.kind=9):Sy.Spec Tryz.prog 66 [Ad l] [] (.sl 1 Ae (Bv l)) []:=cT F66 Tryz.ntmps66 fun F hF=>by
 have q0:=B8 l h.w
 have qv:=Bu l.vlan h.vlan
 have qn:=Bu l.num h.num
 have hb9:1≤l.bits∧l.bits≤30:=by
  rw[Ao,Bool.and_eq_true]at hr
  have hu:=hr.1
  have n1:∀ k:Int,k≠9→¬ l.kind=k:=fun k hk2 e=>hk2 (by rw[← e,hk])
  simp only[A0,if_neg (n1 1 qd),if_neg (n1 2 qd),if_neg (n1 3 qd),if_neg (n1 4 qd),if_neg (n1 5 qd),if_neg (n1 6 qd),if_neg (n1 7 qd),if_neg (n1 8 qd),if_pos hk,Bool.and_eq_true]at hu
  exact Mv hu.2.2
 have qa:Sy.Spec Tryz.prog 116 [Ij l.addr l.bits] [] (Ae (Jh l.addr l.bits)) []:=by
  have:=h.w.ok.addr
  obtain ⟨m,hm1⟩:∃ m:Nat,l.addr=m:=⟨l.addr.toNat,by omega⟩
  rw[hm1];exact Aej m l.bits j_ j_
 have hwo:Bv l=[(⟨#[105,114,98]⟩:ByteArray),l.dev,Ci l.vlan,l.name,Jh l.addr l.bits]:=by
  simp only[Bv,hk]
  rfl
 rw[hwo]
 rw[hr]at q0
 have f1:(l.kind == 1)=false:=by rw[hk];rfl
 have f2:(l.kind == 2)=false:=by rw[hk];rfl
 have f3:(l.kind == 3)=false:=by rw[hk];rfl
 have f4:(l.kind == 4)=false:=by rw[hk];rfl
 have f5:(l.kind == 5)=false:=by rw[hk];rfl
 have f6:(l.kind == 6)=false:=by rw[hk];rfl
 have f7:(l.kind == 7)=false:=by rw[hk];rfl
 have f8:(l.kind == 8)=false:=by rw[hk];rfl
 have f9:(l.kind == 9)=true:=by rw[hk];rfl
 generalize Ci l.vlan=vv at *
 generalize Ci l.num=nn at *
 generalize Jh l.addr l.bits=pp at *
 have qo:=El [Ae (⟨#[105,114,98]⟩:ByteArray),Ae l.dev,Ae vv,Ae l.name,Ae pp]
 refine T ?_
 refine C q0 F108 ?_
 refine C qv F109 ?_
 refine C qn F109 ?_
 refine C qa F116 ?_
 refine Xe (Ac [(0,106)] q_ F110 qo q_ W q_ V) ?_
 refine Lh 106 Ae [(⟨#[105,114,98]⟩:ByteArray),l.dev,vv,l.name,pp] q_ q_ ?_
 refine Ai 106 q_ ?_
 refine T ?_
 exact D
theorem Ab3 (l:LineM) (h:LineX l) (hr:Ao l=true) (hk:l.kind=2):Sy.Spec Tryz.prog 66 [Ad l] [] (.sl 1 Ae (Bv l)) []:=cT F66 Tryz.ntmps66 fun F hF=>by
 have q0:=B8 l h.w
 have qv:=Bu l.vlan h.vlan
 have qn:=Bu l.num h.num
 have qp:=Ahz l h
 have hwo:Bv l=Sh l:=by
  simp only[Bv,hk]
  rfl
 rw[hwo]
 rw[hr]at q0
 have f1:(l.kind == 1)=false:=by rw[hk];rfl
 have f2:(l.kind == 2)=true:=by rw[hk];rfl
 generalize Sh l=ws at *
 refine T ?_
 refine C q0 F108 ?_
 refine C qv F109 ?_
 refine C qn F109 ?_
 refine C qp F112 ?_
 exact D
theorem Xt {l:LineM} (hr:Ao l=true):1≤l.kind∧l.kind≤9:=by
 rw[Ao,Bool.and_eq_true]at hr
 have hu:=hr.1
 refine Classical.byContradiction fun hk=>?_
 have n1:¬ l.kind=1:=by omega
 have n2:¬ l.kind=2:=by omega
 have n3:¬ l.kind=3:=by omega
 have n4:¬ l.kind=4:=by omega
 have n5:¬ l.kind=5:=by omega
 have n6:¬ l.kind=6:=by omega
 have n7:¬ l.kind=7:=by omega
 have n8:¬ l.kind=8:=by omega
 have n9:¬ l.kind=9:=by omega
 simp only[A0,if_neg n1,if_neg n2,if_neg n3,if_neg n4,if_neg n5,if_neg n6,if_neg n7,if_neg n8,if_neg n9]at hu
 cases hu
def Eb (l:LineM):List ByteArray:=if Ao l=true then Bv l else []
theorem Aek (l:LineM) (h:LineX l):Sy.Spec Tryz.prog 66 [Ad l] [] (.sl 1 Ae (Eb l)) []:=by
 cases hr:Ao l with
 | true =>
  rw[Eb,if_pos hr]
  have hk:=Xt hr
  rcases (by omega:l.kind=1∨l.kind=2∨l.kind=3∨l.kind=4∨l.kind=5∨l.kind=6∨l.kind=7∨l.kind=8∨l.kind=9) with h9 | h9 | h9 | h9 | h9 | h9 | h9 | h9 | h9
  ·exact Ab4 l h hr h9
  ·exact Ab3 l h hr h9
  ·exact Ab2 l h hr h9
  ·exact Ab1 l h hr h9
  ·exact Ab0 l h hr h9
  ·exact Abz l h hr h9
  ·exact Aby l h hr h9
  ·exact Abx l h hr h9
  ·exact Abw l h hr h9
 | false =>
  rw[Eb,if_neg (by rw[hr];simp)]
  have q0:=B8 l h.w
  rw[hr]at q0
  refine Lo Γ hm 100 F66 Tryz.ntmps66 q_ fun F hF=>by
   refine T ?_
   refine C q0 F108 ?_
   refine Db 2 1 Ae q_ ?_
   refine T ?_
   exact D
def Ju (e:Int) (l:List (Bool × Int)):Int:=l.foldl (fun e x=>Ak e x.1 x.2) e
theorem We:∀ (l:List (Bool × Int)) (e:Int),(∀ x∈l,x.2≠0)→Ju e l=if e=0 then Bc l else e
 | [],e,_=>by
  show e=_
  split
  ·rename_i h;rw[h];rfl
  ·rfl
 | (b,c)::l,e,h=>by
  have hc:=h (b,c) qe
  have ih:=We l (Ak e b c) (fun x hx=>h x (by simp[hx]))
  show Ju (Ak e b c) l=_
  rw[ih,Bc]
  dsimp only at hc
  by_cases he:e=0
  ·subst he
   cases b with
   | true=>simp[Ak,hc]
   | false=>simp[Ak]
  ·have:Ak e b c=e:=by rw[Ak,if_neg (fun x=>he x.2)]
   rw[this,if_neg he,if_neg he]
theorem Cz (l:List (Bool × Int)) (h:∀ x∈l,x.2≠0):Bc l=Ju 0 l:=by rw[We l 0 h,if_pos rfl]
theorem Qb (e:Int) (a b:List (Bool × Int)):Ju e (a++b)=Ju (Ju e a) b:=List.foldl_append
abbrev rlO (w:List ByteArray) (i:Nat) (e:Int) (l:LineM):Obs:=[(0,.box [.sl 1 Ae w,Aa i,Aa e]),(1,.box (Br l))]
def Anq (w:List ByteArray):Nat:=if wdT w 4=accessT then 6 else if wdT w 4=trunkT then 7 else 5
theorem V8 (most:Int) (s:ByteArray):(listR most s).1.length≤16:=by
 rw[listR]
 split
 ·simp
 ·rw[Hi]
  cases h:Hb (fun p=>numR p 1 most) [] (B9 44 s) with
  | mk l b =>
   cases b with
   | true=>exact(Yq _ _ _ _ h List.Pairwise.nil qd).2.1
   | false =>
    have:∀ (ps:List ByteArray) (out r:List Int),Hb (fun p=>numR p 1 most) out ps=(r,false)→r=[]:=by
     intro ps
     induction ps with
     | nil=>intro out r h;rw[Hb]at h;simp at h
     | cons p ps ih =>
      intro out r h
      rw[Hb]at h
      split at h
      ·simp at h;exact h
      ·exact ih _ _ h
    rw[this _ _ _ h];simp
set_option maxRecDepth 100000 in
theorem Aqc (w:List ByteArray) (e:Int) (l:LineM) (hw:w.length≤1000000) (hs:∀ s∈w,s.size≤40) (h4:4<w.length) (ha:wdT w 4=accessT→5<w.length) (htr:wdT w 4=trunkT→6<w.length) (hl0:l.vlan=0∧l.tagged=[]) :
  Sy.Spec Tryz.prog 58 [.ptr 0 0,.ptr 1 0] (rlO w 4 e l) (.tup []) (rlO w (Anq w) (Ju e ((Ey w).2.2++[(!(membersB (Ey w).1 (Ey w).2.1),21)])) { l with vlan:=(Ey w).1,tagged:=(Ey w).2.1 }):=cT F58 Tryz.ntmps58 fun F hF=>by
 obtain ⟨row,kind,dev,port,peer,far,name,mac,addr,bits,vlan,num,cost,tagged,imports,exports,addrs⟩:=l
 obtain ⟨g1,g2⟩:=hl0
 dsimp only at g1 g2
 subst g1 g2
 have q0:Sy.Spec Tryz.prog 60 [.ptr 0 0] (rdO w 4 e) (Ae (wdT w 4)) (rdO w 5 e):=K4 w 4 e h4 hw
 rw[Anq,Ey,Qb]
 by_cases c1:wdT w 4=accessT
 ·have b1:(wdT w 4 == (⟨#[97,99,99,101,115,115]⟩:ByteArray))=true:=Eg c1
  have q1:=To w 5 e (ha c1) hw
  rw[if_pos c1,if_pos c1]
  have q2:=If ⟨row,kind,dev,port,peer,far,name,mac,addr,bits,(Cp (wdT w 5)).1,num,cost,[],imports,exports,addrs⟩ (by simp[Ax])
  dsimp only at q2 ⊢
  have hf1:Ju e [(!(Cp (wdT w 5)).2,21)]=Ak e (!(Cp (wdT w 5)).2) 21:=rfl
  rw[hf1]
  have q3:=fun b=>Hu w 6 (Ak e (!(Cp (wdT w 5)).2) 21) b 21
  generalize Ak e (!(Cp (wdT w 5)).2) 21=e1 at *
  generalize (Cp (wdT w 5)).1=v at *
  have hf2:Ju e1 [(!(membersB v []),21)]=Ak e1 (!(membersB v [])) 21:=rfl
  rw[hf2]
  have q3:=q3 (!(membersB v []))
  generalize Ak e1 (!(membersB v [])) 21=e2 at *
  generalize membersB v []=mb at *
  refine T ?_
  refine X (Ac [] q_ F60 q0 q_ W q_ V) ?_
  refine X (Ac [] q_ F54 q1 q_ W q_ V) ?_
  refine C q2 F101 ?_
  refine X (Ac [] q_ F57 q3 q_ W q_ V) ?_
  exact B0 q_ .nil [] (rlO w 6 e2 ⟨row,kind,dev,port,peer,far,name,mac,addr,bits,v,num,cost,[],imports,exports,addrs⟩) (fun _ h=>h) q_ q_ U
 ·have b1:(wdT w 4 == (⟨#[97,99,99,101,115,115]⟩:ByteArray))=false:=Hm c1
  rw[if_neg c1,if_neg c1]
  by_cases c2:wdT w 4=trunkT
  ·have b2:(wdT w 4 == (⟨#[116,114,117,110,107]⟩:ByteArray))=true:=Eg c2
   have h6:=htr c2
   have h5:((5:Nat):Int).toNat<w.length:=by show 5<w.length;omega
   have e5:w[((5:Nat):Int).toNat]'h5=wdT w 5:=(C8 j_).symm
   rw[if_pos c2,if_pos c2]
   by_cases c3:wdT w 5=dash
   ·have b3:(w[((5:Nat):Int).toNat]'h5 == (⟨#[45]⟩:ByteArray))=true:=Eg (by rw[e5];exact c3)
    rw[if_pos c3]
    have q1:=W7 w 6 e 4094 h6 hw hs
    have q2:=If ⟨row,kind,dev,port,peer,far,name,mac,addr,bits,0,num,cost,(listR 4094 (wdT w 6)).1,imports,exports,addrs⟩ (by have:=V8 4094 (wdT w 6);simp only[Ax];omega)
    dsimp only at q2 ⊢
    have hf1:Ju e [(!(listR 4094 (wdT w 6)).2,21)]=Ak e (!(listR 4094 (wdT w 6)).2) 21:=rfl
    rw[hf1]
    have q3:=fun b=>Hu w 7 (Ak e (!(listR 4094 (wdT w 6)).2) 21) b 21
    generalize Ak e (!(listR 4094 (wdT w 6)).2) 21=e1 at *
    generalize (listR 4094 (wdT w 6)).1=v at *
    have hf2:Ju e1 [(!(membersB 0 v),21)]=Ak e1 (!(membersB 0 v)) 21:=rfl
    rw[hf2]
    have q3:=q3 (!(membersB 0 v))
    generalize Ak e1 (!(membersB 0 v)) 21=e2 at *
    generalize membersB 0 v=mb at *
    refine T ?_
    refine X (Ac [] q_ F60 q0 q_ W q_ V) ?_
    refine X (Ac [] q_ F63 q1 q_ W q_ V) ?_
    refine C q2 F101 ?_
    refine X (Ac [] q_ F57 q3 q_ W q_ V) ?_
    exact B0 q_ .nil [] (rlO w 7 e2 ⟨row,kind,dev,port,peer,far,name,mac,addr,bits,0,num,cost,v,imports,exports,addrs⟩) (fun _ h=>h) q_ q_ U
   ·have b3:(w[((5:Nat):Int).toNat]'h5 == (⟨#[45]⟩:ByteArray))=false:=Hm (by rw[e5];exact c3)
    rw[if_neg c3]
    have q4:=To w 5 e j_ hw
    have hf1:Ju e [(!(Cp (wdT w 5)).2,21),(!(listR 4094 (wdT w 6)).2,21)]=Ak (Ak e (!(Cp (wdT w 5)).2) 21) (!(listR 4094 (wdT w 6)).2) 21:=rfl
    dsimp only
    rw[hf1]
    generalize Ak e (!(Cp (wdT w 5)).2) 21=e0 at *
    have q1:=W7 w 6 e0 4094 h6 hw hs
    have q2:=If ⟨row,kind,dev,port,peer,far,name,mac,addr,bits,(Cp (wdT w 5)).1,num,cost,(listR 4094 (wdT w 6)).1,imports,exports,addrs⟩ (by have:=V8 4094 (wdT w 6);simp only[Ax];omega)
    dsimp only at q2
    have q3:=fun b=>Hu w 7 (Ak e0 (!(listR 4094 (wdT w 6)).2) 21) b 21
    generalize Ak e0 (!(listR 4094 (wdT w 6)).2) 21=e1 at *
    generalize (listR 4094 (wdT w 6)).1=v at *
    generalize (Cp (wdT w 5)).1=u at *
    have hf2:Ju e1 [(!(membersB u v),21)]=Ak e1 (!(membersB u v)) 21:=rfl
    rw[hf2]
    have q3:=q3 (!(membersB u v))
    generalize Ak e1 (!(membersB u v)) 21=e2 at *
    generalize membersB u v=mb at *
    refine T ?_
    refine X (Ac [] q_ F60 q0 q_ W q_ V) ?_
    refine X (Ac [] q_ F54 q4 q_ W q_ V) ?_
    refine X (Ac [] q_ F63 q1 q_ W q_ V) ?_
    refine C q2 F101 ?_
    refine X (Ac [] q_ F57 q3 q_ W q_ V) ?_
    exact B0 q_ .nil [] (rlO w 7 e2 ⟨row,kind,dev,port,peer,far,name,mac,addr,bits,u,num,cost,v,imports,exports,addrs⟩) (fun _ h=>h) q_ q_ U
  ·have b2:(wdT w 4 == (⟨#[116,114,117,110,107]⟩:ByteArray))=false:=Hm c2
   rw[if_neg c2,if_neg c2]
   have q2:=If ⟨row,kind,dev,port,peer,far,name,mac,addr,bits,0,num,cost,[],imports,exports,addrs⟩ (by simp[Ax])
   dsimp only at q2 ⊢
   have hf2:Ju (Ju e []) [(!(membersB 0 []),21)]=Ak e (!(membersB 0 [])) 21:=rfl
   rw[hf2]
   have q3:=Hu w 5 e (!(membersB 0 [])) 21
   generalize Ak e (!(membersB 0 [])) 21=e2 at *
   generalize membersB 0 []=mb at *
   refine T ?_
   refine X (Ac [] q_ F60 q0 q_ W q_ V) ?_
   refine C q2 F101 ?_
   refine X (Ac [] q_ F57 q3 q_ W q_ V) ?_
   exact B0 q_ .nil [] (rlO w 5 e2 ⟨row,kind,dev,port,peer,far,name,mac,addr,bits,0,num,cost,[],imports,exports,addrs⟩) (fun _ h=>h) q_ q_ U
theorem Wa (s:ByteArray):0≤kindL s∧kindL s≤9:=by
 rw[kindL]
 repeat' split
 all_goals decide
theorem Hr {k:Int} {w:List ByteArray} (h:manyB k w=true):(k=1∨k=6∨k=7→w.length=4)∧(k=3∨k=4∨k=8∨k=9→w.length=5)∧(k=5→w.length=3)∧(k=2→6≤w.length∧w.length≤7∧(wdT w 4=trunkT→w.length=7))∧k≠0:=by
 rw[manyB]at h
 by_cases h0:k=0
 ·rw[if_pos h0]at h;cases h
 rw[if_neg h0]at h
 by_cases h2:k=2
 ·rw[if_pos h2]at h
  by_cases h6:w.length<6
  ·rw[if_pos h6]at h;cases h
  rw[if_neg h6]at h
  refine⟨fun x=>by omega,fun x=>by omega,fun x=>by omega,fun _=>?_,h0⟩
  by_cases ca:wdT w 4=accessT
  ·rw[if_pos ca]at h
   have:=of_decide_eq_true h
   refine⟨by omega,by omega,fun x=>?_⟩
   rw[ca]at x
   exact absurd x Abc
  ·rw[if_neg ca]at h
   by_cases ctr:wdT w 4=trunkT
   ·rw[if_pos ctr]at h
    have:=of_decide_eq_true h
    exact⟨by omega,by omega,fun _=>this⟩
   ·rw[if_neg ctr]at h
    have:=of_decide_eq_true h
    exact⟨by omega,by omega,fun x=>absurd x ctr⟩
 rw[if_neg h2]at h
 by_cases h3:k=3∨k=4∨k=8∨k=9
 ·rw[if_pos h3]at h
  have:=of_decide_eq_true h
  exact⟨fun x=>by omega,fun _=>this,fun x=>by omega,fun x=>by omega,h0⟩
 rw[if_neg h3]at h
 by_cases h5:k=5
 ·rw[if_pos h5]at h
  have:=of_decide_eq_true h
  exact⟨fun x=>by omega,fun x=>by omega,fun _=>this,fun x=>by omega,h0⟩
 rw[if_neg h5]at h
 have:=of_decide_eq_true h
 exact⟨fun _=>this,fun x=>by omega,fun x=>by omega,fun x=>absurd x h2,h0⟩
theorem Ahd (w:List ByteArray) (row:Int) (hw:w.length≤1000000) (hs:∀ s∈w,s.size≤40) (hne:0<w.length) (hk:kindL (wdT w 0)=1) (hmy:manyB 1 w=true) :
  Sy.Spec Tryz.prog 33 [.sl 1 Ae w,Aa row] [] (.tup [Ad (B5 w row).1,Aa (B5 w row).2]) []:=cT F33 Tryz.ntmps33 fun F hF=>by
 have hn0:(0:Int).toNat<w.length:=hne
 have f0:((w.length:Int) == 0)=false:=by rw[beq_eq_false_iff_ne];omega
 have hx0:w[(0:Int).toNat]'hn0=wdT w 0:=(C8 hne).symm
 have qk:Sy.Spec Tryz.prog 52 [Ae (w[(0:Int).toNat]'hn0)] [] (Aa 1) []:=by
  have:=Ep (wdT w 0)
  rw[hk]at this
  rw[hx0];exact this
 have qm:=Eo 1 qd w hw
 rw[hmy]at qm
 have hml:=Hr hmy
 have hsT:B5 w row=if Bc (Bl w row).2≠0 then (lineZ,Bc (Bl w row).2) else ((Bl w row).1,0):=by
  rw[B5,if_neg]
  rintro (hh | hh)
  ·rw[hh]at hne;simp at hne
  ·rw[hk,hmy]at hh;cases hh
 have hfe:=Cz _ (Dq w row)
 have hl:w.length=4:=hml.1 qd
 have q1:=D1 w 1 (0:Int) j_ hw hs
 obtain ⟨e1,he1⟩:∃ e,Ak (0:Int) (!(Az (wdT w 1))) 20=e:=⟨_,rfl⟩
 rw[he1]at q1
 have q2:=O6 w 2 e1 0 65535 j_ hw
 obtain ⟨e2,he2⟩:∃ e,Ak e1 (!(numR (wdT w 2) 0 65535).2) 21=e:=⟨_,rfl⟩
 rw[he2]at q2
 have q3:=Anl w 3 e2 j_ hw hs
 obtain ⟨e3,he3⟩:∃ e,Ak e2 (macE (wdT w 3)) 21=e:=⟨_,rfl⟩
 rw[he3]at q3
 have hR:Bl w row=({ lineZ with row:=row,kind:=1,dev:=wdT w 1,num:=(numR (wdT w 2) 0 65535).1,mac:=(macR (wdT w 3)).1 },[((!(Az (wdT w 1))),20),((!(numR (wdT w 2) 0 65535).2),21),((macE (wdT w 3)),21)]):=by
  unfold Bl
  simp only[hk]
  rfl
 rw[hR]at hsT hfe
 have hfe:Bc _=e3:=hfe.trans (by
  show Ak (Ak (Ak ((0:Int)) (!(Az (wdT w 1))) 20) (!(numR (wdT w 2) 0 65535).2) 21) (macE (wdT w 3)) 21=_
  rw[he1,he2,he3])
 rw[hfe]at hsT
 rw[hsT]
 generalize e3=eN at *
 refine T ?_
 refine C qk F52 ?_
 refine C qm F51 ?_
 refine C qk F52 ?_
 refine Am 9 (Br { lineZ with row:=row,kind:=1 }) rfl (.cons (.refl _) (.cons (.refl _) (.cons (.refl _) (.cons (.refl _) (.cons (.refl _) (.cons (.refl _) (.cons (.refl _) (.cons (.refl _) (.cons (.refl _) (.cons (.refl _) (.cons (.refl _) (.cons (.refl _) (.cons (.refl _) (.cons .nil (.cons .nil (.cons .nil (.cons .nil .nil))))))))))))))))) ?_
 refine T ?_
 refine X (Aq [(0,31)] (Au q_ q_ F53) q1 q_ W q_ V) ?_
 refine X (Ac [(0,31)] q_ F55 q2 q_ W q_ V) ?_
 refine X (Ac [(0,31)] q_ F56 q3 q_ W q_ V) ?_
 cases hz:(eN != 0)
 ·have hz0:eN=0:=by simpa using hz
  rw[if_neg (by rw[hz0];simp)]
  refine T ?_
  exact D
 ·have hz0:eN≠0:=by simpa using hz
  rw[if_pos hz0]
  refine T ?_
  refine Am 4 (Br lineZ) q_ (.cons (.refl _) (.cons (.refl _) (.cons (.refl _) (.cons (.refl _) (.cons (.refl _) (.cons (.refl _) (.cons (.refl _) (.cons (.refl _) (.cons (.refl _) (.cons (.refl _) (.cons (.refl _) (.cons (.refl _) (.cons (.refl _) (.cons .nil (.cons .nil (.cons .nil (.cons .nil .nil))))))))))))))))) ?_
  refine T ?_
  exact D
theorem Ahb (w:List ByteArray) (row:Int) (hw:w.length≤1000000) (hs:∀ s∈w,s.size≤40) (hne:0<w.length) (hk:kindL (wdT w 0)=3) (hmy:manyB 3 w=true) :
  Sy.Spec Tryz.prog 33 [.sl 1 Ae w,Aa row] [] (.tup [Ad (B5 w row).1,Aa (B5 w row).2]) []:=cT F33 Tryz.ntmps33 fun F hF=>by
 have hn0:(0:Int).toNat<w.length:=hne
 have f0:((w.length:Int) == 0)=false:=by rw[beq_eq_false_iff_ne];omega
 have hx0:w[(0:Int).toNat]'hn0=wdT w 0:=(C8 hne).symm
 have qk:Sy.Spec Tryz.prog 52 [Ae (w[(0:Int).toNat]'hn0)] [] (Aa 3) []:=by
  have:=Ep (wdT w 0)
  rw[hk]at this
  rw[hx0];exact this
 have qm:=Eo 3 qd w hw
 rw[hmy]at qm
 have hml:=Hr hmy
 have hsT:B5 w row=if Bc (Bl w row).2≠0 then (lineZ,Bc (Bl w row).2) else ((Bl w row).1,0):=by
  rw[B5,if_neg]
  rintro (hh | hh)
  ·rw[hh]at hne;simp at hne
  ·rw[hk,hmy]at hh;cases hh
 have hfe:=Cz _ (Dq w row)
 have hl:w.length=5:=hml.2.1 qd
 have q1:=D1 w 1 (0:Int) j_ hw hs
 obtain ⟨e1,he1⟩:∃ e,Ak (0:Int) (!(Az (wdT w 1))) 20=e:=⟨_,rfl⟩
 rw[he1]at q1
 have q2:=D1 w 2 e1 j_ hw hs
 obtain ⟨e2,he2⟩:∃ e,Ak e1 (!(Az (wdT w 2))) 20=e:=⟨_,rfl⟩
 rw[he2]at q2
 have q3:=D1 w 3 e2 j_ hw hs
 obtain ⟨e3,he3⟩:∃ e,Ak e2 (!(Az (wdT w 3))) 20=e:=⟨_,rfl⟩
 rw[he3]at q3
 have q4:=D1 w 4 e3 j_ hw hs
 obtain ⟨e4,he4⟩:∃ e,Ak e3 (!(Az (wdT w 4))) 20=e:=⟨_,rfl⟩
 rw[he4]at q4
 have hR:Bl w row=({ lineZ with row:=row,kind:=3,dev:=wdT w 1,port:=wdT w 2,peer:=wdT w 3,far:=wdT w 4 },[((!(Az (wdT w 1))),20),((!(Az (wdT w 2))),20),((!(Az (wdT w 3))),20),((!(Az (wdT w 4))),20)]):=by
  unfold Bl
  simp only[hk]
  rfl
 rw[hR]at hsT hfe
 have hfe:Bc _=e4:=hfe.trans (by
  show Ak (Ak (Ak (Ak ((0:Int)) (!(Az (wdT w 1))) 20) (!(Az (wdT w 2))) 20) (!(Az (wdT w 3))) 20) (!(Az (wdT w 4))) 20=_
  rw[he1,he2,he3,he4])
 rw[hfe]at hsT
 rw[hsT]
 generalize e4=eN at *
 refine T ?_
 refine C qk F52 ?_
 refine C qm F51 ?_
 refine C qk F52 ?_
 refine Am 9 (Br { lineZ with row:=row,kind:=3 }) rfl (.cons (.refl _) (.cons (.refl _) (.cons (.refl _) (.cons (.refl _) (.cons (.refl _) (.cons (.refl _) (.cons (.refl _) (.cons (.refl _) (.cons (.refl _) (.cons (.refl _) (.cons (.refl _) (.cons (.refl _) (.cons (.refl _) (.cons .nil (.cons .nil (.cons .nil (.cons .nil .nil))))))))))))))))) ?_
 refine T ?_
 refine X (Aq [(0,31)] (Au q_ q_ F53) q1 q_ W q_ V) ?_
 refine X (Aq [(0,31)] (Au q_ q_ F53) q2 q_ W q_ V) ?_
 refine X (Aq [(0,31)] (Au q_ q_ F53) q3 q_ W q_ V) ?_
 refine X (Aq [(0,31)] (Au q_ q_ F53) q4 q_ W q_ V) ?_
 cases hz:(eN != 0)
 ·have hz0:eN=0:=by simpa using hz
  rw[if_neg (by rw[hz0];simp)]
  refine T ?_
  exact D
 ·have hz0:eN≠0:=by simpa using hz
  rw[if_pos hz0]
  refine T ?_
  refine Am 4 (Br lineZ) q_ (.cons (.refl _) (.cons (.refl _) (.cons (.refl _) (.cons (.refl _) (.cons (.refl _) (.cons (.refl _) (.cons (.refl _) (.cons (.refl _) (.cons (.refl _) (.cons (.refl _) (.cons (.refl _) (.cons (.refl _) (.cons (.refl _) (.cons .nil (.cons .nil (.cons .nil (.cons .nil .nil))))))))))))))))) ?_
  refine T ?_
  exact D
theorem Aha (w:List ByteArray) (row:Int) (hw:w.length≤1000000) (hs:∀ s∈w,s.size≤40) (hne:0<w.length) (hk:kindL (wdT w 0)=4) (hmy:manyB 4 w=true) :
  Sy.Spec Tryz.prog 33 [.sl 1 Ae w,Aa row] [] (.tup [Ad (B5 w row).1,Aa (B5 w row).2]) []:=cT F33 Tryz.ntmps33 fun F hF=>by
 have hn0:(0:Int).toNat<w.length:=hne
 have f0:((w.length:Int) == 0)=false:=by rw[beq_eq_false_iff_ne];omega
 have hx0:w[(0:Int).toNat]'hn0=wdT w 0:=(C8 hne).symm
 have qk:Sy.Spec Tryz.prog 52 [Ae (w[(0:Int).toNat]'hn0)] [] (Aa 4) []:=by
  have:=Ep (wdT w 0)
  rw[hk]at this
  rw[hx0];exact this
 have qm:=Eo 4 qd w hw
 rw[hmy]at qm
 have hml:=Hr hmy
 have hsT:B5 w row=if Bc (Bl w row).2≠0 then (lineZ,Bc (Bl w row).2) else ((Bl w row).1,0):=by
  rw[B5,if_neg]
  rintro (hh | hh)
  ·rw[hh]at hne;simp at hne
  ·rw[hk,hmy]at hh;cases hh
 have hfe:=Cz _ (Dq w row)
 have hl:w.length=5:=hml.2.1 qd
 have q1:=D1 w 1 (0:Int) j_ hw hs
 obtain ⟨e1,he1⟩:∃ e,Ak (0:Int) (!(Az (wdT w 1))) 20=e:=⟨_,rfl⟩
 rw[he1]at q1
 have q2:=To w 2 e1 j_ hw
 obtain ⟨e2,he2⟩:∃ e,Ak e1 (!(Cp (wdT w 2)).2) 21=e:=⟨_,rfl⟩
 rw[he2]at q2
 have q3:=Anl w 3 e2 j_ hw hs
 obtain ⟨e3,he3⟩:∃ e,Ak e2 (macE (wdT w 3)) 21=e:=⟨_,rfl⟩
 rw[he3]at q3
 have q4:=D1 w 4 e3 j_ hw hs
 obtain ⟨e4,he4⟩:∃ e,Ak e3 (!(Az (wdT w 4))) 20=e:=⟨_,rfl⟩
 rw[he4]at q4
 have hR:Bl w row=({ lineZ with row:=row,kind:=4,dev:=wdT w 1,vlan:=(Cp (wdT w 2)).1,mac:=(macR (wdT w 3)).1,port:=wdT w 4 },[((!(Az (wdT w 1))),20),((!(Cp (wdT w 2)).2),21),((macE (wdT w 3)),21),((!(Az (wdT w 4))),20)]):=by
  unfold Bl
  simp only[hk]
  rfl
 rw[hR]at hsT hfe
 have hfe:Bc _=e4:=hfe.trans (by
  show Ak (Ak (Ak (Ak ((0:Int)) (!(Az (wdT w 1))) 20) (!(Cp (wdT w 2)).2) 21) (macE (wdT w 3)) 21) (!(Az (wdT w 4))) 20=_
  rw[he1,he2,he3,he4])
 rw[hfe]at hsT
 rw[hsT]
 generalize e4=eN at *
 refine T ?_
 refine C qk F52 ?_
 refine C qm F51 ?_
 refine C qk F52 ?_
 refine Am 9 (Br { lineZ with row:=row,kind:=4 }) rfl (.cons (.refl _) (.cons (.refl _) (.cons (.refl _) (.cons (.refl _) (.cons (.refl _) (.cons (.refl _) (.cons (.refl _) (.cons (.refl _) (.cons (.refl _) (.cons (.refl _) (.cons (.refl _) (.cons (.refl _) (.cons (.refl _) (.cons .nil (.cons .nil (.cons .nil (.cons .nil .nil))))))))))))))))) ?_
 refine T ?_
 refine X (Aq [(0,31)] (Au q_ q_ F53) q1 q_ W q_ V) ?_
 refine X (Aq [(0,31)] (Au q_ q_ F54) q2 q_ W q_ V) ?_
 refine X (Ac [(0,31)] q_ F56 q3 q_ W q_ V) ?_
 refine X (Aq [(0,31)] (Au q_ q_ F53) q4 q_ W q_ V) ?_
 cases hz:(eN != 0)
 ·have hz0:eN=0:=by simpa using hz
  rw[if_neg (by rw[hz0];simp)]
  refine T ?_
  exact D
 ·have hz0:eN≠0:=by simpa using hz
  rw[if_pos hz0]
  refine T ?_
  refine Am 4 (Br lineZ) q_ (.cons (.refl _) (.cons (.refl _) (.cons (.refl _) (.cons (.refl _) (.cons (.refl _) (.cons (.refl _) (.cons (.refl _) (.cons (.refl _) (.cons (.refl _) (.cons (.refl _) (.cons (.refl _) (.cons (.refl _) (.cons (.refl _) (.cons .nil (.cons .nil (.cons .nil (.cons .nil .nil))))))))))))))))) ?_
  refine T ?_
  exact D
theorem Ag8 (w:List ByteArray) (row:Int) (hw:w.length≤1000000) (hs:∀ s∈w,s.size≤40) (hne:0<w.length) (hk:kindL (wdT w 0)=6) (hmy:manyB 6 w=true) :
  Sy.Spec Tryz.prog 33 [.sl 1 Ae w,Aa row] [] (.tup [Ad (B5 w row).1,Aa (B5 w row).2]) []:=cT F33 Tryz.ntmps33 fun F hF=>by
 have hn0:(0:Int).toNat<w.length:=hne
 have f0:((w.length:Int) == 0)=false:=by rw[beq_eq_false_iff_ne];omega
 have hx0:w[(0:Int).toNat]'hn0=wdT w 0:=(C8 hne).symm
 have qk:Sy.Spec Tryz.prog 52 [Ae (w[(0:Int).toNat]'hn0)] [] (Aa 6) []:=by
  have:=Ep (wdT w 0)
  rw[hk]at this
  rw[hx0];exact this
 have qm:=Eo 6 qd w hw
 rw[hmy]at qm
 have hml:=Hr hmy
 have hsT:B5 w row=if Bc (Bl w row).2≠0 then (lineZ,Bc (Bl w row).2) else ((Bl w row).1,0):=by
  rw[B5,if_neg]
  rintro (hh | hh)
  ·rw[hh]at hne;simp at hne
  ·rw[hk,hmy]at hh;cases hh
 have hfe:=Cz _ (Dq w row)
 have hl:w.length=4:=hml.1 qd
 have q1:=D1 w 1 (0:Int) j_ hw hs
 obtain ⟨e1,he1⟩:∃ e,Ak (0:Int) (!(Az (wdT w 1))) 20=e:=⟨_,rfl⟩
 rw[he1]at q1
 have q2:=To w 2 e1 j_ hw
 obtain ⟨e2,he2⟩:∃ e,Ak e1 (!(Cp (wdT w 2)).2) 21=e:=⟨_,rfl⟩
 rw[he2]at q2
 have q3:=Ank w 3 e2 j_ hw
 obtain ⟨e3,he3⟩:∃ e,Ak e2 (!(Sb (wdT w 3)).2) 21=e:=⟨_,rfl⟩
 rw[he3]at q3
 have hR:Bl w row=({ lineZ with row:=row,kind:=6,dev:=wdT w 1,vlan:=(Cp (wdT w 2)).1,num:=(Sb (wdT w 3)).1 },[((!(Az (wdT w 1))),20),((!(Cp (wdT w 2)).2),21),((!(Sb (wdT w 3)).2),21)]):=by
  unfold Bl
  simp only[hk]
  rfl
 rw[hR]at hsT hfe
 have hfe:Bc _=e3:=hfe.trans (by
  show Ak (Ak (Ak ((0:Int)) (!(Az (wdT w 1))) 20) (!(Cp (wdT w 2)).2) 21) (!(Sb (wdT w 3)).2) 21=_
  rw[he1,he2,he3])
 rw[hfe]at hsT
 rw[hsT]
 generalize e3=eN at *
 refine T ?_
 refine C qk F52 ?_
 refine C qm F51 ?_
 refine C qk F52 ?_
 refine Am 9 (Br { lineZ with row:=row,kind:=6 }) rfl (.cons (.refl _) (.cons (.refl _) (.cons (.refl _) (.cons (.refl _) (.cons (.refl _) (.cons (.refl _) (.cons (.refl _) (.cons (.refl _) (.cons (.refl _) (.cons (.refl _) (.cons (.refl _) (.cons (.refl _) (.cons (.refl _) (.cons .nil (.cons .nil (.cons .nil (.cons .nil .nil))))))))))))))))) ?_
 refine T ?_
 refine X (Aq [(0,31)] (Au q_ q_ F53) q1 q_ W q_ V) ?_
 refine X (Aq [(0,31)] (Au q_ q_ F54) q2 q_ W q_ V) ?_
 refine X (Ac [(0,31)] q_ F61 q3 q_ W q_ V) ?_
 cases hz:(eN != 0)
 ·have hz0:eN=0:=by simpa using hz
  rw[if_neg (by rw[hz0];simp)]
  refine T ?_
  exact D
 ·have hz0:eN≠0:=by simpa using hz
  rw[if_pos hz0]
  refine T ?_
  refine Am 4 (Br lineZ) q_ (.cons (.refl _) (.cons (.refl _) (.cons (.refl _) (.cons (.refl _) (.cons (.refl _) (.cons (.refl _) (.cons (.refl _) (.cons (.refl _) (.cons (.refl _) (.cons (.refl _) (.cons (.refl _) (.cons (.refl _) (.cons (.refl _) (.cons .nil (.cons .nil (.cons .nil (.cons .nil .nil))))))))))))))))) ?_
  refine T ?_
  exact D
theorem Ag6 (w:List ByteArray) (row:Int) (hw:w.length≤1000000) (hs:∀ s∈w,s.size≤40) (hne:0<w.length) (hk:kindL (wdT w 0)=8) (hmy:manyB 8 w=true) :
  Sy.Spec Tryz.prog 33 [.sl 1 Ae w,Aa row] [] (.tup [Ad (B5 w row).1,Aa (B5 w row).2]) []:=cT F33 Tryz.ntmps33 fun F hF=>by
 have hn0:(0:Int).toNat<w.length:=hne
 have f0:((w.length:Int) == 0)=false:=by rw[beq_eq_false_iff_ne];omega
 have hx0:w[(0:Int).toNat]'hn0=wdT w 0:=(C8 hne).symm
 have qk:Sy.Spec Tryz.prog 52 [Ae (w[(0:Int).toNat]'hn0)] [] (Aa 8) []:=by
  have:=Ep (wdT w 0)
  rw[hk]at this
  rw[hx0];exact this
 have qm:=Eo 8 qd w hw
 rw[hmy]at qm
 have hml:=Hr hmy
 have hsT:B5 w row=if Bc (Bl w row).2≠0 then (lineZ,Bc (Bl w row).2) else ((Bl w row).1,0):=by
  rw[B5,if_neg]
  rintro (hh | hh)
  ·rw[hh]at hne;simp at hne
  ·rw[hk,hmy]at hh;cases hh
 have hfe:=Cz _ (Dq w row)
 have hl:w.length=5:=hml.2.1 qd
 have q1:=D1 w 1 (0:Int) j_ hw hs
 obtain ⟨e1,he1⟩:∃ e,Ak (0:Int) (!(Az (wdT w 1))) 20=e:=⟨_,rfl⟩
 rw[he1]at q1
 have q2:=D1 w 2 e1 j_ hw hs
 obtain ⟨e2,he2⟩:∃ e,Ak e1 (!(Az (wdT w 2))) 20=e:=⟨_,rfl⟩
 rw[he2]at q2
 have q3:=W7 w 3 e2 65535 j_ hw hs
 obtain ⟨e3,he3⟩:∃ e,Ak e2 (!(listR 65535 (wdT w 3)).2) 21=e:=⟨_,rfl⟩
 rw[he3]at q3
 have q4:=W7 w 4 e3 65535 j_ hw hs
 obtain ⟨e4,he4⟩:∃ e,Ak e3 (!(listR 65535 (wdT w 4)).2) 21=e:=⟨_,rfl⟩
 rw[he4]at q4
 have hR:Bl w row=({ lineZ with row:=row,kind:=8,dev:=wdT w 1,name:=wdT w 2,imports:=(listR 65535 (wdT w 3)).1,exports:=(listR 65535 (wdT w 4)).1 },[((!(Az (wdT w 1))),20),((!(Az (wdT w 2))),20),((!(listR 65535 (wdT w 3)).2),21),((!(listR 65535 (wdT w 4)).2),21)]):=by
  unfold Bl
  simp only[hk]
  rfl
 rw[hR]at hsT hfe
 have hfe:Bc _=e4:=hfe.trans (by
  show Ak (Ak (Ak (Ak ((0:Int)) (!(Az (wdT w 1))) 20) (!(Az (wdT w 2))) 20) (!(listR 65535 (wdT w 3)).2) 21) (!(listR 65535 (wdT w 4)).2) 21=_
  rw[he1,he2,he3,he4])
 rw[hfe]at hsT
 rw[hsT]
 generalize e4=eN at *
 refine T ?_
 refine C qk F52 ?_
 refine C qm F51 ?_
 refine C qk F52 ?_
 refine Am 9 (Br { lineZ with row:=row,kind:=8 }) rfl (.cons (.refl _) (.cons (.refl _) (.cons (.refl _) (.cons (.refl _) (.cons (.refl _) (.cons (.refl _) (.cons (.refl _) (.cons (.refl _) (.cons (.refl _) (.cons (.refl _) (.cons (.refl _) (.cons (.refl _) (.cons (.refl _) (.cons .nil (.cons .nil (.cons .nil (.cons .nil .nil))))))))))))))))) ?_
 refine T ?_
 refine X (Aq [(0,31)] (Au q_ q_ F53) q1 q_ W q_ V) ?_
 refine X (Aq [(0,31)] (Au q_ q_ F53) q2 q_ W q_ V) ?_
 refine X (Ac [(0,31)] q_ F63 q3 q_ W q_ V) ?_
 refine X (Ac [(0,31)] q_ F63 q4 q_ W q_ V) ?_
 cases hz:(eN != 0)
 ·have hz0:eN=0:=by simpa using hz
  rw[if_neg (by rw[hz0];simp)]
  refine T ?_
  exact D
 ·have hz0:eN≠0:=by simpa using hz
  rw[if_pos hz0]
  refine T ?_
  refine Am 4 (Br lineZ) q_ (.cons (.refl _) (.cons (.refl _) (.cons (.refl _) (.cons (.refl _) (.cons (.refl _) (.cons (.refl _) (.cons (.refl _) (.cons (.refl _) (.cons (.refl _) (.cons (.refl _) (.cons (.refl _) (.cons (.refl _) (.cons (.refl _) (.cons .nil (.cons .nil (.cons .nil (.cons .nil .nil))))))))))))))))) ?_
  refine T ?_
  exact D
theorem Ag9 (w:List ByteArray) (row:Int) (hw:w.length≤1000000) (hs:∀ s∈w,s.size≤40) (hne:0<w.length) (hk:kindL (wdT w 0)=5) (hmy:manyB 5 w=true) :
  Sy.Spec Tryz.prog 33 [.sl 1 Ae w,Aa row] [] (.tup [Ad (B5 w row).1,Aa (B5 w row).2]) []:=cT F33 Tryz.ntmps33 fun F hF=>by
 have hn0:(0:Int).toNat<w.length:=hne
 have f0:((w.length:Int) == 0)=false:=by rw[beq_eq_false_iff_ne];omega
 have hx0:w[(0:Int).toNat]'hn0=wdT w 0:=(C8 hne).symm
 have qk:Sy.Spec Tryz.prog 52 [Ae (w[(0:Int).toNat]'hn0)] [] (Aa 5) []:=by
  have:=Ep (wdT w 0)
  rw[hk]at this
  rw[hx0];exact this
 have qm:=Eo 5 qd w hw
 rw[hmy]at qm
 have hml:=Hr hmy
 have hsT:B5 w row=if Bc (Bl w row).2≠0 then (lineZ,Bc (Bl w row).2) else ((Bl w row).1,0):=by
  rw[B5,if_neg]
  rintro (hh | hh)
  ·rw[hh]at hne;simp at hne
  ·rw[hk,hmy]at hh;cases hh
 have hfe:=Cz _ (Dq w row)
 have hl:w.length=3:=hml.2.2.1 rfl
 have q1:=D1 w 1 (0:Int) j_ hw hs
 obtain ⟨e1,he1⟩:∃ e,Ak (0:Int) (!(Az (wdT w 1))) 20=e:=⟨_,rfl⟩
 rw[he1]at q1
 have qn:=K4 w 2 e1 j_ hw
 have hsz:(wdT w 2).size≤40:=by rw[C8 (by omega:2<w.length)];exact hs _ (List.getElem_mem _)
 have qa:=Vo (wdT w 2) j_
 have q2:=Hu w 3 e1 (!((C9 (wdT w 2)).2 && decide ((C9 (wdT w 2)).1≠0))) 21
 obtain ⟨e2,he2⟩:∃ e,Ak e1 (!((C9 (wdT w 2)).2 && decide ((C9 (wdT w 2)).1≠0))) 21=e:=⟨_,rfl⟩
 rw[he2]at q2
 have hR:Bl w row=({ lineZ with row:=row,kind:=5,dev:=wdT w 1,addr:=(C9 (wdT w 2)).1 },[((!(Az (wdT w 1))),20),((!((C9 (wdT w 2)).2 && decide ((C9 (wdT w 2)).1≠0))),21)]):=by
  unfold Bl
  simp only[hk]
  rfl
 rw[hR]at hsT hfe
 have hfe:Bc _=e2:=hfe.trans (by
  show Ak (Ak ((0:Int)) (!(Az (wdT w 1))) 20) (!((C9 (wdT w 2)).2 && decide ((C9 (wdT w 2)).1≠0))) 21=_
  rw[he1,he2])
 rw[hfe]at hsT
 rw[hsT]
 generalize e2=eN at *
 clear hR hsT hfe he2
 generalize C9 (wdT w 2)=rt at *
 obtain ⟨av,ok⟩:=rt
 dsimp only at qa q2 ⊢
 cases ok
 ·have q2:Sy.Spec Tryz.prog 57 [.ptr 0 0,Ab true,Aa 21] (rdO w 3 e1) (.tup []) (rdO w 3 eN):=q2
  refine T ?_
  refine C qk F52 ?_
  refine C qm F51 ?_
  refine C qk F52 ?_
  refine Am 9 (Br { lineZ with row:=row,kind:=5 }) rfl (.cons (.refl _) (.cons (.refl _) (.cons (.refl _) (.cons (.refl _) (.cons (.refl _) (.cons (.refl _) (.cons (.refl _) (.cons (.refl _) (.cons (.refl _) (.cons (.refl _) (.cons (.refl _) (.cons (.refl _) (.cons (.refl _) (.cons .nil (.cons .nil (.cons .nil (.cons .nil .nil))))))))))))))))) ?_
  refine T ?_
  refine X (Aq [(0,31)] (Au q_ q_ F53) q1 q_ W q_ V) ?_
  refine X (Ac [(0,31)] q_ F60 qn q_ W q_ V) ?_
  refine C qa F59 ?_
  refine X (Ac [(0,31)] q_ F57 q2 q_ W q_ V) ?_
  cases hz:(eN != 0)
  ·have hz0:eN=0:=by simpa using hz
   rw[if_neg (by rw[hz0];simp)]
   refine T ?_
   exact D
  ·have hz0:eN≠0:=by simpa using hz
   rw[if_pos hz0]
   refine T ?_
   refine Am 4 (Br lineZ) q_ (.cons (.refl _) (.cons (.refl _) (.cons (.refl _) (.cons (.refl _) (.cons (.refl _) (.cons (.refl _) (.cons (.refl _) (.cons (.refl _) (.cons (.refl _) (.cons (.refl _) (.cons (.refl _) (.cons (.refl _) (.cons (.refl _) (.cons .nil (.cons .nil (.cons .nil (.cons .nil .nil))))))))))))))))) ?_
   refine T ?_
   exact D
 ·have hb:(!(true && decide (av≠0)))=(av == 0):=by
   by_cases h:av=0
   ·rw[h];rfl
   ·rw[decide_eq_true h,beq_eq_false_iff_ne.2 h];rfl
  rw[hb]at q2
  refine T ?_
  refine C qk F52 ?_
  refine C qm F51 ?_
  refine C qk F52 ?_
  refine Am 9 (Br { lineZ with row:=row,kind:=5 }) rfl (.cons (.refl _) (.cons (.refl _) (.cons (.refl _) (.cons (.refl _) (.cons (.refl _) (.cons (.refl _) (.cons (.refl _) (.cons (.refl _) (.cons (.refl _) (.cons (.refl _) (.cons (.refl _) (.cons (.refl _) (.cons (.refl _) (.cons .nil (.cons .nil (.cons .nil (.cons .nil .nil))))))))))))))))) ?_
  refine T ?_
  refine X (Aq [(0,31)] (Au q_ q_ F53) q1 q_ W q_ V) ?_
  refine X (Ac [(0,31)] q_ F60 qn q_ W q_ V) ?_
  refine C qa F59 ?_
  refine X (Ac [(0,31)] q_ F57 q2 q_ W q_ V) ?_
  cases hz:(eN != 0)
  ·have hz0:eN=0:=by simpa using hz
   rw[if_neg (by rw[hz0];simp)]
   refine T ?_
   exact D
  ·have hz0:eN≠0:=by simpa using hz
   rw[if_pos hz0]
   refine T ?_
   refine Am 4 (Br lineZ) q_ (.cons (.refl _) (.cons (.refl _) (.cons (.refl _) (.cons (.refl _) (.cons (.refl _) (.cons (.refl _) (.cons (.refl _) (.cons (.refl _) (.cons (.refl _) (.cons (.refl _) (.cons (.refl _) (.cons (.refl _) (.cons (.refl _) (.cons .nil (.cons .nil (.cons .nil (.cons .nil .nil))))))))))))))))) ?_
   refine T ?_
   exact D
theorem Ag7 (w:List ByteArray) (row:Int) (hw:w.length≤1000000) (hs:∀ s∈w,s.size≤40) (hne:0<w.length) (hk:kindL (wdT w 0)=7) (hmy:manyB 7 w=true) :
  Sy.Spec Tryz.prog 33 [.sl 1 Ae w,Aa row] [] (.tup [Ad (B5 w row).1,Aa (B5 w row).2]) []:=cT F33 Tryz.ntmps33 fun F hF=>by
 have hn0:(0:Int).toNat<w.length:=hne
 have f0:((w.length:Int) == 0)=false:=by rw[beq_eq_false_iff_ne];omega
 have hx0:w[(0:Int).toNat]'hn0=wdT w 0:=(C8 hne).symm
 have qk:Sy.Spec Tryz.prog 52 [Ae (w[(0:Int).toNat]'hn0)] [] (Aa 7) []:=by
  have:=Ep (wdT w 0)
  rw[hk]at this
  rw[hx0];exact this
 have qm:=Eo 7 qd w hw
 rw[hmy]at qm
 have hml:=Hr hmy
 have hsT:B5 w row=if Bc (Bl w row).2≠0 then (lineZ,Bc (Bl w row).2) else ((Bl w row).1,0):=by
  rw[B5,if_neg]
  rintro (hh | hh)
  ·rw[hh]at hne;simp at hne
  ·rw[hk,hmy]at hh;cases hh
 have hfe:=Cz _ (Dq w row)
 have hl:w.length=4:=hml.1 qd
 have q1:=D1 w 1 (0:Int) j_ hw hs
 obtain ⟨e1,he1⟩:∃ e,Ak (0:Int) (!(Az (wdT w 1))) 20=e:=⟨_,rfl⟩
 rw[he1]at q1
 have q2:=Ank w 2 e1 j_ hw
 obtain ⟨e2,he2⟩:∃ e,Ak e1 (!(Sb (wdT w 2)).2) 21=e:=⟨_,rfl⟩
 rw[he2]at q2
 have qn:=K4 w 3 e2 j_ hw
 have hsz:(wdT w 3).size≤40:=by rw[C8 (by omega:3<w.length)];exact hs _ (List.getElem_mem _)
 have qa:=Zu (wdT w 3) j_
 have hpos:(Eh (wdT w 3)).2=true→0<(Eh (wdT w 3)).1.length:=fun h=>by
  have hp:=Aqf h
  rw[Eh,Hi]at hp ⊢
  have:=(Yq _ _ _ _ hp List.Pairwise.nil qd).2.2.1
  rw[this,Qo];simp
 have q3:=Hu w 4 e2 (!((Eh (wdT w 3)).2 && decide ((Eh (wdT w 3)).1.head? ≠ some 0))) 21
 obtain ⟨e3,he3⟩:∃ e,Ak e2 (!((Eh (wdT w 3)).2 && decide ((Eh (wdT w 3)).1.head? ≠ some 0))) 21=e:=⟨_,rfl⟩
 rw[he3]at q3
 have hR:Bl w row=({ lineZ with row:=row,kind:=7,dev:=wdT w 1,num:=(Sb (wdT w 2)).1,addrs:=(Eh (wdT w 3)).1 },[((!(Az (wdT w 1))),20),((!(Sb (wdT w 2)).2),21),((!((Eh (wdT w 3)).2 && decide ((Eh (wdT w 3)).1.head? ≠ some 0))),21)]):=by
  unfold Bl
  simp only[hk]
  rfl
 rw[hR]at hsT hfe
 have hfe:Bc _=e3:=hfe.trans (by
  show Ak (Ak (Ak ((0:Int)) (!(Az (wdT w 1))) 20) (!(Sb (wdT w 2)).2) 21) (!((Eh (wdT w 3)).2 && decide ((Eh (wdT w 3)).1.head? ≠ some 0))) 21=_
  rw[he1,he2,he3])
 rw[hfe]at hsT
 rw[hsT]
 generalize e3=eN at *
 clear hR hsT hfe he3
 generalize Eh (wdT w 3)=rt at *
 obtain ⟨av,ok⟩:=rt
 dsimp only at qa q3 hpos ⊢
 cases ok
 ·have q3:Sy.Spec Tryz.prog 57 [.ptr 0 0,Ab true,Aa 21] (rdO w 4 e2) (.tup []) (rdO w 4 eN):=q3
  refine T ?_
  refine C qk F52 ?_
  refine C qm F51 ?_
  refine C qk F52 ?_
  refine Am 9 (Br { lineZ with row:=row,kind:=7 }) rfl (.cons (.refl _) (.cons (.refl _) (.cons (.refl _) (.cons (.refl _) (.cons (.refl _) (.cons (.refl _) (.cons (.refl _) (.cons (.refl _) (.cons (.refl _) (.cons (.refl _) (.cons (.refl _) (.cons (.refl _) (.cons (.refl _) (.cons .nil (.cons .nil (.cons .nil (.cons .nil .nil))))))))))))))))) ?_
  refine T ?_
  refine X (Aq [(0,31)] (Au q_ q_ F53) q1 q_ W q_ V) ?_
  refine X (Ac [(0,31)] q_ F61 q2 q_ W q_ V) ?_
  refine X (Ac [(0,31)] q_ F60 qn q_ W q_ V) ?_
  refine C qa F62 ?_
  refine X (Ac [(0,31)] q_ F57 q3 q_ W q_ V) ?_
  cases hz:(eN != 0)
  ·have hz0:eN=0:=by simpa using hz
   rw[if_neg (by rw[hz0];simp)]
   refine T ?_
   exact D
  ·have hz0:eN≠0:=by simpa using hz
   rw[if_pos hz0]
   refine T ?_
   refine Am 4 (Br lineZ) q_ (.cons (.refl _) (.cons (.refl _) (.cons (.refl _) (.cons (.refl _) (.cons (.refl _) (.cons (.refl _) (.cons (.refl _) (.cons (.refl _) (.cons (.refl _) (.cons (.refl _) (.cons (.refl _) (.cons (.refl _) (.cons (.refl _) (.cons .nil (.cons .nil (.cons .nil (.cons .nil .nil))))))))))))))))) ?_
   refine T ?_
   exact D
 ·have h0:(0:Int).toNat<av.length:=hpos rfl
  have hb:(!(true && decide (av.head? ≠ some 0)))=(av[(0:Int).toNat]'h0 == 0):=by
   cases av with
   | nil=>exact absurd h0 qe
   | cons a r =>
    show (!(true && decide (some a≠some 0)))=(a == 0)
    by_cases h:a=0
    ·rw[h];rfl
    ·rw[beq_eq_false_iff_ne.2 h,decide_eq_true (by simpa using h)];rfl
  rw[hb]at q3
  refine T ?_
  refine C qk F52 ?_
  refine C qm F51 ?_
  refine C qk F52 ?_
  refine Am 9 (Br { lineZ with row:=row,kind:=7 }) rfl (.cons (.refl _) (.cons (.refl _) (.cons (.refl _) (.cons (.refl _) (.cons (.refl _) (.cons (.refl _) (.cons (.refl _) (.cons (.refl _) (.cons (.refl _) (.cons (.refl _) (.cons (.refl _) (.cons (.refl _) (.cons (.refl _) (.cons .nil (.cons .nil (.cons .nil (.cons .nil .nil))))))))))))))))) ?_
  refine T ?_
  refine X (Aq [(0,31)] (Au q_ q_ F53) q1 q_ W q_ V) ?_
  refine X (Ac [(0,31)] q_ F61 q2 q_ W q_ V) ?_
  refine X (Ac [(0,31)] q_ F60 qn q_ W q_ V) ?_
  refine C qa F62 ?_
  refine X (Ac [(0,31)] q_ F57 q3 q_ W q_ V) ?_
  cases hz:(eN != 0)
  ·have hz0:eN=0:=by simpa using hz
   rw[if_neg (by rw[hz0];simp)]
   refine T ?_
   exact D
  ·have hz0:eN≠0:=by simpa using hz
   rw[if_pos hz0]
   refine T ?_
   refine Am 4 (Br lineZ) q_ (.cons (.refl _) (.cons (.refl _) (.cons (.refl _) (.cons (.refl _) (.cons (.refl _) (.cons (.refl _) (.cons (.refl _) (.cons (.refl _) (.cons (.refl _) (.cons (.refl _) (.cons (.refl _) (.cons (.refl _) (.cons (.refl _) (.cons .nil (.cons .nil (.cons .nil (.cons .nil .nil))))))))))))))))) ?_
   refine T ?_
   exact D
theorem Abv (s:ByteArray):∃ m:Nat,(prefixR s).1.1=m∧m<4294967296:=by
 rw[prefixR]
 split
 ·exact⟨0,q_,by decide⟩
 ·have h1:=Agg (cutT 47 s).1
  have h2:=Ajb (cutT 47 s).1
  exact⟨(C9 (cutT 47 s).1).1.toNat,(Int.toNat_of_nonneg h1).symm,by omega⟩
theorem Ag5 (w:List ByteArray) (row:Int) (hw:w.length≤1000000) (hs:∀ s∈w,s.size≤40) (hne:0<w.length) (hk:kindL (wdT w 0)=9) (hmy:manyB 9 w=true) :
  Sy.Spec Tryz.prog 33 [.sl 1 Ae w,Aa row] [] (.tup [Ad (B5 w row).1,Aa (B5 w row).2]) []:=cT F33 Tryz.ntmps33 fun F hF=>by
 have hn0:(0:Int).toNat<w.length:=hne
 have f0:((w.length:Int) == 0)=false:=by rw[beq_eq_false_iff_ne];omega
 have hx0:w[(0:Int).toNat]'hn0=wdT w 0:=(C8 hne).symm
 have qk:Sy.Spec Tryz.prog 52 [Ae (w[(0:Int).toNat]'hn0)] [] (Aa 9) []:=by
  have:=Ep (wdT w 0)
  rw[hk]at this
  rw[hx0];exact this
 have qm:=Eo 9 qd w hw
 rw[hmy]at qm
 have hml:=Hr hmy
 have hsT:B5 w row=if Bc (Bl w row).2≠0 then (lineZ,Bc (Bl w row).2) else ((Bl w row).1,0):=by
  rw[B5,if_neg]
  rintro (hh | hh)
  ·rw[hh]at hne;simp at hne
  ·rw[hk,hmy]at hh;cases hh
 have hfe:=Cz _ (Dq w row)
 have hl:w.length=5:=hml.2.1 qd
 have q1:=D1 w 1 (0:Int) j_ hw hs
 obtain ⟨e1,he1⟩:∃ e,Ak (0:Int) (!(Az (wdT w 1))) 20=e:=⟨_,rfl⟩
 rw[he1]at q1
 have q2:=To w 2 e1 j_ hw
 obtain ⟨e2,he2⟩:∃ e,Ak e1 (!(Cp (wdT w 2)).2) 21=e:=⟨_,rfl⟩
 rw[he2]at q2
 have q3:=D1 w 3 e2 j_ hw hs
 obtain ⟨e3,he3⟩:∃ e,Ak e2 (!(Az (wdT w 3))) 20=e:=⟨_,rfl⟩
 rw[he3]at q3
 have qn:=K4 w 4 e3 j_ hw
 have hsz:(wdT w 4).size≤40:=by rw[C8 (by omega:4<w.length)];exact hs _ (List.getElem_mem _)
 have qa:=Agi (wdT w 4) j_
 have hrg:=Abv (wdT w 4)
 have q4:=Hu w 5 e3 (!((prefixR (wdT w 4)).2 && subnetB (prefixR (wdT w 4)).1.1 (prefixR (wdT w 4)).1.2)) 21
 obtain ⟨e4,he4⟩:∃ e,Ak e3 (!((prefixR (wdT w 4)).2 && subnetB (prefixR (wdT w 4)).1.1 (prefixR (wdT w 4)).1.2)) 21=e:=⟨_,rfl⟩
 rw[he4]at q4
 have hR:Bl w row=({ lineZ with row:=row,kind:=9,dev:=wdT w 1,vlan:=(Cp (wdT w 2)).1,name:=wdT w 3,addr:=(prefixR (wdT w 4)).1.1,bits:=(prefixR (wdT w 4)).1.2 },[((!(Az (wdT w 1))),20),((!(Cp (wdT w 2)).2),21),((!(Az (wdT w 3))),20),((!((prefixR (wdT w 4)).2 && subnetB (prefixR (wdT w 4)).1.1 (prefixR (wdT w 4)).1.2)),21)]):=by
  unfold Bl
  simp only[hk]
  rfl
 rw[hR]at hsT hfe
 have hfe:Bc _=e4:=hfe.trans (by
  show Ak (Ak (Ak (Ak ((0:Int)) (!(Az (wdT w 1))) 20) (!(Cp (wdT w 2)).2) 21) (!(Az (wdT w 3))) 20) (!((prefixR (wdT w 4)).2 && subnetB (prefixR (wdT w 4)).1.1 (prefixR (wdT w 4)).1.2)) 21=_
  rw[he1,he2,he3,he4])
 rw[hfe]at hsT
 rw[hsT]
 generalize e4=eN at *
 clear hR hsT hfe he4
 obtain ⟨m,hm1,hm2⟩:=hrg
 generalize prefixR (wdT w 4)=rt at *
 obtain ⟨⟨av,bv⟩,ok⟩:=rt
 dsimp only at qa q4 hm1 ⊢
 subst hm1
 have qs:=Vt m bv hm2
 generalize subnetB (m:Int) bv=sb at *
 cases ok
 ·have q4:Sy.Spec Tryz.prog 57 [.ptr 0 0,Ab true,Aa 21] (rdO w 5 e3) (.tup []) (rdO w 5 eN):=q4
  refine T ?_
  refine C qk F52 ?_
  refine C qm F51 ?_
  refine C qk F52 ?_
  refine Am 9 (Br { lineZ with row:=row,kind:=9 }) rfl (.cons (.refl _) (.cons (.refl _) (.cons (.refl _) (.cons (.refl _) (.cons (.refl _) (.cons (.refl _) (.cons (.refl _) (.cons (.refl _) (.cons (.refl _) (.cons (.refl _) (.cons (.refl _) (.cons (.refl _) (.cons (.refl _) (.cons .nil (.cons .nil (.cons .nil (.cons .nil .nil))))))))))))))))) ?_
  refine T ?_
  refine X (Aq [(0,31)] (Au q_ q_ F53) q1 q_ W q_ V) ?_
  refine X (Aq [(0,31)] (Au q_ q_ F54) q2 q_ W q_ V) ?_
  refine X (Aq [(0,31)] (Au q_ q_ F53) q3 q_ W q_ V) ?_
  refine X (Ac [(0,31)] q_ F60 qn q_ W q_ V) ?_
  refine C qa F64 ?_
  refine X (Ac [(0,31)] q_ F57 q4 q_ W q_ V) ?_
  cases hz:(eN != 0)
  ·have hz0:eN=0:=by simpa using hz
   rw[if_neg (by rw[hz0];simp)]
   refine T ?_
   exact D
  ·have hz0:eN≠0:=by simpa using hz
   rw[if_pos hz0]
   refine T ?_
   refine Am 4 (Br lineZ) q_ (.cons (.refl _) (.cons (.refl _) (.cons (.refl _) (.cons (.refl _) (.cons (.refl _) (.cons (.refl _) (.cons (.refl _) (.cons (.refl _) (.cons (.refl _) (.cons (.refl _) (.cons (.refl _) (.cons (.refl _) (.cons (.refl _) (.cons .nil (.cons .nil (.cons .nil (.cons .nil .nil))))))))))))))))) ?_
   refine T ?_
   exact D
 ·have hb:(!(true && sb))=!sb:=rfl
  rw[hb]at q4
  refine T ?_
  refine C qk F52 ?_
  refine C qm F51 ?_
  refine C qk F52 ?_
  refine Am 9 (Br { lineZ with row:=row,kind:=9 }) rfl (.cons (.refl _) (.cons (.refl _) (.cons (.refl _) (.cons (.refl _) (.cons (.refl _) (.cons (.refl _) (.cons (.refl _) (.cons (.refl _) (.cons (.refl _) (.cons (.refl _) (.cons (.refl _) (.cons (.refl _) (.cons (.refl _) (.cons .nil (.cons .nil (.cons .nil (.cons .nil .nil))))))))))))))))) ?_
  refine T ?_
  refine X (Aq [(0,31)] (Au q_ q_ F53) q1 q_ W q_ V) ?_
  refine X (Aq [(0,31)] (Au q_ q_ F54) q2 q_ W q_ V) ?_
  refine X (Aq [(0,31)] (Au q_ q_ F53) q3 q_ W q_ V) ?_
  refine X (Ac [(0,31)] q_ F60 qn q_ W q_ V) ?_
  refine C qa F64 ?_
  refine C qs F65 ?_
  refine X (Ac [(0,31)] q_ F57 q4 q_ W q_ V) ?_
  cases hz:(eN != 0)
  ·have hz0:eN=0:=by simpa using hz
   rw[if_neg (by rw[hz0];simp)]
   refine T ?_
   exact D
  ·have hz0:eN≠0:=by simpa using hz
   rw[if_pos hz0]
   refine T ?_
   refine Am 4 (Br lineZ) q_ (.cons (.refl _) (.cons (.refl _) (.cons (.refl _) (.cons (.refl _) (.cons (.refl _) (.cons (.refl _) (.cons (.refl _) (.cons (.refl _) (.cons (.refl _) (.cons (.refl _) (.cons (.refl _) (.cons (.refl _) (.cons (.refl _) (.cons .nil (.cons .nil (.cons .nil (.cons .nil .nil))))))))))))))))) ?_
   refine T ?_
   exact D
theorem Ahc (w:List ByteArray) (row:Int) (hw:w.length≤1000000) (hs:∀ s∈w,s.size≤40) (hne:0<w.length) (hk:kindL (wdT w 0)=2) (hmy:manyB 2 w=true) :
  Sy.Spec Tryz.prog 33 [.sl 1 Ae w,Aa row] [] (.tup [Ad (B5 w row).1,Aa (B5 w row).2]) []:=cT F33 Tryz.ntmps33 fun F hF=>by
 have hn0:(0:Int).toNat<w.length:=hne
 have f0:((w.length:Int) == 0)=false:=by rw[beq_eq_false_iff_ne];omega
 have hx0:w[(0:Int).toNat]'hn0=wdT w 0:=(C8 hne).symm
 have qk:Sy.Spec Tryz.prog 52 [Ae (w[(0:Int).toNat]'hn0)] [] (Aa 2) []:=by
  have:=Ep (wdT w 0)
  rw[hk]at this
  rw[hx0];exact this
 have qm:=Eo 2 qd w hw
 rw[hmy]at qm
 have hml:=Hr hmy
 have hsT:B5 w row=if Bc (Bl w row).2≠0 then (lineZ,Bc (Bl w row).2) else ((Bl w row).1,0):=by
  rw[B5,if_neg]
  rintro (hh | hh)
  ·rw[hh]at hne;simp at hne
  ·rw[hk,hmy]at hh;cases hh
 have hfe:=Cz _ (Dq w row)
 have hl:6≤w.length∧w.length≤7∧(wdT w 4=trunkT→w.length=7):=hml.2.2.2.1 rfl
 have q1:=D1 w 1 (0:Int) j_ hw hs
 obtain ⟨e1,he1⟩:∃ e,Ak (0:Int) (!(Az (wdT w 1))) 20=e:=⟨_,rfl⟩
 rw[he1]at q1
 have q2:=D1 w 2 e1 j_ hw hs
 obtain ⟨e2,he2⟩:∃ e,Ak e1 (!(Az (wdT w 2))) 20=e:=⟨_,rfl⟩
 rw[he2]at q2
 have q3:=O6 w 3 e2 1 65535 j_ hw
 obtain ⟨e3,he3⟩:∃ e,Ak e2 (!(numR (wdT w 3) 1 65535).2) 21=e:=⟨_,rfl⟩
 rw[he3]at q3
 have q4:=Hu w 4 e3 (decide (wdT w 4≠accessT) && decide (wdT w 4≠trunkT)) 20
 obtain ⟨e4,he4⟩:∃ e,Ak e3 (decide (wdT w 4≠accessT) && decide (wdT w 4≠trunkT)) 20=e:=⟨_,rfl⟩
 rw[he4]at q4
 have qp:=Aqc w e4 { lineZ with row:=row,kind:=2,dev:=wdT w 1,port:=wdT w 2,cost:=(numR (wdT w 3) 1 65535).1 } hw hs j_ (fun x=>by
  have h6:w.length=6:=by
   have hm3:=hmy
   rw[manyB,if_neg qd,if_pos rfl,if_neg j_,if_pos x]at hm3
   exact of_decide_eq_true hm3
  omega) (fun x=>by have:=hl.2.2 x;omega) ⟨rfl,rfl⟩
 have hR:Bl w row=({ lineZ with row:=row,kind:=2,dev:=wdT w 1,port:=wdT w 2,cost:=(numR (wdT w 3) 1 65535).1,vlan:=(Ey w).1,tagged:=(Ey w).2.1 },
   [((!(Az (wdT w 1))),20),((!(Az (wdT w 2))),20),((!(numR (wdT w 3) 1 65535).2),21),((decide (wdT w 4≠accessT) && decide (wdT w 4≠trunkT)),20)]++(Ey w).2.2++[(!(membersB (Ey w).1 (Ey w).2.1),21)]):=by
  unfold Bl
  simp only[hk]
  rfl
 rw[hR]at hsT hfe
 have hfe:Bc _=Ju e4 ((Ey w).2.2++[(!(membersB (Ey w).1 (Ey w).2.1),21)]):=hfe.trans (by
  rw[Qb,Qb,Qb]
  congr 2
  show Ak (Ak (Ak (Ak ((0:Int)) (!(Az (wdT w 1))) 20) (!(Az (wdT w 2))) 20) (!(numR (wdT w 3) 1 65535).2) 21) (decide (wdT w 4≠accessT) && decide (wdT w 4≠trunkT)) 20=_
  rw[he1,he2,he3,he4])
 rw[hfe]at hsT
 rw[hsT]
 clear hR hsT hfe he4
 dsimp only at qp ⊢
 generalize Ju e4 ((Ey w).2.2++[(!(membersB (Ey w).1 (Ey w).2.1),21)])=eN at *
 generalize Ey w=pr at *
 have hn4:(4:Int).toNat<w.length:=by show 4<w.length;omega
 have hx4:w[(4:Int).toNat]'hn4=wdT w 4:=(C8 j_).symm
 by_cases ca:wdT w 4=accessT
 ·have g1:(!(w[(4:Int).toNat]'hn4 == (⟨#[97,99,99,101,115,115]⟩:ByteArray)))=false:=Xb (by rw[hx4];exact ca)
  have q4:Sy.Spec Tryz.prog 57 [.ptr 0 0,Ab false,Aa 20] (rdO w 4 e3) (.tup []) (rdO w 4 e4):=by
   rw[decide_eq_false (fun x=>x ca)]at q4;exact q4
  refine T ?_
  refine C qk F52 ?_
  refine C qm F51 ?_
  refine C qk F52 ?_
  refine Am 9 (Br { lineZ with row:=row,kind:=2 }) rfl (.cons (.refl _) (.cons (.refl _) (.cons (.refl _) (.cons (.refl _) (.cons (.refl _) (.cons (.refl _) (.cons (.refl _) (.cons (.refl _) (.cons (.refl _) (.cons (.refl _) (.cons (.refl _) (.cons (.refl _) (.cons (.refl _) (.cons .nil (.cons .nil (.cons .nil (.cons .nil .nil))))))))))))))))) ?_
  refine T ?_
  refine X (Aq [(0,31)] (Au q_ q_ F53) q1 q_ W q_ V) ?_
  refine X (Aq [(0,31)] (Au q_ q_ F53) q2 q_ W q_ V) ?_
  refine X (Ac [(0,31)] q_ F55 q3 q_ W q_ V) ?_
  refine X (Ac [(0,31)] q_ F57 q4 q_ W q_ V) ?_
  refine X (Ac [(0,31),(1,9)] q_ F58 qp q_ W q_ V) ?_
  cases hz:(eN != 0)
  ·have hz0:eN=0:=by simpa using hz
   rw[if_neg (by rw[hz0];simp)]
   refine T ?_
   exact D
  ·have hz0:eN≠0:=by simpa using hz
   rw[if_pos hz0]
   refine T ?_
   refine Am 4 (Br lineZ) q_ (.cons (.refl _) (.cons (.refl _) (.cons (.refl _) (.cons (.refl _) (.cons (.refl _) (.cons (.refl _) (.cons (.refl _) (.cons (.refl _) (.cons (.refl _) (.cons (.refl _) (.cons (.refl _) (.cons (.refl _) (.cons (.refl _) (.cons .nil (.cons .nil (.cons .nil (.cons .nil .nil))))))))))))))))) ?_
   refine T ?_
   exact D
 ·have g1:(!(w[(4:Int).toNat]'hn4 == (⟨#[97,99,99,101,115,115]⟩:ByteArray)))=true:=Adj (by rw[hx4];exact ca)
  have hb:(decide (wdT w 4≠accessT) && decide (wdT w 4≠trunkT))=!(w[(4:Int).toNat]'hn4 == (⟨#[116,114,117,110,107]⟩:ByteArray)):=by
   rw[decide_eq_true ca,Bool.true_and,hx4]
   show decide (wdT w 4≠trunkT)=!(wdT w 4 == trunkT)
   by_cases cr:wdT w 4=trunkT
   ·rw[Xb cr,decide_eq_false (fun x:wdT w 4≠trunkT=>x cr)]
   ·rw[Adj cr,decide_eq_true cr]
  rw[hb]at q4
  refine T ?_
  refine C qk F52 ?_
  refine C qm F51 ?_
  refine C qk F52 ?_
  refine Am 9 (Br { lineZ with row:=row,kind:=2 }) rfl (.cons (.refl _) (.cons (.refl _) (.cons (.refl _) (.cons (.refl _) (.cons (.refl _) (.cons (.refl _) (.cons (.refl _) (.cons (.refl _) (.cons (.refl _) (.cons (.refl _) (.cons (.refl _) (.cons (.refl _) (.cons (.refl _) (.cons .nil (.cons .nil (.cons .nil (.cons .nil .nil))))))))))))))))) ?_
  refine T ?_
  refine X (Aq [(0,31)] (Au q_ q_ F53) q1 q_ W q_ V) ?_
  refine X (Aq [(0,31)] (Au q_ q_ F53) q2 q_ W q_ V) ?_
  refine X (Ac [(0,31)] q_ F55 q3 q_ W q_ V) ?_
  refine X (Ac [(0,31)] q_ F57 q4 q_ W q_ V) ?_
  refine X (Ac [(0,31),(1,9)] q_ F58 qp q_ W q_ V) ?_
  cases hz:(eN != 0)
  ·have hz0:eN=0:=by simpa using hz
   rw[if_neg (by rw[hz0];simp)]
   refine T ?_
   exact D
  ·have hz0:eN≠0:=by simpa using hz
   rw[if_pos hz0]
   refine T ?_
   refine Am 4 (Br lineZ) q_ (.cons (.refl _) (.cons (.refl _) (.cons (.refl _) (.cons (.refl _) (.cons (.refl _) (.cons (.refl _) (.cons (.refl _) (.cons (.refl _) (.cons (.refl _) (.cons (.refl _) (.cons (.refl _) (.cons (.refl _) (.cons (.refl _) (.cons .nil (.cons .nil (.cons .nil (.cons .nil .nil))))))))))))))))) ?_
   refine T ?_
   exact D
theorem Akx (w:List ByteArray) (row:Int) (hw:w.length≤1000000) (hs:∀ s∈w,s.size≤40):Sy.Spec Tryz.prog 33 [.sl 1 Ae w,Aa row] [] (.tup [Ad (B5 w row).1,Aa (B5 w row).2]) []:=by
 by_cases hne:0<w.length
 ·cases hmy:manyB (kindL (wdT w 0)) w with
  | true =>
   have hr:=Wa (wdT w 0)
   have h0:=(Hr hmy).2.2.2.2
   rcases (by omega:kindL (wdT w 0)=1∨kindL (wdT w 0)=2∨kindL (wdT w 0)=3∨kindL (wdT w 0)=4∨kindL (wdT w 0)=5∨kindL (wdT w 0)=6∨kindL (wdT w 0)=7∨kindL (wdT w 0)=8∨kindL (wdT w 0)=9) with h | h | h | h | h | h | h | h | h
   ·exact Ahd w row hw hs hne h (by rw[h]at hmy;exact hmy)
   ·exact Ahc w row hw hs hne h (by rw[h]at hmy;exact hmy)
   ·exact Ahb w row hw hs hne h (by rw[h]at hmy;exact hmy)
   ·exact Aha w row hw hs hne h (by rw[h]at hmy;exact hmy)
   ·exact Ag9 w row hw hs hne h (by rw[h]at hmy;exact hmy)
   ·exact Ag8 w row hw hs hne h (by rw[h]at hmy;exact hmy)
   ·exact Ag7 w row hw hs hne h (by rw[h]at hmy;exact hmy)
   ·exact Ag6 w row hw hs hne h (by rw[h]at hmy;exact hmy)
   ·exact Ag5 w row hw hs hne h (by rw[h]at hmy;exact hmy)
  | false =>
   have hsT:B5 w row=(lineZ,22):=by rw[B5,if_pos (.inr hmy)]
   rw[hsT]
   refine Lo Γ hm 100 F33 Tryz.ntmps33 q_ fun F hF=>by
    have hn0:(0:Int).toNat<w.length:=hne
    have f0:((w.length:Int) == 0)=false:=by rw[beq_eq_false_iff_ne];omega
    have hx0:w[(0:Int).toNat]'hn0=wdT w 0:=(C8 hne).symm
    have qk:Sy.Spec Tryz.prog 52 [Ae (w[(0:Int).toNat]'hn0)] [] (Aa (kindL (wdT w 0))) []:=by
     rw[hx0];exact Ep (wdT w 0)
    have qm:=Eo (kindL (wdT w 0)) (Wa _) w hw
    rw[hmy]at qm
    refine T ?_
    refine C qk F52 ?_
    refine C qm F51 ?_
    refine Am 4 (Br lineZ) q_ (.cons (.refl _) (.cons (.refl _) (.cons (.refl _) (.cons (.refl _) (.cons (.refl _) (.cons (.refl _) (.cons (.refl _) (.cons (.refl _) (.cons (.refl _) (.cons (.refl _) (.cons (.refl _) (.cons (.refl _) (.cons (.refl _) (.cons .nil (.cons .nil (.cons .nil (.cons .nil .nil))))))))))))))))) ?_
    refine T ?_
    exact D
 ·have hw0:w=[]:=List.eq_nil_of_length_eq_zero j_
  subst hw0
  have hsT:B5 [] row=(lineZ,22):=by rw[B5,if_pos (.inl rfl)]
  rw[hsT]
  refine Lo Γ hm 100 F33 Tryz.ntmps33 q_ fun F hF=>by
   refine T ?_
   refine Am 4 (Br lineZ) q_ (.cons (.refl _) (.cons (.refl _) (.cons (.refl _) (.cons (.refl _) (.cons (.refl _) (.cons (.refl _) (.cons (.refl _) (.cons (.refl _) (.cons (.refl _) (.cons (.refl _) (.cons (.refl _) (.cons (.refl _) (.cons (.refl _) (.cons .nil (.cons .nil (.cons .nil (.cons .nil .nil))))))))))))))))) ?_
   refine T ?_
   exact D
end Go.Sy.YtdkfcckkkfghgaaGreatDoor
namespace Go.Sy
theorem Y1 {f g:Nat→Option (Nat × Nat)}:∀ (ps:List (Nat × Value)) (cs:Array Value),(∀ p∈ps,f p.1=g p.1)→Instr.fill f cs ps=Instr.fill g cs ps
 | [],cs,_=>rfl
 | (i,v)::ps,cs,h=>by
  have h1:=h (i,v) qe
  simp only[Instr.fill]
  dsimp only at h1
  rw[h1]
  cases g i with
  | none=>rfl
  | some os =>
   dsimp only
   split
   ·rfl
   ·exact Y1 ps _ (fun p hp=>h p (by simp[hp]))
theorem Afs {P:Program} (Γ:Ty P) {o:Oper} {s:SS} {t et:TypeId} {ti:TI} {len esz:Nat} {ps:List (Nat × Operand)} {out:List SV} (h:o.op=.build t ps.toArray) (ht:Γ.get t=some ti) (hk:ti.k=.array et len esz)
  (h1:V4 ti.zero=true) (hps:(ps.all fun p=>Nat.blt p.1 len)=true) (hf:Y2 ((List.range len).map fun i=>(i * esz,esz)) (ti.zero.map .val) (ps.map fun p=>(p.1,ev s p.2))=some out):Good P o s ⟨.agg out,[],[]⟩ :=
 Good.pure fun κ a w _ hr _=>by
  obtain ⟨d,info,z,k1,k2,k3,k4,k5,k6⟩:=Γ.ok t ti ht
  obtain ⟨hu,i,q1,q2⟩:=Ov Γ ht hk
  have hops:∀ p∈ps,Rd κ w (ev s p.2) (a.eval p.2):=fun p hp=>hr p.2 (by
   simp only[h,Op.operands]
   simp only[List.mem_toArray,List.mem_map]
   exact⟨p,hp,q_⟩)
  obtain ⟨r,r1,r2,r3⟩:=Ac8 (κ:=κ) (w:=w) (a:=a) ps _ out z.cells (by rw[k6];exact Uv _) (by rw[k6];exact Oa h1) hops hf
  refine⟨.agg r,?_,?_⟩
  ·have hcg:=Y1 (f:=fun i=>some (i * esz,esz)) (g:=fun i=>((List.range len).map fun i=>(i * esz,esz))[i]?) (ps.map fun p=>(p.1,a.eval p.2)) z.cells (fun p hp=>by
    obtain ⟨x,hx,rfl⟩:=List.mem_map.1 hp
    have hlt:x.1<len:=Nat.le_of_ble_eq_true (List.all_eq_true.1 hps x hx)
    dsimp only
    rw[List.getElem?_map,List.getElem?_range hlt]
    rfl)
   simp only[execOp,h,Sem.run_bind,Instr.build,zeroValue,typeInfo,run_program,Result.andThen_ok,k3,k5,Sem.run_pure,run_underlying hu,sizeOf,q1,q2,List.map_toArray]
   rw[hcg,r1]
   simp
  ·simp only[Rd]
   exact⟨r.toList,by simp,r3,r2⟩
theorem VwL.get {s:SS} {V:List Nat}:∀ {l m:List SV} (_:VwL s V l m) {i:Nat} {y:SV},Iu m i=some y→∃ x,Iu l i=some x∧Vw s V x y
 | _,_,.nil,i,y,h=>by cases i<;>simp[Iu]at h
 | _,_,.cons (x:=x) h0 hs,0,y,h=>by
  simp only[Iu,Option.some.injEq]at h
  subst h
  exact⟨x,q_,h0⟩
 | _,_,.cons h0 hs,i+1,y,h=>VwL.get hs (i:=i) h
theorem VwL.len {s:SS} {V:List Nat}:∀ {l m:List SV} (_:VwL s V l m),m.length=l.length
 | _,_,.nil=>rfl
 | _,_,.cons _ hs=>by simp[VwL.len hs]
theorem RdL.setI {κ:Ka} {w:World} {x:SV} {v:Value} (hx:Rd κ w x v):∀ {l:List SV} {cs:List Value} (i:Nat),RdL κ w l cs→RdL κ w (l.set i x) (cs.set i v)
 | [],cs,i,h=>by simp only[RdL]at h;subst h;simp[RdL]
 | y::l,cs,0,h=>by
  simp only[RdL]at h
  obtain ⟨u,r,rfl,h1,h2⟩:=h
  simp only[List.set_cons_zero,RdL]
  exact⟨v,r,q_,hx,h2⟩
 | y::l,cs,i+1,h=>by
  simp only[RdL]at h
  obtain ⟨u,r,rfl,h1,h2⟩:=h
  simp only[List.set_cons_succ,RdL]
  exact⟨u,_,q_,h1,h2.setI hx i⟩
theorem Ib {κ:Ka} {w:World} {k:Nat} {l:List SV} (hi:Inv κ w) (h:ObOK κ w k (.box l)) {off:Nat} {x:SV} {v:Value} (_hx:x.plain=true) (hv:∀ κ w,Rd κ w x v) (h1:v.oneCell'=true) :
  ∃ b,κ k=.blk b∧(∀ j y,Iu l j=some y→∃ u,w.cell? ⟨b,j,none⟩=some u∧Rd κ w y u)∧(∀ j,j<l.length→w.frozen? ⟨b,j,none⟩=false) ∧
   Step (·=k) κ w κ (w.setCell ⟨b,off,none⟩ v)∧Inv κ (w.setCell ⟨b,off,none⟩ v)∧ObOK κ (w.setCell ⟨b,off,none⟩ v) k (.box (l.set off x)):=by
 obtain ⟨b,cs,T,fr,e1,e2,e3,e4,e5⟩:=h
 have hsame:(w.setCell ⟨b,off,none⟩ v).heap[b]? = some (.cells (cs.set off v).toArray T fr):=by
  simp[World.setCell,Array.getElem?_modify,e2]
 have hoth:∀ j,j≠b→(w.setCell ⟨b,off,none⟩ v).heap[j]? = w.heap[j]?:=fun j hj=>heap_setCell_other w ⟨b,off,none⟩ j v hj
 obtain ⟨st,inv⟩:=Lt (w':=w.setCell ⟨b,off,none⟩ v) hi (k:=k) (b:=b) (by rw[e1];rfl) rfl rfl rfl qe hoth
 have hlen:=e5.length
 refine⟨b,e1,fun j y hy=>?_,fun j hj=>?_,st,inv,b,_,T,fr,e1,hsame,by rw[List.length_set];exact e3,?_,(RdL.step st _ _ e5).setI (hv _ _) off⟩
 ·obtain ⟨u,hu,hr⟩:=e5.get hy
  exact⟨u,by rw[cell_of_row w b j cs.toArray T fr e2,List.getElem?_toArray];exact hu,hr⟩
 ·obtain ⟨lo,hi'⟩:=fr
  simp only[World.frozen?,e2]
  rcases e3 with h | h
  ·simp only at h;subst h;simp
  ·simp only at h;simp;omega
 ·intro c hc
  rcases List.mem_or_eq_of_mem_set hc with h | h
  ·exact e4 c h
  ·rw[h];exact h1
theorem Z2 {P:Program} {o:Oper} {s:SS} {f:FuncId} {ik:IntKind} {ts:Array TypeId} {x:Operand} {k off:Nat} {l:List SV} {v:Int}
  (hf:∀ (a:Addr) (x:Int) (w:World),w.cell? a=some (.int ik x)→(callFunc f #[.pointer (some a)]).run P w=.ok (.value (.int ik x)) w)
  (h:o.op=.call ⟨.value (.func f),#[x],ts⟩) (hx:ev s x=.ptr k off) (hk:s.h k=.box l) (hy:Iu l off=some (.val (.int ik v))):Good P o s ⟨.val (.int ik v),[k],[]⟩ :=
 Good.pure fun κ a w hi hr ho=>by
  have h1:=hr x (by simp[h,Op.operands,Call.operands])
  rw[hx]at h1
  have h2:=ho k qe
  rw[hk]at h2
  obtain ⟨b,cs,T,fr,e1,e2,e3,e4,e5⟩:=h2
  simp only[Rd,e1]at h1
  obtain ⟨u,hu,hr2⟩:=e5.get hy
  have hc:w.cell? ⟨b,off,none⟩=some (.int ik v):=by rw[cell_of_row w b off cs.toArray T fr e2,List.getElem?_toArray,hu,hr2.val]
  have hrun:=hf ⟨b,off,none⟩ v w hc
  refine⟨.int ik v,?_,by simp only[Rd]⟩
  have hev:a.eval (.func f)=.func (.func f) #[] #[]:=rfl
  simp[execOp,h,resolve,hev,Deferred.ofValue,invoke,h1,hrun]
theorem Ctx.onward {F:Fr} {κ κ2:Ka} {w w2:World} {ds:List Deferred} (c:Ctx F κ w) (c2:Ctx ⟨w,κ,ds⟩ κ2 w2):Ctx F κ2 w2 where
 size:=Nat.le_trans c.size c2.size
 os:=c2.os.trans c.os
 tape:=c2.tape.trans c.tape
 output:=c2.output.trans c.output
 M:=c2.M.trans c.M
 old b hb h:=by
  refine(c2.old b (Nat.lt_of_lt_of_le hb c.size) (fun k hk=>?_)).trans (c.old b hb h)
  rcases c.own k b hk with h1 | ⟨j,h1⟩
  ·exact absurd hb (Nat.not_lt.2 h1)
  ·exact h j h1
 own k b hk:=by
  rcases c2.own k b hk with h | ⟨j,h⟩
  ·exact .inl (Nat.le_trans c.size h)
  ·exact c.own j b h
 nam k hk:=by
  have hn:∀ x,κ k=x→x≠.new→κ2 k=x∨κ2 k=.dead:=fun x hx hne=>by
   have h:κ2 k=κ k∨κ2 k=.dead:=c2.nam k (by show κ k≠.new;rw[hx];exact hne)
   rw[hx]at h
   exact h
  rcases c.nam k hk with h | h
  ·exact hn _ h hk
  ·rcases hn _ h (by intro e;cases e) with h2 | h2
   ·exact .inr h2
   ·exact .inr h2
def Akl (P:Program) (fn:Func) (F:Fr) (R:SV) (H':Obs):Exit→Act→World→Prop :=
 bodyPostD P fn fun e w'=>∃ v κ',e=.returned v∧Ctx F κ' w'∧Inv κ' w'∧Rd κ' w' R v∧H'.ok κ' w'
theorem Ahh {P:Program} (Γ:Ty P) {f:FuncId} {fn:Func} {c:Code} {A:List SV} {H:Obs} {R:SV} {H':Obs} (hf:P.funcs[f]? = some fn) (hb:fn.body=some c) {n:Nat} (hn':fn.ntmps=n) (hn:A.length≤n)
  (h:∀ (F:Fr) (hF:∀ k,F.k0 k≠.new→k∈H.keys),F.ds=[]→G ⟨P,Γ,F,n,Akl P fn F R H',H.keys,hF⟩ [.code c] ⟨argσ A,mkh H⟩):Spec P f A H R H':=by
 subst hn'
 intro κ w vs hi hnew hA hH
 refine calls_of_wp_defers hf hb ?_
 have hlen:=hA.length
 refine h ⟨w,κ,[]⟩ hnew q_ κ _ w ⟨q_,?_,hi,Ctx.refl κ w,?_,?_⟩
 ·simp;omega
 ·intro i
  have:=hA.getD (fn.ntmps-vs.length) i
  have he:(vs.toArray++Array.replicate (fn.ntmps-vs.length) undef)=(vs++List.replicate (fn.ntmps-vs.length) undef).toArray:=by simp
  show Rd κ w _ ((vs.toArray++Array.replicate (fn.ntmps-vs.toArray.size) undef).getD i undef)
  rw[List.size_toArray,he]
  simpa using this
 ·intro k
  exact Aic hH (fun hk=>Classical.byContradiction fun hne=>hk (hnew k hne))
theorem Amf {P:Program} (Γ:TyE P) (hm:P.follows .mixedOrders=true) (N:Nat) {f:FuncId} {fn:Func} {c:Code} {A:List SV} {H:Obs} {R:SV} {H':Obs} (hF:Fun P f fn c) {n:Nat} (hn':fn.ntmps=n) (hn:Afi A n=true)
  (h:∀ (F:Fr) (hF:∀ k,F.k0 k≠.new→k∈H.keys),F.ds=[]→Kx ⟨P,Γ.toTy,F,n,Akl P fn F R H',H.keys,hF⟩ Γ N [.code c] ⟨argσ A,mkh H⟩):Sy.Spec P f A H R H' :=
 Ahh Γ.toTy hF.1 hF.2 hn' (Yl hn) fun F hF h0=>run Γ hm N (h F hF h0)
theorem Aq9 {C:Cx} {k:List KI} {s:SS} {all:Array Oper} {o:Oper} {rest:List Oper} {x:Operand} {ts:Array TypeId} {g:FuncId} {cap:List SV} (h:o.op=.defer ⟨.value x,#[],ts⟩) (hx:ev s x=.clo (.func g) [] cap) (hd:o.dst=none)
  (hw:Dy C.n all o s=some true) (h0:C.F.ds=[]) (bn:List Nat) (hbn:∀ j,j∉bn→s.h j=.fresh)
  (hg:∀ (F:Fr) (hF:∀ j,F.k0 j≠.new→j∈bn) (cv:List Value),F.ds=[⟨.fn (.func g) cv.toArray,#[]⟩]→RdL F.k0 F.w0 cap cv→(∀ κ w,Ctx F κ w→Ctx C.F κ w)→G ⟨C.P,C.Γ,F,C.n,C.B,bn,hF⟩ (.ops all rest::k) s):G C (.ops all (o::rest)::k) s:=by
 intro κ a w hs
 refine wpList_step fun K hK=>?_
 rw[if_pos (O0 hs (Dm hw).2 (Dm hw).1)]
 have hr:=hs.ev x
 rw[hx]at hr
 simp only[Rd]at hr
 obtain ⟨fs,cs,hv,hfs,hcs⟩:=hr
 simp only[RdL]at hfs
 subst hfs
 have hF:∀ j,κ j≠.new→j∈bn:=fun j hj=>Classical.byContradiction fun hn=>hj (by
  have:=hs.obj j
  rw[hbn j hn]at this
  exact this)
 have hrun:(execOp a.eval o).run C.P w=.ok (.defer ⟨.fn (.func g) cs.toArray,#[]⟩) w:=by
  simp[execOp,h,resolve,Deferred.ofValue,hv]
 show o.upon C.P a K _ ((execOp a.eval o).run C.P w)
 rw[hrun,Oper.upon_defer,hd]
 refine hK _ _ (hg ⟨w,κ,[⟨.fn (.func g) cs.toArray,#[]⟩]⟩ hF cs rfl hcs (fun κ2 w2 c2=>hs.ctx.onward c2) κ { a with defers:=_::a.defers } w ⟨?_,hs.size,hs.inv,?_,hs.slot,hs.obj⟩)
 ·show _::a.defers=_
  rw[hs.defers,h0]
 ·have:=Ctx.refl κ w
  exact⟨this.size,this.os,this.tape,this.output,this.M,this.old,this.own,this.nam⟩
end Go.Sy
namespace Go.Sy.YtdkfcckkkfghgaaGreatDoor
open Go.Proofs
attribute [local irreducible] Go.Sy.G Go.Sy.DR
set_option maxRecDepth 100000
set_option maxHeartbeats 4000000
theorem Zm (ae al:Addr) (e:Int) (x:Value) (u:FrameMode) (w:World) (he:w.cell? ae=some (.int .i64 e)) (hl:w.cell? al=some x) (hz:w.frozen? al=false) :
  CallsD Tryz.prog 30 #[.pointer (some ae),.pointer (some al)] u w fun r u' w'=>u'=u∧(r=.returned (.tuple #[])∧w'=if e=0 then w else w.setCell al (.slice none 0 0)):=by
 by_cases h:e=0
 ·subst h
  go_enter_d Tryz.func30,Tryz.ntmps30
  go_wp2
  go_end0
  exact⟨q_,by simp⟩
 ·rw[if_neg h]
  go_enter_d Tryz.func30,Tryz.ntmps30
  go_wp2
  go_end0
  exact⟨q_,q_⟩
theorem Ano {κ0' κ:Ka} {w0 w:World} {k:Nat} {v:Value} {l:List SV} (h0:Rd κ0' w0 (.ptr k 0) v) (hn:κ0' k≠.new→κ k=κ0' k∨κ k=.dead) (ho:ObOK κ w k (.box l)):∃ b,κ k=.blk b∧v=.pointer (some ⟨b,0,none⟩):=by
 obtain ⟨b,cs,T,fr,e1,_⟩:=ho
 refine⟨b,e1,?_⟩
 have hne:κ0' k≠.new:=fun e=>by simp only[Rd,e]at h0
 rcases hn hne with h | h
 ·rw[e1]at h
  simp only[Rd,← h]at h0
  exact h0
 ·rw[e1]at h;cases h
theorem Ap6 {F F2:Fr} {n:Nat} {bn:List Nat} {hbn:∀ k,F2.k0 k≠.new→k∈bn} {k:List KI} {s:SS} {L:List LineM} {row e:Int} {cv:List Value} (hd:F2.ds=[⟨.fn (.func 30) cv.toArray,#[]⟩])
  (hcv:RdL F2.k0 F2.w0 [.ptr 4 0,.ptr 2 0] cv) (hctx:∀ κ w,Ctx F2 κ w→Ctx F κ w) (h2:s.h 2=.box [.sl 17 Ad L]) (h4:s.h 4=.box [Aa e]) (h3:s.σ 3=Aa row) (p2:s.σ 2=.ptr 2 0) (p4:s.σ 4=.ptr 4 0) :
  G ⟨Tryz.prog,Γ.toTy,F2,n,Akl Tryz.prog Tryz.f16 F (.tup [.sl 17 Ad (if e=0 then L else []),Aa row,Aa e]) [],bn,hbn⟩ (.code .ret::k) s:=by
 refine Arm fun κ a w hs=>?_
 have o2:=hs.obj 2
 rw[h2]at o2
 have o4:=hs.obj 4
 rw[h4]at o4
 simp only[RdL]at hcv
 obtain ⟨v4,r4,rfl,hv4,v2,r2,rfl,hv2,rfl⟩:=hcv
 obtain ⟨b4,k4,rfl⟩:=Ano hv4 (hs.ctx.nam 4) o4
 obtain ⟨b2,k2,rfl⟩:=Ano hv2 (hs.ctx.nam 2) o2
 obtain ⟨b2',e1,c1,c2,st1,inv1,ob1⟩:=Ib (off:=0) (x:=.val (.slice none 0 0)) (v:=.slice none 0 0) hs.inv o2 rfl (fun κ w=>by simp only[Rd]) rfl
 have ob1:ObOK κ (w.setCell ⟨b2',0,none⟩ (.slice none 0 0)) 2 (.box [.sl 17 Ad []]):=by
  obtain ⟨b,cs,T,fr,f1,f2,f3,f4,f5⟩:=ob1
  refine⟨b,cs,T,fr,f1,f2,f3,f4,?_⟩
  have f5:RdL κ _ [.val (.slice none 0 0)] cs:=f5
  simp only[RdL,Rd]at f5 ⊢
  obtain ⟨v,r,rfl,rfl,rfl⟩:=f5
  exact⟨_,_,q_,by simp[RdD],q_⟩
 rw[k2]at e1
 cases e1
 obtain ⟨b4',e4,d1,_,_,_,_⟩:=Ib (off:=0) (x:=Aa e) (v:=.int .i64 e) hs.inv o4 rfl (fun κ w=>by simp[Rd,Aa]) rfl
 rw[k4]at e4
 cases e4
 obtain ⟨u4,hu4,hr4⟩:=d1 0 (Aa e) rfl
 have hu4':u4=.int .i64 e:=by simpa [Aa,Rd] using hr4
 subst hu4'
 obtain ⟨u2,hu2,_⟩:=c1 0 _ rfl
 show Leaves Tryz.prog Tryz.f16 a.tmps _ a.defers .returning w
 rw[hs.defers,hd]
 refine leaves_cons (f:=30) (args:=#[.pointer (some ⟨b4,0,none⟩),.pointer (some ⟨b2,0,none⟩)]) qe (by simp[go_sem]) ?_
 refine(Zm ⟨b4,0,none⟩ ⟨b2,0,none⟩ e u2 .returning w hu4 hu2 (c2 0 qe)).mono ?_
 rintro r u' w'' ⟨rfl,rfl,rfl⟩
 by_cases he:e=0
 ·rw[if_pos he,if_pos he]
  obtain ⟨v,g1,g2⟩:=M3 (P:=Tryz.prog) (Γ:=Γ.toTy) hs (fn:=Tryz.f16) (xs:=[.sl 17 Ad L,Aa row,Aa e]) rfl (.cons (.cell p2 h2 rfl rfl) (.cons (h3 ▸ .tmp) (.cons (.cell p4 h4 rfl rfl) .nil)))
  exact⟨v,g1,v,κ,rfl,hctx _ _ hs.ctx,hs.inv,g2,fun p hp=>by cases hp⟩
 ·rw[if_neg he,if_neg he]
  have hs2:St F2 n ⟨s.σ,upd s.h 2 (.box [.sl 17 Ad []])⟩ κ a (w.setCell ⟨b2,0,none⟩ (.slice none 0 0)):=⟨hs.defers,hs.size,inv1,hs.ctx.step inv1 st1,fun i=>Rd.step st1 _ _ (hs.slot i),fun j=>by
   show ObOK κ _ j (upd s.h 2 _ j)
   by_cases hj:j=2
   ·subst hj;exact ob1
   ·have:upd s.h 2 (.box [.sl 17 Ad []]) j=s.h j:=by
     simp only[upd]
     have:Nat.beq j 2=false:=by
      cases hb:Nat.beq j 2
      ·rfl
      ·exact absurd (Nat.eq_of_beq_eq_true hb) hj
     rw[this];rfl
    rw[this]
    exact ObOK.step st1 (show ¬ j=2 from hj) _ (hs.obj j)⟩
  obtain ⟨v,g1,g2⟩:=M3 (P:=Tryz.prog) (Γ:=Γ.toTy) hs2 (fn:=Tryz.f16) (xs:=[.sl 17 Ad [],Aa row,Aa e]) rfl (.cons (.cell p2 rfl rfl rfl) (.cons (h3 ▸ .tmp) (.cons (.cell p4 h4 rfl rfl) .nil)))
  exact⟨v,g1,v,κ,rfl,hctx _ _ hs2.ctx,inv1,g2,fun p hp=>by cases hp⟩
theorem S7 {F F2:Fr} {n:Nat} {bn:List Nat} {hbn:∀ k,F2.k0 k≠.new→k∈bn} {k:List KI} {s:SS} {L L':List LineM} {row e:Int} {cv:List Value} (hd:F2.ds=[⟨.fn (.func 30) cv.toArray,#[]⟩])
  (hcv:RdL F2.k0 F2.w0 [.ptr 4 0,.ptr 2 0] cv) (hctx:∀ κ w,Ctx F2 κ w→Ctx F κ w) (hL:(if e=0 then L else [])=L') (h2:s.h 2=.box [.sl 17 Ad L]) (h4:s.h 4=.box [Aa e]) (h3:s.σ 3=Aa row) (p2:s.σ 2=.ptr 2 0) (p4:s.σ 4=.ptr 4 0) :
  G ⟨Tryz.prog,Γ.toTy,F2,n,Akl Tryz.prog Tryz.f16 F (.tup [.sl 17 Ad L',Aa row,Aa e]) [],bn,hbn⟩ (.code .ret::k) s:=by
 subst hL
 exact Ap6 hd hcv hctx h2 h4 h3 p2 p4
theorem M0:∀ (l cur:List UInt8),∀ s∈D3 cur l,s.size≤cur.length+l.length
 | [],cur,s,hs=>by
  rw[D3]at hs
  split at hs
  ·cases hs
  ·simp at hs;rw[hs,Dg];simp
 | c::l,cur,s,hs=>by
  rw[D3]at hs
  split at hs
  ·rcases List.mem_cons.1 hs with hs | hs
   ·rw[hs,Dg];simp
   ·have:=M0 l [] s hs
    simp at this ⊢;omega
  ·have:=M0 l (cur++[c]) s hs
   simp at this ⊢;omega
theorem Ad2 (b:List UInt8):(rowsT b).1.length≤400∧∀ s∈(rowsT b).1,s.size≤20000:=by
 rw[rowsT]
 split
 ·exact⟨by simp,fun s hs=>by cases hs⟩
 ·rename_i h1
  split
  ·exact⟨by simp,fun s hs=>by cases hs⟩
  ·rename_i h2
   refine⟨by dsimp only;omega,fun s hs=>?_⟩
   have:=M0 b [] s hs
   simp at this;omega
theorem Abg (r:ByteArray) (hr:r.size≤20000):(wordsT r).1.length≤20001∧∀ s∈(wordsT r).1,s.size≤40:=by
 have hl:=Ky r.data.toList []
 have hrs:r.data.toList.length=r.size:=rfl
 rw[wordsT]
 split
 ·rename_i h
  refine⟨by dsimp only;omega,fun s hs=>?_⟩
  rw[List.all_eq_true]at h
  have:=h s hs
  simp only[wordB,Bool.and_eq_true,decide_eq_true_eq]at this
  exact this.1.2
 ·exact⟨by simp,fun s hs=>by cases hs⟩
theorem Akr (b:List UInt8) (hb:b.length≤1000000):Sy.Spec Tryz.prog 16 [.sl 1 A3 b] [] (.tup [.sl 17 Ad (textT b).1,Aa (textT b).2.1,Aa (textT b).2.2]) []:=Amf Γ hm 100 F16 Tryz.ntmps16 rfl fun F hF h0=>by
 have q1:=Alz b hb
 have hres:=textT.eq_1 b
 have hsm:=Ad2 b
 generalize textT b=res at *
 generalize rowsT b=rt at *
 obtain ⟨rows,e0⟩:=rt
 dsimp only at hres hsm q1
 refine T ?_
 refine Aq9 q_ q_ q_ q_ h0 [2,4] (fun j hj=>?_) ?_
 ·simp only[List.mem_cons,List.not_mem_nil,or_false,not_or]at hj
  have n2:Nat.beq j 2=false:=by
   cases hb:Nat.beq j 2
   ·rfl
   ·exact absurd (Nat.eq_of_beq_eq_true hb) hj.1
  have n4:Nat.beq j 4=false:=by
   cases hb:Nat.beq j 4
   ·rfl
   ·exact absurd (Nat.eq_of_beq_eq_true hb) hj.2
  simp[SS.upd,Ms,upd,mkh,n2,n4]
 intro F2 hF2 cv hd hcv hctx
 refine T ?_
 refine C q1 F31 ?_
 cases hz:(e0 != 0)
 rotate_left
 ·have he:e0≠0:=by simpa using hz
  rw[if_pos he]at hres
  subst hres
  refine T ?_
  refine Am 2 [.sl 17 Ad []] q_ (.cons .nil .nil) ?_
  exact S7 (L:=[]) hd hcv hctx qe q_ q_ q_ q_ q_
 have he0:e0=0:=by simpa using hz
 rw[if_neg (by simp[he0])]at hres
 subst he0
 obtain ⟨hlen,hsz⟩:=hsm
 refine T ?_
 refine Agn 2 0 1000 17 Ad q_ q_ q_ q_ ?_
 refine Bk (fun x:Nat × List LineM=>res=Uz x.1 (rows.drop x.1) x.2∧x.1≤rows.length∧x.2.length≤x.1) (fun x=>[(2,.ptr 2 0),(4,.ptr 4 0),(20,.sl 1 Ae rows),(21,Aa rows.length),(22,Aa x.1)]) (fun x=>[(2,.box [.osl 1000]),(4,.box [Aa 0]),(1000,.row 17 Ad x.2)]) (fun x=>rows.length-x.1) (0,[]) [] ⟨hres,by simp,by simp⟩ U ?_
 rintro ⟨j,out⟩ ⟨hI,hj,hol⟩
 dsimp only at hI hj hol ⊢
 refine T ?_
 refine⟨fun h=>?_,fun h=>?_⟩
 ·have hlt:j<rows.length:=qA h
  have hlt0:((j:Nat):Int).toNat<rows.length:=hlt
  have hr:(rows[((j:Nat):Int).toNat]'hlt0).size≤20000:=hsz _ (List.getElem_mem _)
  have hdr:rows.drop j=rows[((j:Nat):Int).toNat]'hlt0::rows.drop (j+1):=List.drop_eq_getElem_cons hlt
  rw[hdr,Uz]at hI
  clear h
  have q2:=Ail (rows[((j:Nat):Int).toNat]'hlt0) j_
  have hws:=Abg (rows[((j:Nat):Int).toNat]'hlt0) hr
  generalize wordsT (rows[((j:Nat):Int).toNat]'hlt0)=wt at *
  obtain ⟨ws,we⟩:=wt
  dsimp only at hI hws q2
  cases hz:(we != 0)
  rotate_left
  ·have he:we≠0:=by simpa using hz
   rw[if_pos he]at hI
   subst hI
   refine T ?_
   refine C q2 F32 ?_
   refine Am 2 [.sl 17 Ad []] q_ (.cons .nil .nil) ?_
   exact S7 (L:=[]) hd hcv hctx qe q_ q_ q_ q_ q_
  have he:we=0:=by simpa using hz
  rw[if_neg (by simp[he])]at hI
  by_cases hw0:ws.length=0
  ·rw[if_pos (List.eq_nil_of_length_eq_zero hw0)]at hI
   have f0:((ws.length:Int) == 0)=true:=by rw[hw0];rfl
   refine T ?_
   refine C q2 F32 ?_
   exact Ar (j+1,out) [] ⟨hI,hlt,by dsimp only;omega⟩ (by dsimp only;omega) U
  ·rw[if_neg (fun e=>hw0 (by rw[e];rfl))]at hI
   have f0:((ws.length:Int) == 0)=false:=by rw[beq_eq_false_iff_ne];omega
   have q3:=Akx ws ((j:Int)+1) j_ hws.2
   generalize B5 ws ((j:Int)+1)=st at *
   obtain ⟨l,se⟩:=st
   dsimp only at hI q3
   cases hz2:(se != 0)
   rotate_left
   ·have he2:se≠0:=by simpa using hz2
    rw[if_pos he2]at hI
    subst hI
    refine T ?_
    refine C q2 F32 ?_
    refine C q3 F33 ?_
    refine Ai 1000 q_ ?_
    exact S7 (L:=out) hd hcv hctx (if_neg he2) q_ q_ q_ q_ q_
   ·have he2:se=0:=by simpa using hz2
    rw[if_neg (by simp[he2])]at hI
    refine T ?_
    refine C q2 F32 ?_
    refine C q3 F33 ?_
    refine X (Aj Γ.toTy 56 q_ q_ q_ q_ q_ (.row q_) (.lit (e:=Ad) (l:=[l]) q_ q_) qe (by simp;omega) (by simp;omega)) ?_
    exact Ar (j+1,out++[l]) [(1000,56)] ⟨hI,hlt,by simp;omega⟩ (by dsimp only;omega) U
 ·have hje:j=rows.length:=qB h
  subst hje
  rw[List.drop_length,Uz]at hI
  subst hI
  clear h
  refine T ?_
  refine Ai 1000 q_ ?_
  exact S7 (L:=out) hd hcv hctx (if_pos q_) q_ q_ q_ q_ q_
theorem My:∀ (l:List ByteArray) (k:Nat),(∀ x∈l,x.size≤k)→Li l≤k * l.length
 | [],k,_=>by simp[Li]
 | x::l,k,h=>by
  have h1:=h x qe
  have h2:=My l k (fun y hy=>h y (by simp[hy]))
  simp only[Li,List.map_cons,List.sum_cons,List.length_cons]at h2 ⊢
  rw[Nat.mul_succ]
  omega
theorem Afb {l:List Int} (hl:l.length≤100000) (h:∀ x∈l,Ei x):(Yi l).size≤20000000:=by
 have h1:=Sv (l.map Ci) comma
 have h2:=Mx (tx:=Ci) l (fun x hx=>by have:=Jk (h x hx);omega)
 have h3:comma.size=1:=rfl
 rw[List.length_map,h3]at h1
 rw[Yi];omega
theorem Mw {l:List Int} (hl:l.length≤100000) (h:∀ x∈l,Ei x):(H1 l).size≤20000000:=by
 rw[H1]
 split
 ·decide
 ·exact Afb hl h
theorem Adl {l:List Int} (hl:l.length≤100000):(Mj l).size≤20000000:=by
 have h1:=Sv (l.map Hn) comma
 have h2:=Mx (tx:=Hn) l (fun x _=>Jz x)
 have h3:comma.size=1:=rfl
 rw[List.length_map,h3]at h1
 rw[Mj];omega
theorem Aig (m:Int):(Od m).size≤20000000:=by
 have:=Yg m.toNat 6
 rw[Od,Dg];omega
theorem Zr (a b:Int):(Jh a b).size≤20000000:=by
 rw[Jh]
 split
 ·have h1:=Jz a
  have h2:=Dx 2 b.toNat j_
  rw[Dg,List.length_append,List.length_append,List.length_reverse]
  have:(Hn a).data.toList.length=(Hn a).size:=rfl
  simp;omega
 ·decide
theorem Vr {l:LineM} (h:LineX l):(Eb l).length≤7∧∀ x∈Eb l,x.size≤20000000:=by
 have hd:=h.w.dev;have hp:=h.w.port;have hpe:=h.w.peer;have hf:=h.w.far;have hn:=h.w.name
 have nv:=Jk h.vlan
 have nn:=Jk h.num
 have nc:=Jk h.cost
 have s1:=Mw h.w.fin.t h.tagged
 have s2:=Mw h.w.fin.i h.imports
 have s3:=Mw h.w.fin.e h.exports
 have s4:=Adl (l:=l.addrs) h.w.fin.a
 have s5:=Aig l.mac
 have s6:=Zr l.addr l.bits
 have s7:=Jz l.addr
 have z1:accessT.size=6:=rfl
 have z2:trunkT.size=5:=rfl
 have z3:dash.size=1:=rfl
 have lz:∀ a:Array UInt8,a.size≤20→(⟨a⟩:ByteArray).size≤20000000:=fun a ha=>Nat.le_trans ha qd
 generalize e:Eb l=ws
 rw[Eb,Bv,Sh]at e
 repeat' split at e
 all_goals subst e
 all_goals refine⟨by simp,?_⟩
 all_goals try simp only[List.forall_mem_cons]
 all_goals repeat' apply And.intro
 all_goals first | omega | (split<;>omega) | (exact lz _ qd) | (intro x hx;cases hx)
theorem Afh {l:LineM} (h:LineX l):(Jo (Eb l) space).size≤150000000:=by
 obtain ⟨h1,h2⟩:=Vr h
 have h3:=Sv (Eb l) space
 have h4:=My _ _ h2
 have h5:space.size=1:=rfl
 rw[h5]at h3
 have:20000000 * (Eb l).length≤20000000 * 7:=Nat.mul_le_mul_left _ h1
 omega
theorem Agq (l:LineM):Eb l=[]↔Ao l=false:=by
 rw[Eb]
 cases hr:Ao l with
 | false=>simp
 | true =>
  have hk:=Xt hr
  rw[if_pos rfl]
  constructor
  ·intro e
   exfalso
   rcases (by omega:l.kind=1∨l.kind=2∨l.kind=3∨l.kind=4∨l.kind=5∨l.kind=6∨l.kind=7∨l.kind=8∨l.kind=9) with h9 | h9 | h9 | h9 | h9 | h9 | h9 | h9 | h9
   all_goals (simp(config:={decide:=true}) only [Bv,h9,Sh,if_true,if_false]at e)
   all_goals (repeat' split at e)
   all_goals first | (simp at e;done) | omega | (exact absurd e qe)
  ·intro e;cases e
theorem Al0 (l:List ByteArray) (h0:l.length≤100000) (h1:Li l≤10000000000):Sy.Spec Tryz.prog 67 [.sl 1 Ae l] [] (Ae (Jo l space)) []:=cT F67 Tryz.ntmps67 fun F hF=>by
 have q:=Xn l space j_ j_ (by show 1 * l.length≤_;omega)
 generalize Jo l space=r at *
 refine T ?_
 refine C q F117 ?_
 exact D
theorem Ah0 (l:LineM) (h:LineX l):Sy.Spec Tryz.prog 34 [Ad l] [] (.tup [Ae (if Ao l=true then Jo (Eb l) space else ⟨#[]⟩),Aa (if Ao l=true then 0 else 2)]) []:=cT F34 Tryz.ntmps34 fun F hF=>by
 have q1:=Aek l h
 obtain ⟨z1,z2⟩:=Vr h
 have z3:=My _ _ z2
 have z4:20000000 * (Eb l).length≤20000000 * 7:=Nat.mul_le_mul_left _ z1
 have q2:=Al0 (Eb l) j_ j_
 have hn:=Agq l
 generalize Eb l=ws at *
 cases hr:Ao l with
 | true =>
  rw[if_pos rfl,if_pos rfl]
  have hne:ws.length≠0:=fun e=>by
   have:=hn.1 (List.eq_nil_of_length_eq_zero e)
   rw[hr]at this;cases this
  have f0:((ws.length:Int) == 0)=false:=by rw[beq_eq_false_iff_ne];omega
  refine T ?_
  refine C q1 F66 ?_
  refine C q2 F67 ?_
  exact D
 | false =>
  rw[if_neg qe,if_neg qe]
  have he:ws=[]:=hn.2 hr
  subst he
  refine T ?_
  refine C q1 F66 ?_
  exact D
theorem Ael (x:LineM) (r:List LineM) (b:List UInt8) (h:Ao x=false):Ha (x::r) b=([],2):=by
 rw[Ha,if_pos h]
theorem Ab5 (x:LineM) (r:List LineM) (b:List UInt8) (h:Ao x=true):Ha (x::r) b=Ha r (b++(Jo (Eb x) space).data.toList++[10]):=by
 rw[Ha,if_neg (by rw[h];simp),Eb,if_pos h]
theorem Ahy (l:List LineM) (h:∀ x∈l,LineX x) (hl:l.length≤100000):Sy.Spec Tryz.prog 17 [.sl 17 Ad l] [] (.tup [.sl 1 A3 (plainT l).1,Aa (plainT l).2]) []:=cT F17 Tryz.ntmps17 fun F hF=>by
 have hres:=plainT.eq_1 l
 generalize plainT l=res at *
 refine T ?_
 refine C0 4 1000 1 A3 q_ q_ ?_
 refine T ?_
 refine Bk (fun x:Nat × List UInt8=>Ha l []=Ha (l.drop x.1) x.2∧x.1≤l.length∧x.2.length≤200000000 * x.1) (fun x=>[(0,.sl 17 Ad l),(4,.osl 1000),(9,.sl 17 Ad l),(10,Aa l.length),(11,Aa x.1)]) (fun x=>[(1000,.row 1 A3 x.2)]) (fun x=>l.length-x.1) (0,[]) [] ⟨q_,by simp,by simp⟩ U ?_
 rintro ⟨j,b⟩ ⟨hI,hj,hbl⟩
 dsimp only at hI hj hbl ⊢
 refine T ?_
 refine⟨fun h2=>?_,fun h2=>?_⟩
 ·have hlt:j<l.length:=by have:=of_decide_eq_true h2;omega
  have hlt0:((j:Nat):Int).toNat<l.length:=hlt
  clear h2
  have hdr:l.drop j=l[((j:Nat):Int).toNat]'hlt0::l.drop (j+1):=List.drop_eq_getElem_cons hlt
  have hx:=h (l[((j:Nat):Int).toNat]'hlt0) (List.getElem_mem _)
  have q:=Ah0 _ hx
  have hsz:=Afh hx
  rw[hdr]at hI
  have hjb:200000000 * j≤200000000 * 100000:=Nat.mul_le_mul_left _ j_
  cases hr:Ao (l[((j:Nat):Int).toNat]'hlt0) with
  | false =>
   rw[hr,if_neg qe,if_neg qe]at q
   rw[Ael _ _ _ hr]at hI
   rw[hI,if_pos qd]at hres
   subst hres
   refine T ?_
   refine C q F34 ?_
   refine Db 2 1 A3 q_ ?_
   refine T ?_
   exact D
  | true =>
   rw[hr,if_pos rfl,if_pos rfl]at q
   rw[Ab5 _ _ _ hr]at hI
   generalize Jo (Eb (l[((j:Nat):Int).toNat]'hlt0)) space=t at *
   have htl:t.data.toList.length=t.size:=rfl
   refine T ?_
   refine C q F34 ?_
   refine X (Ac2 Γ.toTy 25 q_ q_ q_ q_ q_ q_ q_ (.row q_) q_ qd j_ j_) ?_
   refine X (Aj Γ.toTy 27 q_ q_ q_ q_ q_ (.row q_) (.lit (e:=A3) (l:=[10]) q_ q_) qd (by simp;omega) (by simp;omega)) ?_
   refine Ar (j+1,b++t.data.toList++[10]) [(1000,27)] ⟨hI,hlt,?_⟩ (by dsimp only;omega) U
   simp only[List.length_append,List.length_singleton,htl]
   omega
 ·have hje:j=l.length:=by have:=of_decide_eq_false h2;omega
  subst hje
  clear h2
  rw[List.drop_length,Ha]at hI
  rw[hI]at hres
  dsimp only at hres
  rw[if_neg qe]at hres
  by_cases c1:400<l.length
  ·rw[if_pos (.inl c1)]at hres
   have f1:decide ((l.length:Int)>400)=true:=decide_eq_true j_
   subst hres
   refine T ?_
   refine Db 2 1 A3 q_ ?_
   refine T ?_
   exact D
  ·have f1:decide ((l.length:Int)>400)=false:=decide_eq_false j_
   by_cases c2:20000<b.length
   ·rw[if_pos (.inr c2)]at hres
    have f2:decide ((b.length:Int)>20000)=true:=decide_eq_true j_
    subst hres
    refine T ?_
    refine Db 2 1 A3 q_ ?_
    refine T ?_
    exact D
   ·rw[if_neg j_]at hres
    have f2:decide ((b.length:Int)>20000)=false:=decide_eq_false j_
    subst hres
    refine T ?_
    refine Ai 1000 q_ ?_
    refine T ?_
    exact D
def Eu (k:Nat) (l:List LineM):List LineM:=Jg (l.take k)++l.drop k
theorem Ahp (k:Nat) (l:List LineM):(Eu k l).length=l.length:=by
 rw[Eu,List.length_append,I7,← List.length_append,List.take_append_drop]
theorem Ad4 (l:List LineM):Eu 0 l=l:=by simp[Eu,Jg]
theorem Ahq (l:List LineM):Eu l.length l=Jg l:=by simp[Eu]
theorem Ak8 {k:Nat} {l:List LineM} (h:k<l.length) (h2:k<(Eu k l).length):(Eu k l)[k]'h2=l[k]:=by
 have e:(Jg (l.take k)).length=k:=by rw[I7,List.length_take];omega
 simp only[Eu]
 rw[List.getElem_append_right j_]
 simp only[e,Nat.sub_self,List.getElem_drop,Nat.add_zero]
theorem Ad5 {k:Nat} {l:List LineM} (h:k<l.length):Eu (k+1) l=(Eu k l).set k { l[k] with row:=(k:Int)+1 }:=by
 have e:(Jg (l.take k)).length=k:=by rw[I7,List.length_take];omega
 rw[Eu,Eu,List.take_succ_eq_append_getElem h,List.set_append_right _ _ j_,e,Nat.sub_self,List.drop_eq_getElem_cons h,List.set_cons_zero]
 have:Jg (l.take k++[l[k]])=Jg (l.take k)++[{ l[k] with row:=(k:Int)+1 }]:=by
  unfold Jg
  rw[List.mapIdx_append]
  have:(l.take k).length=k:=by rw[List.length_take];omega
  simp[this]
 rw[this]
 simp
theorem X1 (M:List LineM) (h:∀ x∈M,LineFin x) (hl:M.length<100000):Sy.Spec Tryz.prog 7 [.sl 17 Ad M] [] (.sl 17 Ad (A6 M)) []:=cT F7 Tryz.ntmps7 fun F hF=>by
 have hsl:A6 M=Jg (Bo Jm M):=rfl
 have hlen:=D2 Jm M
 generalize A6 M=res at *
 refine T ?_
 refine C0 3 1000 17 Ad q_ q_ ?_
 refine T ?_
 refine Bk (fun j:Nat=>j≤M.length) (fun j=>[(0,.sl 17 Ad M),(3,.osl 1000),(7,.sl 17 Ad M),(8,Aa M.length),(9,Aa j)]) (fun j=>[(1000,.row 17 Ad (M.take j))]) (fun j=>M.length-j) 0 [] qe U ?_
 intro j hj
 have htl:(M.take j).length=j:=by rw[List.length_take];omega
 refine T ?_
 refine⟨fun h2=>?_,fun h2=>?_⟩
 ·have hlt:j<M.length:=by have:=of_decide_eq_true h2;omega
  have hlt0:((j:Nat):Int).toNat<M.length:=hlt
  clear h2
  have hdr:M.take (j+1)=M.take j++[M[((j:Nat):Int).toNat]'hlt0]:=List.take_succ_eq_append_getElem hlt
  have q:=Aky (M[((j:Nat):Int).toNat]'hlt0) (h _ (List.getElem_mem _))
  generalize M.take j=Q at *
  refine T ?_
  refine C q F12 ?_
  refine X (Aj Γ.toTy 17 q_ q_ q_ q_ q_ (.row q_) (.lit (e:=Ad) (l:=[M[((j:Nat):Int).toNat]'hlt0]) q_ q_) qe (by simp;omega) (by simp;omega)) ?_
  exact Ar (j+1) [(1000,17)] hlt j_ ⟨⟨q_,q_,q_,q_,q_,q_,q_,q_,q_,q_,z_⟩,⟨.inl (congrArg (Ob.row 17 Ad) hdr),q_,z_⟩,q_,q_⟩
 ·have hje:j=M.length:=by have:=of_decide_eq_false h2;omega
  subst hje
  clear h2
  rw[List.take_length]
  have q:=Am8 Qz LineFin 14 [] [] rfl (fun a b ha hb=>⟨⟨_,_,F14⟩,Aeq a b ha hb⟩) Jm rfl lineB_ordy M h j_
  generalize Bo Jm M=Y at *
  have hl2:M.length=Y.length:=hlen.symm
  refine T ?_
  refine X (Ac [(0,1000)] q_ F13 q q_ ⟨q_,z_⟩ q_ ⟨.inl q_,z_⟩) ?_
  refine T ?_
  refine Bk (fun j:Nat=>j≤Y.length) (fun j=>[(3,.osl 1000),(22,Aa Y.length),(23,Aa j)]) (fun j=>[(1000,.row 17 Ad (Eu j Y))]) (fun j=>Y.length-j) 0 [] qe ⟨⟨q_,q_,q_,q_,q_,q_,z_⟩,⟨.inl (congrArg (Ob.row 17 Ad) (Ad4 Y)),q_,z_⟩,q_,q_⟩ ?_
  intro j hj
  have hrl:=Ahp j Y
  refine T ?_
  refine⟨fun h2=>?_,fun h2=>?_⟩
  ·have hlt:j<Y.length:=by have:=of_decide_eq_true h2;omega
   have hlt0:((j:Nat):Int).toNat<(Eu j Y).length:=by show j<_;omega
   clear h2
   have hnx:=Ad5 hlt
   have hne:Eu j Y≠[]:=fun e=>by rw[e]at hrl;simp at hrl;omega
   have hat:(Eu j Y)[((j:Nat):Int).toNat]'hlt0=Y[j]:=Ak8 hlt _
   generalize Y[j]=l at *
   generalize Eu j Y=R at *
   refine T ?_
   rw[← hat]at hnx
   clear hat
   refine⟨hne,?_⟩
   refine T ?_
   refine⟨{ (R[((j:Nat):Int).toNat]'hlt0) with row:=(j:Int)+1 },rfl,rfl,?_⟩
   refine T ?_
   exact Ar (j+1) [] hlt j_ ⟨⟨q_,q_,q_,q_,q_,q_,z_⟩,⟨.inl (congrArg (Ob.row 17 Ad) hnx),q_,z_⟩,q_,q_⟩
  ·have hje:j=Y.length:=by have:=of_decide_eq_false h2;omega
   subst hje
   clear h2
   rw[Ahq,← hsl]
   refine Ai 1000 q_ ?_
   refine T ?_
   exact D
theorem Adx {M:List LineM} (h:∀ x∈M,LineX x):∀ x∈A6 M,LineX x:=by
 intro x hx
 rw[A6,Jg,List.mem_mapIdx]at hx
 obtain ⟨i,hi,rfl⟩:=hx
 obtain ⟨⟨⟨a1,a2,a3,a4⟩,b2,b3,b4,b5,b6,b7⟩,c1,c2,c3,c4,c5,c6⟩:=h _ (Kg _ _ _ (List.getElem_mem hi))
 exact⟨⟨⟨a1,a2,a3,a4⟩,⟨b2.mac,b2.addr,b2.addrs⟩,b3,b4,b5,b6,b7⟩,c1,c2,c3,c4,c5,c6⟩
theorem Ah7 (b:List UInt8) (hb:b.length≤1000000) (h:∀ x∈(textT b).1,LineX x) (hl:(textT b).1.length<100000):Sy.Spec Tryz.prog 8 [.sl 1 A3 b] [] (.tup [.sl 1 A3 (orderT b).1,Aa (orderT b).2.1,Aa (orderT b).2.2]) []:=cT F8 Tryz.ntmps8 fun F hF=>by
 have q1:=Akr b hb
 have q2:=X1 (textT b).1 (fun x hx=>(h x hx).w.fin) hl
 have hsl:(A6 (textT b).1).length=(textT b).1.length:=Zk _
 have q3:=Ahy (A6 (textT b).1) (Adx h) j_
 have hres:=orderT.eq_1 b
 generalize orderT b=res at *
 generalize textT b=tt at *
 obtain ⟨M,r,e⟩:=tt
 dsimp only at q1 q2 q3 hres
 generalize A6 M=Y at *
 generalize plainT Y=pt at *
 obtain ⟨o,oe⟩:=pt
 dsimp only at q3 hres
 cases hz:(e != 0) with
 | true =>
  have he:e≠0:=by simpa using hz
  rw[if_pos he]at hres
  subst hres
  refine T ?_
  refine C q1 F16 ?_
  refine Db 2 1 A3 q_ ?_
  refine T ?_
  exact D
 | false =>
  have he:e=0:=by simpa using hz
  rw[if_neg (by simp[he])]at hres
  subst hres
  refine T ?_
  refine C q1 F16 ?_
  refine C q2 F7 ?_
  refine C q3 F17 ?_
  exact D
end Go.Sy.YtdkfcckkkfghgaaGreatDoor
