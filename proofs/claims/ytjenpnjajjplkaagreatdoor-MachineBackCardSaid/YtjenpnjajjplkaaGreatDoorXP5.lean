/-
  I33 I34 I35 I27 I28 Sy34 Sy35 Sy36 Sy37 Sy38 Sy39 Sy40 I29 I30 I36 I39 I38 I40 I42 I43 I44 I45 Sy23 O1 O6 I46 M3 M4 M5 M6 M7 M8 M9 M10 M11 O3 M16 M17: parts of a proof, joined by program.
-/
import Derived.Test.YtjenpnjajjplkaaGreatDoorXP4
import Derived.Test.YtjenpnjajjplkaaGreatDoorXP3
import Derived.Laws.LoneSync
import Derived.Test.YtjenpnjajjplkaaGreatDoorXP2
import Derived.Defers
import Derived.Tactics
import Derived.Tactics2
import Derived.Laws.Pointers
import Derived.RegionTactic
import Derived.RegionCalls
set_option linter.all false
set_option linter.unusedVariables false
set_option linter.unusedSimpArgs false
set_option linter.deprecated false
namespace Go.Sy.YtjenpnjajjplkaaGreatDoor
open Go.Proofs
attribute [local irreducible] Go.Sy.G Go.Sy.DR
set_option maxRecDepth 100000
set_option maxHeartbeats 4000000
structure LineW (l:LineM):Prop where
 fin:LineFin l
 ok:LineOK l
 dev:l.dev.size≤100000
 port:l.port.size≤100000
 peer:l.peer.size≤100000
 far:l.far.size≤100000
 name:l.name.size≤100000
theorem Aao (l:LineM) (hw:LineW l) (hk:l.kind=1):Sy.Spec Tryz.prog 410 [Ap l] [] (.tup [Ap (Ay l).1,Ab (Ay l).2]) []:=cT F410 Tryz.ntmps410 fun F hF=>by
 have hU:Ay l=({ lineZ with row:=l.row,kind:=1,dev:=l.dev,num:=l.num,mac:=l.mac },(A9 l.num 0 65535 && statB l.mac)):=by
  simp only[Ay,hk]
  rfl
 rw[hU]
 have q0:=Cv l.num 0 65535
 have q1:Sy.Spec Tryz.prog 301 [Hq l.mac] [] (Ab (statB l.mac)) []:=by
  have:=hw.ok.mac
  obtain ⟨m,hm1⟩:∃ m:Nat,l.mac=m:=⟨l.mac.toNat,by omega⟩
  rw[hm1];exact Xy m q_
 obtain ⟨row,kind,dev,port,peer,far,name,mac,addr,bits,vlan,num,cost,tagged,imports,exports,addrs⟩:=l
 dsimp only at hk q0 q1 ⊢
 subst hk
 clear hU hw
 generalize A9 num 0 65535=b0 at *
 generalize statB mac=b1 at *
 cases b0
 ·rw[Bool.false_and]
  refine T ?_
  refine C q0 F439 ?_
  refine Ag 2 (C3 { lineZ with row:=row,kind:=1,dev:=dev,num:=num,mac:=mac }) rfl (.cons (.refl _) (.cons (.refl _) (.cons (.refl _) (.cons (.refl _) (.cons (.refl _) (.cons (.refl _) (.cons (.refl _) (.cons (.refl _) (.cons (.refl _) (.cons (.refl _) (.cons (.refl _) (.cons (.refl _) (.cons (.refl _) (.cons .nil (.cons .nil (.cons .nil (.cons .nil .nil))))))))))))))))) ?_
  refine T ?_
  exact D
 rw[Bool.true_and]
 refine T ?_
 refine C q0 F439 ?_
 refine C q1 F301 ?_
 refine Ag 2 (C3 { lineZ with row:=row,kind:=1,dev:=dev,num:=num,mac:=mac }) rfl (.cons (.refl _) (.cons (.refl _) (.cons (.refl _) (.cons (.refl _) (.cons (.refl _) (.cons (.refl _) (.cons (.refl _) (.cons (.refl _) (.cons (.refl _) (.cons (.refl _) (.cons (.refl _) (.cons (.refl _) (.cons (.refl _) (.cons .nil (.cons .nil (.cons .nil (.cons .nil .nil))))))))))))))))) ?_
 refine T ?_
 exact D
theorem Aan (l:LineM) (hw:LineW l) (hk:l.kind=2):Sy.Spec Tryz.prog 410 [Ap l] [] (.tup [Ap (Ay l).1,Ab (Ay l).2]) []:=cT F410 Tryz.ntmps410 fun F hF=>by
 have hU:Ay l=({ lineZ with row:=l.row,kind:=2,dev:=l.dev,port:=l.port,cost:=l.cost,vlan:=l.vlan,tagged:=l.tagged },(Be l.port && (A9 l.cost 1 65535 && (A9 l.vlan 0 4094 && (Dn l.tagged 4094 && membersB l.vlan l.tagged))))):=by
  simp only[Ay,hk]
  rfl
 rw[hU]
 have q0:=Er l.port (by have:=hw.port;omega)
 have q1:=Cv l.cost 1 65535
 have q2:=Cv l.vlan 0 4094
 have q3:=Oz l.tagged 4094 hw.fin.t
 have q4:=V6 l (by have:=hw.fin.t;simp only[Aq];omega)
 obtain ⟨row,kind,dev,port,peer,far,name,mac,addr,bits,vlan,num,cost,tagged,imports,exports,addrs⟩:=l
 dsimp only at hk q0 q1 q2 q3 q4 ⊢
 subst hk
 clear hU hw
 generalize Be port=b0 at *
 generalize A9 cost 1 65535=b1 at *
 generalize A9 vlan 0 4094=b2 at *
 generalize Dn tagged 4094=b3 at *
 generalize membersB vlan tagged=b4 at *
 cases b0
 ·rw[Bool.false_and]
  refine T ?_
  refine C q0 F299 ?_
  refine Ag 2 (C3 { lineZ with row:=row,kind:=2,dev:=dev,port:=port,cost:=cost,vlan:=vlan,tagged:=tagged }) rfl (.cons (.refl _) (.cons (.refl _) (.cons (.refl _) (.cons (.refl _) (.cons (.refl _) (.cons (.refl _) (.cons (.refl _) (.cons (.refl _) (.cons (.refl _) (.cons (.refl _) (.cons (.refl _) (.cons (.refl _) (.cons (.refl _) (.cons (.refl _) (.cons .nil (.cons .nil (.cons .nil .nil))))))))))))))))) ?_
  refine T ?_
  exact D
 rw[Bool.true_and]
 cases b1
 ·rw[Bool.false_and]
  refine T ?_
  refine C q0 F299 ?_
  refine C q1 F439 ?_
  refine Ag 2 (C3 { lineZ with row:=row,kind:=2,dev:=dev,port:=port,cost:=cost,vlan:=vlan,tagged:=tagged }) rfl (.cons (.refl _) (.cons (.refl _) (.cons (.refl _) (.cons (.refl _) (.cons (.refl _) (.cons (.refl _) (.cons (.refl _) (.cons (.refl _) (.cons (.refl _) (.cons (.refl _) (.cons (.refl _) (.cons (.refl _) (.cons (.refl _) (.cons (.refl _) (.cons .nil (.cons .nil (.cons .nil .nil))))))))))))))))) ?_
  refine T ?_
  exact D
 rw[Bool.true_and]
 cases b2
 ·rw[Bool.false_and]
  refine T ?_
  refine C q0 F299 ?_
  refine C q1 F439 ?_
  refine C q2 F439 ?_
  refine Ag 2 (C3 { lineZ with row:=row,kind:=2,dev:=dev,port:=port,cost:=cost,vlan:=vlan,tagged:=tagged }) rfl (.cons (.refl _) (.cons (.refl _) (.cons (.refl _) (.cons (.refl _) (.cons (.refl _) (.cons (.refl _) (.cons (.refl _) (.cons (.refl _) (.cons (.refl _) (.cons (.refl _) (.cons (.refl _) (.cons (.refl _) (.cons (.refl _) (.cons (.refl _) (.cons .nil (.cons .nil (.cons .nil .nil))))))))))))))))) ?_
  refine T ?_
  exact D
 rw[Bool.true_and]
 cases b3
 ·rw[Bool.false_and]
  refine T ?_
  refine C q0 F299 ?_
  refine C q1 F439 ?_
  refine C q2 F439 ?_
  refine C q3 F440 ?_
  refine Ag 2 (C3 { lineZ with row:=row,kind:=2,dev:=dev,port:=port,cost:=cost,vlan:=vlan,tagged:=tagged }) rfl (.cons (.refl _) (.cons (.refl _) (.cons (.refl _) (.cons (.refl _) (.cons (.refl _) (.cons (.refl _) (.cons (.refl _) (.cons (.refl _) (.cons (.refl _) (.cons (.refl _) (.cons (.refl _) (.cons (.refl _) (.cons (.refl _) (.cons (.refl _) (.cons .nil (.cons .nil (.cons .nil .nil))))))))))))))))) ?_
  refine T ?_
  exact D
 rw[Bool.true_and]
 refine T ?_
 refine C q0 F299 ?_
 refine C q1 F439 ?_
 refine C q2 F439 ?_
 refine C q3 F440 ?_
 refine C q4 F302 ?_
 refine Ag 2 (C3 { lineZ with row:=row,kind:=2,dev:=dev,port:=port,cost:=cost,vlan:=vlan,tagged:=tagged }) rfl (.cons (.refl _) (.cons (.refl _) (.cons (.refl _) (.cons (.refl _) (.cons (.refl _) (.cons (.refl _) (.cons (.refl _) (.cons (.refl _) (.cons (.refl _) (.cons (.refl _) (.cons (.refl _) (.cons (.refl _) (.cons (.refl _) (.cons (.refl _) (.cons .nil (.cons .nil (.cons .nil .nil))))))))))))))))) ?_
 refine T ?_
 exact D
theorem Aam (l:LineM) (hw:LineW l) (hk:l.kind=3):Sy.Spec Tryz.prog 410 [Ap l] [] (.tup [Ap (Ay l).1,Ab (Ay l).2]) []:=cT F410 Tryz.ntmps410 fun F hF=>by
 have hU:Ay l=({ lineZ with row:=l.row,kind:=3,dev:=l.dev,port:=l.port,peer:=l.peer,far:=l.far },(Be l.port && (Be l.peer && Be l.far))):=by
  simp only[Ay,hk]
  rfl
 rw[hU]
 have q0:=Er l.port (by have:=hw.port;omega)
 have q1:=Er l.peer (by have:=hw.peer;omega)
 have q2:=Er l.far (by have:=hw.far;omega)
 obtain ⟨row,kind,dev,port,peer,far,name,mac,addr,bits,vlan,num,cost,tagged,imports,exports,addrs⟩:=l
 dsimp only at hk q0 q1 q2 ⊢
 subst hk
 clear hU hw
 generalize Be port=b0 at *
 generalize Be peer=b1 at *
 generalize Be far=b2 at *
 cases b0
 ·rw[Bool.false_and]
  refine T ?_
  refine C q0 F299 ?_
  refine Ag 2 (C3 { lineZ with row:=row,kind:=3,dev:=dev,port:=port,peer:=peer,far:=far }) rfl (.cons (.refl _) (.cons (.refl _) (.cons (.refl _) (.cons (.refl _) (.cons (.refl _) (.cons (.refl _) (.cons (.refl _) (.cons (.refl _) (.cons (.refl _) (.cons (.refl _) (.cons (.refl _) (.cons (.refl _) (.cons (.refl _) (.cons .nil (.cons .nil (.cons .nil (.cons .nil .nil))))))))))))))))) ?_
  refine T ?_
  exact D
 rw[Bool.true_and]
 cases b1
 ·rw[Bool.false_and]
  refine T ?_
  refine C q0 F299 ?_
  refine C q1 F299 ?_
  refine Ag 2 (C3 { lineZ with row:=row,kind:=3,dev:=dev,port:=port,peer:=peer,far:=far }) rfl (.cons (.refl _) (.cons (.refl _) (.cons (.refl _) (.cons (.refl _) (.cons (.refl _) (.cons (.refl _) (.cons (.refl _) (.cons (.refl _) (.cons (.refl _) (.cons (.refl _) (.cons (.refl _) (.cons (.refl _) (.cons (.refl _) (.cons .nil (.cons .nil (.cons .nil (.cons .nil .nil))))))))))))))))) ?_
  refine T ?_
  exact D
 rw[Bool.true_and]
 refine T ?_
 refine C q0 F299 ?_
 refine C q1 F299 ?_
 refine C q2 F299 ?_
 refine Ag 2 (C3 { lineZ with row:=row,kind:=3,dev:=dev,port:=port,peer:=peer,far:=far }) rfl (.cons (.refl _) (.cons (.refl _) (.cons (.refl _) (.cons (.refl _) (.cons (.refl _) (.cons (.refl _) (.cons (.refl _) (.cons (.refl _) (.cons (.refl _) (.cons (.refl _) (.cons (.refl _) (.cons (.refl _) (.cons (.refl _) (.cons .nil (.cons .nil (.cons .nil (.cons .nil .nil))))))))))))))))) ?_
 refine T ?_
 exact D
theorem Aal (l:LineM) (hw:LineW l) (hk:l.kind=4):Sy.Spec Tryz.prog 410 [Ap l] [] (.tup [Ap (Ay l).1,Ab (Ay l).2]) []:=cT F410 Tryz.ntmps410 fun F hF=>by
 have hU:Ay l=({ lineZ with row:=l.row,kind:=4,dev:=l.dev,vlan:=l.vlan,mac:=l.mac,port:=l.port },(A9 l.vlan 1 4094 && (statB l.mac && Be l.port))):=by
  simp only[Ay,hk]
  rfl
 rw[hU]
 have q0:=Cv l.vlan 1 4094
 have q1:Sy.Spec Tryz.prog 301 [Hq l.mac] [] (Ab (statB l.mac)) []:=by
  have:=hw.ok.mac
  obtain ⟨m,hm1⟩:∃ m:Nat,l.mac=m:=⟨l.mac.toNat,by omega⟩
  rw[hm1];exact Xy m q_
 have q2:=Er l.port (by have:=hw.port;omega)
 obtain ⟨row,kind,dev,port,peer,far,name,mac,addr,bits,vlan,num,cost,tagged,imports,exports,addrs⟩:=l
 dsimp only at hk q0 q1 q2 ⊢
 subst hk
 clear hU hw
 generalize A9 vlan 1 4094=b0 at *
 generalize statB mac=b1 at *
 generalize Be port=b2 at *
 cases b0
 ·rw[Bool.false_and]
  refine T ?_
  refine C q0 F439 ?_
  refine Ag 2 (C3 { lineZ with row:=row,kind:=4,dev:=dev,vlan:=vlan,mac:=mac,port:=port }) rfl (.cons (.refl _) (.cons (.refl _) (.cons (.refl _) (.cons (.refl _) (.cons (.refl _) (.cons (.refl _) (.cons (.refl _) (.cons (.refl _) (.cons (.refl _) (.cons (.refl _) (.cons (.refl _) (.cons (.refl _) (.cons (.refl _) (.cons .nil (.cons .nil (.cons .nil (.cons .nil .nil))))))))))))))))) ?_
  refine T ?_
  exact D
 rw[Bool.true_and]
 cases b1
 ·rw[Bool.false_and]
  refine T ?_
  refine C q0 F439 ?_
  refine C q1 F301 ?_
  refine Ag 2 (C3 { lineZ with row:=row,kind:=4,dev:=dev,vlan:=vlan,mac:=mac,port:=port }) rfl (.cons (.refl _) (.cons (.refl _) (.cons (.refl _) (.cons (.refl _) (.cons (.refl _) (.cons (.refl _) (.cons (.refl _) (.cons (.refl _) (.cons (.refl _) (.cons (.refl _) (.cons (.refl _) (.cons (.refl _) (.cons (.refl _) (.cons .nil (.cons .nil (.cons .nil (.cons .nil .nil))))))))))))))))) ?_
  refine T ?_
  exact D
 rw[Bool.true_and]
 refine T ?_
 refine C q0 F439 ?_
 refine C q1 F301 ?_
 refine C q2 F299 ?_
 refine Ag 2 (C3 { lineZ with row:=row,kind:=4,dev:=dev,vlan:=vlan,mac:=mac,port:=port }) rfl (.cons (.refl _) (.cons (.refl _) (.cons (.refl _) (.cons (.refl _) (.cons (.refl _) (.cons (.refl _) (.cons (.refl _) (.cons (.refl _) (.cons (.refl _) (.cons (.refl _) (.cons (.refl _) (.cons (.refl _) (.cons (.refl _) (.cons .nil (.cons .nil (.cons .nil (.cons .nil .nil))))))))))))))))) ?_
 refine T ?_
 exact D
theorem Aaj (l:LineM) (hw:LineW l) (hk:l.kind=6):Sy.Spec Tryz.prog 410 [Ap l] [] (.tup [Ap (Ay l).1,Ab (Ay l).2]) []:=cT F410 Tryz.ntmps410 fun F hF=>by
 have hU:Ay l=({ lineZ with row:=l.row,kind:=6,dev:=l.dev,vlan:=l.vlan,num:=l.num },(A9 l.vlan 1 4094 && A9 l.num 1 16777215)):=by
  simp only[Ay,hk]
  rfl
 rw[hU]
 have q0:=Cv l.vlan 1 4094
 have q1:=Cv l.num 1 16777215
 obtain ⟨row,kind,dev,port,peer,far,name,mac,addr,bits,vlan,num,cost,tagged,imports,exports,addrs⟩:=l
 dsimp only at hk q0 q1 ⊢
 subst hk
 clear hU hw
 generalize A9 vlan 1 4094=b0 at *
 generalize A9 num 1 16777215=b1 at *
 cases b0
 ·rw[Bool.false_and]
  refine T ?_
  refine C q0 F439 ?_
  refine Ag 2 (C3 { lineZ with row:=row,kind:=6,dev:=dev,vlan:=vlan,num:=num }) rfl (.cons (.refl _) (.cons (.refl _) (.cons (.refl _) (.cons (.refl _) (.cons (.refl _) (.cons (.refl _) (.cons (.refl _) (.cons (.refl _) (.cons (.refl _) (.cons (.refl _) (.cons (.refl _) (.cons (.refl _) (.cons (.refl _) (.cons .nil (.cons .nil (.cons .nil (.cons .nil .nil))))))))))))))))) ?_
  refine T ?_
  exact D
 rw[Bool.true_and]
 refine T ?_
 refine C q0 F439 ?_
 refine C q1 F439 ?_
 refine Ag 2 (C3 { lineZ with row:=row,kind:=6,dev:=dev,vlan:=vlan,num:=num }) rfl (.cons (.refl _) (.cons (.refl _) (.cons (.refl _) (.cons (.refl _) (.cons (.refl _) (.cons (.refl _) (.cons (.refl _) (.cons (.refl _) (.cons (.refl _) (.cons (.refl _) (.cons (.refl _) (.cons (.refl _) (.cons (.refl _) (.cons .nil (.cons .nil (.cons .nil (.cons .nil .nil))))))))))))))))) ?_
 refine T ?_
 exact D
theorem Aai (l:LineM) (hw:LineW l) (hk:l.kind=7):Sy.Spec Tryz.prog 410 [Ap l] [] (.tup [Ap (Ay l).1,Ab (Ay l).2]) []:=cT F410 Tryz.ntmps410 fun F hF=>by
 have hU:Ay l=({ lineZ with row:=l.row,kind:=7,dev:=l.dev,num:=l.num,addrs:=l.addrs },(A9 l.num 1 16777215 && Ii l.addrs)):=by
  simp only[Ay,hk]
  rfl
 rw[hU]
 have q0:=Cv l.num 1 16777215
 have q1:=Aaq l.addrs hw.fin.a
 obtain ⟨row,kind,dev,port,peer,far,name,mac,addr,bits,vlan,num,cost,tagged,imports,exports,addrs⟩:=l
 dsimp only at hk q0 q1 ⊢
 subst hk
 clear hU hw
 generalize A9 num 1 16777215=b0 at *
 generalize Ii addrs=b1 at *
 cases b0
 ·rw[Bool.false_and]
  refine T ?_
  refine C q0 F439 ?_
  refine Ag 2 (C3 { lineZ with row:=row,kind:=7,dev:=dev,num:=num,addrs:=addrs }) rfl (.cons (.refl _) (.cons (.refl _) (.cons (.refl _) (.cons (.refl _) (.cons (.refl _) (.cons (.refl _) (.cons (.refl _) (.cons (.refl _) (.cons (.refl _) (.cons (.refl _) (.cons (.refl _) (.cons (.refl _) (.cons (.refl _) (.cons .nil (.cons .nil (.cons .nil (.cons (.refl _) .nil))))))))))))))))) ?_
  refine T ?_
  exact D
 rw[Bool.true_and]
 refine T ?_
 refine C q0 F439 ?_
 refine C q1 F441 ?_
 refine Ag 2 (C3 { lineZ with row:=row,kind:=7,dev:=dev,num:=num,addrs:=addrs }) rfl (.cons (.refl _) (.cons (.refl _) (.cons (.refl _) (.cons (.refl _) (.cons (.refl _) (.cons (.refl _) (.cons (.refl _) (.cons (.refl _) (.cons (.refl _) (.cons (.refl _) (.cons (.refl _) (.cons (.refl _) (.cons (.refl _) (.cons .nil (.cons .nil (.cons .nil (.cons (.refl _) .nil))))))))))))))))) ?_
 refine T ?_
 exact D
theorem Aah (l:LineM) (hw:LineW l) (hk:l.kind=8):Sy.Spec Tryz.prog 410 [Ap l] [] (.tup [Ap (Ay l).1,Ab (Ay l).2]) []:=cT F410 Tryz.ntmps410 fun F hF=>by
 have hU:Ay l=({ lineZ with row:=l.row,kind:=8,dev:=l.dev,name:=l.name,imports:=l.imports,exports:=l.exports },(Be l.name && (Dn l.imports 65535 && Dn l.exports 65535))):=by
  simp only[Ay,hk]
  rfl
 rw[hU]
 have q0:=Er l.name (by have:=hw.name;omega)
 have q1:=Oz l.imports 65535 hw.fin.i
 have q2:=Oz l.exports 65535 hw.fin.e
 obtain ⟨row,kind,dev,port,peer,far,name,mac,addr,bits,vlan,num,cost,tagged,imports,exports,addrs⟩:=l
 dsimp only at hk q0 q1 q2 ⊢
 subst hk
 clear hU hw
 generalize Be name=b0 at *
 generalize Dn imports 65535=b1 at *
 generalize Dn exports 65535=b2 at *
 cases b0
 ·rw[Bool.false_and]
  refine T ?_
  refine C q0 F299 ?_
  refine Ag 2 (C3 { lineZ with row:=row,kind:=8,dev:=dev,name:=name,imports:=imports,exports:=exports }) rfl (.cons (.refl _) (.cons (.refl _) (.cons (.refl _) (.cons (.refl _) (.cons (.refl _) (.cons (.refl _) (.cons (.refl _) (.cons (.refl _) (.cons (.refl _) (.cons (.refl _) (.cons (.refl _) (.cons (.refl _) (.cons (.refl _) (.cons .nil (.cons (.refl _) (.cons (.refl _) (.cons .nil .nil))))))))))))))))) ?_
  refine T ?_
  exact D
 rw[Bool.true_and]
 cases b1
 ·rw[Bool.false_and]
  refine T ?_
  refine C q0 F299 ?_
  refine C q1 F440 ?_
  refine Ag 2 (C3 { lineZ with row:=row,kind:=8,dev:=dev,name:=name,imports:=imports,exports:=exports }) rfl (.cons (.refl _) (.cons (.refl _) (.cons (.refl _) (.cons (.refl _) (.cons (.refl _) (.cons (.refl _) (.cons (.refl _) (.cons (.refl _) (.cons (.refl _) (.cons (.refl _) (.cons (.refl _) (.cons (.refl _) (.cons (.refl _) (.cons .nil (.cons (.refl _) (.cons (.refl _) (.cons .nil .nil))))))))))))))))) ?_
  refine T ?_
  exact D
 rw[Bool.true_and]
 refine T ?_
 refine C q0 F299 ?_
 refine C q1 F440 ?_
 refine C q2 F440 ?_
 refine Ag 2 (C3 { lineZ with row:=row,kind:=8,dev:=dev,name:=name,imports:=imports,exports:=exports }) rfl (.cons (.refl _) (.cons (.refl _) (.cons (.refl _) (.cons (.refl _) (.cons (.refl _) (.cons (.refl _) (.cons (.refl _) (.cons (.refl _) (.cons (.refl _) (.cons (.refl _) (.cons (.refl _) (.cons (.refl _) (.cons (.refl _) (.cons .nil (.cons (.refl _) (.cons (.refl _) (.cons .nil .nil))))))))))))))))) ?_
 refine T ?_
 exact D
theorem Aag (l:LineM) (hw:LineW l) (hk:l.kind=9):Sy.Spec Tryz.prog 410 [Ap l] [] (.tup [Ap (Ay l).1,Ab (Ay l).2]) []:=cT F410 Tryz.ntmps410 fun F hF=>by
 have hU:Ay l=({ lineZ with row:=l.row,kind:=9,dev:=l.dev,vlan:=l.vlan,name:=l.name,addr:=l.addr,bits:=l.bits },(A9 l.vlan 1 4094 && (Be l.name && subnetB l.addr l.bits))):=by
  simp only[Ay,hk]
  rfl
 rw[hU]
 have q0:=Cv l.vlan 1 4094
 have q1:=Er l.name (by have:=hw.name;omega)
 have q2:Sy.Spec Tryz.prog 243 [Ix l.addr l.bits] [] (Ab (subnetB l.addr l.bits)) []:=by
  have:=hw.ok.addr
  obtain ⟨m,hm1⟩:∃ m:Nat,l.addr=m:=⟨l.addr.toNat,by omega⟩
  rw[hm1];exact Xx m l.bits q_
 obtain ⟨row,kind,dev,port,peer,far,name,mac,addr,bits,vlan,num,cost,tagged,imports,exports,addrs⟩:=l
 dsimp only at hk q0 q1 q2 ⊢
 subst hk
 clear hU hw
 generalize A9 vlan 1 4094=b0 at *
 generalize Be name=b1 at *
 generalize subnetB addr bits=b2 at *
 cases b0
 ·rw[Bool.false_and]
  refine T ?_
  refine C q0 F439 ?_
  refine Ag 2 (C3 { lineZ with row:=row,kind:=9,dev:=dev,vlan:=vlan,name:=name,addr:=addr,bits:=bits }) rfl (.cons (.refl _) (.cons (.refl _) (.cons (.refl _) (.cons (.refl _) (.cons (.refl _) (.cons (.refl _) (.cons (.refl _) (.cons (.refl _) (.cons (.refl _) (.cons (.refl _) (.cons (.refl _) (.cons (.refl _) (.cons (.refl _) (.cons .nil (.cons .nil (.cons .nil (.cons .nil .nil))))))))))))))))) ?_
  refine T ?_
  exact D
 rw[Bool.true_and]
 cases b1
 ·rw[Bool.false_and]
  refine T ?_
  refine C q0 F439 ?_
  refine C q1 F299 ?_
  refine Ag 2 (C3 { lineZ with row:=row,kind:=9,dev:=dev,vlan:=vlan,name:=name,addr:=addr,bits:=bits }) rfl (.cons (.refl _) (.cons (.refl _) (.cons (.refl _) (.cons (.refl _) (.cons (.refl _) (.cons (.refl _) (.cons (.refl _) (.cons (.refl _) (.cons (.refl _) (.cons (.refl _) (.cons (.refl _) (.cons (.refl _) (.cons (.refl _) (.cons .nil (.cons .nil (.cons .nil (.cons .nil .nil))))))))))))))))) ?_
  refine T ?_
  exact D
 rw[Bool.true_and]
 refine T ?_
 refine C q0 F439 ?_
 refine C q1 F299 ?_
 refine C q2 F243 ?_
 refine Ag 2 (C3 { lineZ with row:=row,kind:=9,dev:=dev,vlan:=vlan,name:=name,addr:=addr,bits:=bits }) rfl (.cons (.refl _) (.cons (.refl _) (.cons (.refl _) (.cons (.refl _) (.cons (.refl _) (.cons (.refl _) (.cons (.refl _) (.cons (.refl _) (.cons (.refl _) (.cons (.refl _) (.cons (.refl _) (.cons (.refl _) (.cons (.refl _) (.cons .nil (.cons .nil (.cons .nil (.cons .nil .nil))))))))))))))))) ?_
 refine T ?_
 exact D
theorem Aak (l:LineM) (hw:LineW l) (hk:l.kind=5):Sy.Spec Tryz.prog 410 [Ap l] [] (.tup [Ap (Ay l).1,Ab (Ay l).2]) []:=cT F410 Tryz.ntmps410 fun F hF=>by
 have hU:Ay l=({ lineZ with row:=l.row,kind:=5,dev:=l.dev,addr:=l.addr },decide (l.addr≠0)):=by
  simp only[Ay,hk]
  rfl
 rw[hU]
 obtain ⟨row,kind,dev,port,peer,far,name,mac,addr,bits,vlan,num,cost,tagged,imports,exports,addrs⟩:=l
 dsimp only at hk ⊢
 subst hk
 clear hU hw
 have hb:decide (addr≠0)=(addr != 0):=by
  by_cases h:addr=0
  ·rw[h];rfl
  ·rw[decide_eq_true h,bne_iff_ne.2 h]
 rw[hb]
 refine T ?_
 refine Ag 2 (C3 { lineZ with row:=row,kind:=5,dev:=dev,addr:=addr }) rfl (.cons (.refl _) (.cons (.refl _) (.cons (.refl _) (.cons (.refl _) (.cons (.refl _) (.cons (.refl _) (.cons (.refl _) (.cons (.refl _) (.cons (.refl _) (.cons (.refl _) (.cons (.refl _) (.cons (.refl _) (.cons (.refl _) (.cons .nil (.cons .nil (.cons .nil (.cons .nil .nil))))))))))))))))) ?_
 refine T ?_
 exact D
theorem Aap (l:LineM) (hk:¬ (1≤l.kind∧l.kind≤9)):Sy.Spec Tryz.prog 410 [Ap l] [] (.tup [Ap (Ay l).1,Ab (Ay l).2]) []:=cT F410 Tryz.ntmps410 fun F hF=>by
 have n1:¬ l.kind=1:=by omega
 have f1:(l.kind == 1)=false:=beq_eq_false_iff_ne.2 n1
 have n2:¬ l.kind=2:=by omega
 have f2:(l.kind == 2)=false:=beq_eq_false_iff_ne.2 n2
 have n3:¬ l.kind=3:=by omega
 have f3:(l.kind == 3)=false:=beq_eq_false_iff_ne.2 n3
 have n4:¬ l.kind=4:=by omega
 have f4:(l.kind == 4)=false:=beq_eq_false_iff_ne.2 n4
 have n5:¬ l.kind=5:=by omega
 have f5:(l.kind == 5)=false:=beq_eq_false_iff_ne.2 n5
 have n6:¬ l.kind=6:=by omega
 have f6:(l.kind == 6)=false:=beq_eq_false_iff_ne.2 n6
 have n7:¬ l.kind=7:=by omega
 have f7:(l.kind == 7)=false:=beq_eq_false_iff_ne.2 n7
 have n8:¬ l.kind=8:=by omega
 have f8:(l.kind == 8)=false:=beq_eq_false_iff_ne.2 n8
 have n9:¬ l.kind=9:=by omega
 have f9:(l.kind == 9)=false:=beq_eq_false_iff_ne.2 n9
 have hU:Ay l=({ lineZ with row:=l.row,kind:=l.kind,dev:=l.dev },false):=by
  simp only[Ay,if_neg n1,if_neg n2,if_neg n3,if_neg n4,if_neg n5,if_neg n6,if_neg n7,if_neg n8,if_neg n9]
 rw[hU]
 refine T ?_
 refine Ag 2 (C3 { lineZ with row:=l.row,kind:=l.kind,dev:=l.dev }) rfl (.cons (.refl _) (.cons (.refl _) (.cons (.refl _) (.cons (.refl _) (.cons (.refl _) (.cons (.refl _) (.cons (.refl _) (.cons (.refl _) (.cons (.refl _) (.cons (.refl _) (.cons (.refl _) (.cons (.refl _) (.cons (.refl _) (.cons .nil (.cons .nil (.cons .nil (.cons .nil .nil))))))))))))))))) ?_
 refine T ?_
 exact D
theorem Adm (l:LineM) (hw:LineW l):Sy.Spec Tryz.prog 410 [Ap l] [] (.tup [Ap (Ay l).1,Ab (Ay l).2]) []:=by
 by_cases hk:1≤l.kind∧l.kind≤9
 ·rcases (by omega:l.kind=1∨l.kind=2∨l.kind=3∨l.kind=4∨l.kind=5∨l.kind=6∨l.kind=7∨l.kind=8∨l.kind=9) with h | h | h | h | h | h | h | h | h
  ·exact Aao l hw h
  ·exact Aan l hw h
  ·exact Aam l hw h
  ·exact Aal l hw h
  ·exact Aak l hw h
  ·exact Aaj l hw h
  ·exact Aai l hw h
  ·exact Aah l hw h
  ·exact Aag l hw h
 ·exact Aap l hk
theorem Adi {l:LineM} (h:LineFin l):LineFin (Ay l).1:=by
 have ht:=h.t;have hi:=h.i;have he:=h.e;have haa:=h.a
 unfold Ay
 dsimp only
 repeat' split
 all_goals exact⟨by first | exact ht | (show 0≤100000;decide),by first | exact hi | (show 0≤100000;decide),by first | exact he | (show 0≤100000;decide),by first | exact haa | (show 0≤100000;decide)⟩
theorem Ed (l:LineM) (hw:LineW l):Sy.Spec Tryz.prog 343 [Ap l] [] (Ab (B4 l)) []:=cT F343 Tryz.ntmps343 fun F hF=>by
 have q1:=Adm l hw
 have q2:=Er l.dev (by have:=hw.dev;omega)
 have q3:=Adn (Ay l).1 l (Adi hw.fin) hw.fin
 rw[B4]
 generalize Ay l=u at *
 obtain ⟨ul,ub⟩:=u
 dsimp only at q1 q3 ⊢
 cases ub
 ·rw[Bool.false_and]
  refine T ?_
  refine C q1 F410 ?_
  exact D
 rw[Bool.true_and]
 cases hn:Be l.dev
 ·rw[hn]at q2
  rw[Bool.false_and]
  refine T ?_
  refine C q1 F410 ?_
  refine C q2 F299 ?_
  exact D
 rw[hn]at q2
 rw[Bool.true_and]
 refine T ?_
 refine C q1 F410 ?_
 refine C q2 F299 ?_
 refine C q3 F411 ?_
 exact D
end Go.Sy.YtjenpnjajjplkaaGreatDoor
namespace Go.Sy
theorem Tq {f g:Nat→Option (Nat × Nat)}:∀ (ps:List (Nat × Value)) (cs:Array Value),(∀ p∈ps,f p.1=g p.1)→Instr.fill f cs ps=Instr.fill g cs ps
 | [],cs,_=>rfl
 | (i,v)::ps,cs,h=>by
  have h1:=h (i,v) y_
  simp only[Instr.fill]
  dsimp only at h1
  rw[h1]
  cases g i with
  | none=>rfl
  | some os =>
   dsimp only
   split
   ·rfl
   ·exact Tq ps _ (fun p hp=>h p (by simp[hp]))
theorem Zd {P:Program} (Γ:Ty P) {o:Oper} {s:SS} {t et:TypeId} {ti:TI} {len esz:Nat} {ps:List (Nat × Operand)} {out:List SV} (h:o.op=.build t ps.toArray) (ht:Γ.get t=some ti) (hk:ti.k=.array et len esz)
  (h1:Qq ti.zero=true) (hps:(ps.all fun p=>Nat.blt p.1 len)=true) (hf:Ts ((List.range len).map fun i=>(i * esz,esz)) (ti.zero.map .val) (ps.map fun p=>(p.1,ev s p.2))=some out):Good P o s ⟨.agg out,[],[]⟩ :=
 Good.pure fun κ a w _ hr _=>by
  obtain ⟨d,info,z,k1,k2,k3,k4,k5,k6⟩:=Γ.ok t ti ht
  obtain ⟨hu,i,q1,q2⟩:=Kr Γ ht hk
  have hops:∀ p∈ps,Rd κ w (ev s p.2) (a.eval p.2):=fun p hp=>hr p.2 (by
   simp only[h,Op.operands]
   simp only[List.mem_toArray,List.mem_map]
   exact⟨p,hp,E⟩)
  obtain ⟨r,r1,r2,r3⟩:=W7 (κ:=κ) (w:=w) (a:=a) ps _ out z.cells (by rw[k6];exact Ov _) (by rw[k6];exact J7 h1) hops hf
  refine⟨.agg r,?_,?_⟩
  ·have hcg:=Tq (f:=fun i=>some (i * esz,esz)) (g:=fun i=>((List.range len).map fun i=>(i * esz,esz))[i]?) (ps.map fun p=>(p.1,a.eval p.2)) z.cells (fun p hp=>by
    obtain ⟨x,hx,rfl⟩:=List.mem_map.1 hp
    have hlt:x.1<len:=Nat.le_of_ble_eq_true (List.all_eq_true.1 hps x hx)
    dsimp only
    rw[List.getElem?_map,List.getElem?_range hlt]
    rfl)
   simp only[execOp,h,Sem.run_bind,Instr.build,zeroValue,typeInfo,run_program,Result.andThen_ok,k3,k5,Sem.run_pure,run_underlying hu,sizeOf,q1,q2,List.map_toArray]
   rw[hcg,r1]
   simp
  ·simp only[Rd]
   exact⟨r.toList,by simp,r3,r2⟩
theorem VwL.get {s:SS} {V:List Nat}:∀ {l m:List SV} (_:VwL s V l m) {i:Nat} {y:SV},D9 m i=some y→∃ x,D9 l i=some x∧Vw s V x y
 | _,_,.nil,i,y,h=>by cases i<;>simp[D9]at h
 | _,_,.cons (x:=x) h0 hs,0,y,h=>by
  simp only[D9,Option.some.injEq]at h
  subst h
  exact⟨x,E,h0⟩
 | _,_,.cons h0 hs,i+1,y,h=>VwL.get hs (i:=i) h
theorem VwL.len {s:SS} {V:List Nat}:∀ {l m:List SV} (_:VwL s V l m),m.length=l.length
 | _,_,.nil=>rfl
 | _,_,.cons _ hs=>by simp[VwL.len hs]
theorem RdL.setI {κ:Ka} {w:World} {x:SV} {v:Value} (hx:Rd κ w x v):∀ {l:List SV} {cs:List Value} (i:Nat),RdL κ w l cs→RdL κ w (l.set i x) (cs.set i v)
 | [],cs,i,h=>by simp only[RdL]at h;subst h;simp[RdL]
 | y::l,cs,0,h=>by
  simp only[RdL]at h
  obtain ⟨u,r,rfl,h1,h2⟩:=h
  simp only[List.set_cons_zero,RdL]
  exact⟨v,r,E,hx,h2⟩
 | y::l,cs,i+1,h=>by
  simp only[RdL]at h
  obtain ⟨u,r,rfl,h1,h2⟩:=h
  simp only[List.set_cons_succ,RdL]
  exact⟨u,_,E,h1,h2.setI hx i⟩
theorem Ih {κ:Ka} {w:World} {k:Nat} {l:List SV} (hi:Inv κ w) (h:ObOK κ w k (.box l)) {off:Nat} {x:SV} {v:Value} (_hx:x.plain=true) (hv:∀ κ w,Rd κ w x v) (h1:v.oneCell'=true) :
  ∃ b,κ k=.blk b∧(∀ j y,D9 l j=some y→∃ u,w.cell? ⟨b,j,none⟩=some u∧Rd κ w y u)∧(∀ j,j<l.length→w.frozen? ⟨b,j,none⟩=false) ∧
   Step (·=k) κ w κ (w.setCell ⟨b,off,none⟩ v)∧Inv κ (w.setCell ⟨b,off,none⟩ v)∧ObOK κ (w.setCell ⟨b,off,none⟩ v) k (.box (l.set off x)):=by
 obtain ⟨b,cs,T,fr,e1,e2,e3,e4,e5⟩:=h
 have hsame:(w.setCell ⟨b,off,none⟩ v).heap[b]? = some (.cells (cs.set off v).toArray T fr):=by
  simp[World.setCell,Array.getElem?_modify,e2]
 have hoth:∀ j,j≠b→(w.setCell ⟨b,off,none⟩ v).heap[j]? = w.heap[j]?:=fun j hj=>heap_setCell_other w ⟨b,off,none⟩ j v hj
 obtain ⟨st,inv⟩:=I7 (w':=w.setCell ⟨b,off,none⟩ v) hi (k:=k) (b:=b) (by rw[e1];rfl) rfl rfl rfl y_ hoth
 have hlen:=e5.length
 refine⟨b,e1,fun j y hy=>?_,fun j hj=>?_,st,inv,b,_,T,fr,e1,hsame,by rw[List.length_set];exact e3,?_,(RdL.step st _ _ e5).setI (hv _ _) off⟩
 ·obtain ⟨u,hu,hr⟩:=e5.get hy
  exact⟨u,by rw[cell_of_row w b j cs.toArray T fr e2,List.getElem?_toArray];exact hu,hr⟩
 ·obtain ⟨lo,hi'⟩:=fr
  simp only[World.frozen?,e2]
  rcases e3 with h | h
  ·simp only at h;subst h;simp
  ·simp only at h;simp;omega
 ·intro c hc
  rcases List.mem_or_eq_of_mem_set hc with h | h
  ·exact e4 c h
  ·rw[h];exact h1
theorem Us {P:Program} {o:Oper} {s:SS} {f:FuncId} {ik:IntKind} {ts:Array TypeId} {x:Operand} {k off:Nat} {l:List SV} {v:Int}
  (hf:∀ (a:Addr) (x:Int) (w:World),w.cell? a=some (.int ik x)→(callFunc f #[.pointer (some a)]).run P w=.ok (.value (.int ik x)) w)
  (h:o.op=.call ⟨.value (.func f),#[x],ts⟩) (hx:ev s x=.ptr k off) (hk:s.h k=.box l) (hy:D9 l off=some (.val (.int ik v))):Good P o s ⟨.val (.int ik v),[k],[]⟩ :=
 Good.pure fun κ a w hi hr ho=>by
  have h1:=hr x (by simp[h,Op.operands,Call.operands])
  rw[hx]at h1
  have h2:=ho k y_
  rw[hk]at h2
  obtain ⟨b,cs,T,fr,e1,e2,e3,e4,e5⟩:=h2
  simp only[Rd,e1]at h1
  obtain ⟨u,hu,hr2⟩:=e5.get hy
  have hc:w.cell? ⟨b,off,none⟩=some (.int ik v):=by rw[cell_of_row w b off cs.toArray T fr e2,List.getElem?_toArray,hu,hr2.val]
  have hrun:=hf ⟨b,off,none⟩ v w hc
  refine⟨.int ik v,?_,by simp only[Rd]⟩
  have hev:a.eval (.func f)=.func (.func f) #[] #[]:=rfl
  simp[execOp,h,resolve,hev,Deferred.ofValue,invoke,h1,hrun]
end Go.Sy
namespace Go.Sy.YtjenpnjajjplkaaGreatDoor
open Go.Proofs
attribute [local irreducible] Go.Sy.G Go.Sy.DR
set_option maxRecDepth 100000
set_option maxHeartbeats 4000000
def Lq (x:LineM):List Int:=[(x.dev.size:Int),(x.port.size:Int),(x.peer.size:Int),(x.far.size:Int),(x.name.size:Int),(x.tagged.length:Int),(x.imports.length:Int),(x.exports.length:Int),(x.addrs.length:Int)]
def Jg:List Int→Int→Bool × Int
 | [],t=>(false,t)
 | x::r,t=>if 300<x then (true,0) else Jg r (t+x)
def Jf:List LineM→Int→Bool
 | [],t=>decide (10000<t)
 | x::r,t=>if (Jg (Lq x) t).1=true then true else Jf r (Jg (Lq x) t).2
def linesGreat (l:List LineM):Bool:=if 400<l.length then true else Jf l 0
theorem Te:∀ (l:List Int) (t:Int),(Jg l t).1=false→∀ x∈l,x≤300
 | [],_,_,_,hx=>by cases hx
 | y::r,t,h,x,hx=>by
  rw[Jg]at h
  split at h
  ·cases h
  ·rcases List.mem_cons.1 hx with rfl | hx
   ·omega
   ·exact Te r _ h x hx
theorem Ke:∀ (l:List LineM) (t:Int),Jf l t=false→∀ x∈l,∀ y∈Lq x,y≤300
 | [],_,_,_,hx=>by cases hx
 | z::r,t,h,x,hx=>by
  rw[Jf]at h
  split at h
  ·cases h
  ·rename_i h0
   rcases List.mem_cons.1 hx with rfl | hx
   ·exact Te _ _ (by simpa using h0)
   ·exact Ke r _ h x hx
theorem Aew {l:List LineM} (h:linesGreat l=false):∀ x∈l,LineFin x:=by
 rw[linesGreat]at h
 split at h
 ·cases h
 ·intro x hx
  have:=Ke l 0 h x hx
  simp only[Lq,List.forall_mem_cons]at this
  exact⟨by omega,by omega,by omega,by omega⟩
theorem Aes (x:LineM):∀ y∈Lq x,0≤y:=by
 simp only[Lq,List.forall_mem_cons]
 refine⟨by omega,by omega,by omega,by omega,by omega,by omega,by omega,by omega,by omega,fun y hy=>by cases hy⟩
theorem Y1 (M:List LineM) (hl:M.length<1000000):Sy.Spec Tryz.prog 11 [.sl 17 Ap M] [] (Ab (linesGreat M)) []:=cT F11 Tryz.ntmps11 fun F hF=>by
 have hres:=linesGreat.eq_1 M
 generalize linesGreat M=res at *
 by_cases c0:400<M.length
 ·rw[if_pos c0]at hres
  have f0:decide ((M.length:Int)>400)=true:=decide_eq_true q_
  subst hres
  refine T ?_
  exact D
 rw[if_neg c0]at hres
 have f0:decide ((M.length:Int)>400)=false:=decide_eq_false q_
 refine T ?_
 refine B0 (fun x:Nat × Int=>res=Jf (M.drop x.1) x.2∧x.1≤M.length∧0≤x.2∧x.2≤2700 * x.1) (fun x=>[(0,.sl 17 Ap M),(3,Aa x.2),(4,Aa x.1)]) (fun _=>[]) (fun x=>M.length-x.1) (0,0) [] ⟨hres,by simp,by simp,by simp⟩ U ?_
 rintro ⟨j,t⟩ ⟨hI,hj,ht0,ht⟩
 dsimp only at hI hj ht0 ht ⊢
 refine T ?_
 refine⟨fun h2=>?_,fun h2=>?_⟩
 ·have hlt:j<M.length:=by have:=of_decide_eq_true h2;omega
  have hlt0:((j:Nat):Int).toNat<M.length:=hlt
  clear h2
  have hdr:M.drop j=M[((j:Nat):Int).toNat]'hlt0::M.drop (j+1):=List.drop_eq_getElem_cons hlt
  rw[hdr,Jf]at hI
  refine T ?_
  refine G_litR 70 Aa (Lq (M[((j:Nat):Int).toNat]'hlt0)) E E ?_
  refine Ae 70 E ?_
  have hps:=Aes (M[((j:Nat):Int).toNat]'hlt0)
  have hls:(Lq (M[((j:Nat):Int).toNat]'hlt0)).length=9:=rfl
  generalize Lq (M[((j:Nat):Int).toNat]'hlt0)=ls at *
  refine T ?_
  refine B0 (fun x:Nat × Int=>Jg ls t=Jg (ls.drop x.1) x.2∧x.1≤9∧0≤x.2∧x.2≤2700 * j+300 * x.1) (fun x=>[(0,.sl 17 Ap M),(3,Aa x.2),(4,Aa j),(70,.sl 1 Aa ls),(71,Aa 9),(72,Aa x.1)]) (fun _=>[]) (fun x=>9-x.1) (0,t) [] ⟨E,by simp,ht0,by dsimp only;omega⟩ U ?_
  rintro ⟨k,u⟩ ⟨hK,hk,hu0,hu⟩
  dsimp only at hK hk hu0 hu ⊢
  refine T ?_
  refine⟨fun h2=>?_,fun h2=>?_⟩
  ·have hkt:k<9:=by have:=of_decide_eq_true h2;omega
   have hkt0:((k:Nat):Int).toNat<ls.length:=by omega
   clear h2
   have hdk:ls.drop k=ls[((k:Nat):Int).toNat]'hkt0::ls.drop (k+1):=List.drop_eq_getElem_cons hkt0
   rw[hdk,Jg]at hK
   have hp:=hps (ls[((k:Nat):Int).toNat]'hkt0) (List.getElem_mem _)
   by_cases c1:300<ls[((k:Nat):Int).toNat]'hkt0
   ·rw[if_pos c1]at hK
    rw[hK,if_pos rfl]at hI
    have f1:decide (ls[((k:Nat):Int).toNat]'hkt0>300)=true:=decide_eq_true q_
    subst hI
    refine T ?_
    exact D
   ·rw[if_neg c1]at hK
    have f1:decide (ls[((k:Nat):Int).toNat]'hkt0>300)=false:=decide_eq_false q_
    refine T ?_
    exact A4 (k+1,u+ls[((k:Nat):Int).toNat]'hkt0) [] ⟨hK,hkt,by dsimp only;omega,by dsimp only;omega⟩ (by dsimp only;omega) U
  ·have hk9:k=9:=by have:=of_decide_eq_false h2;omega
   subst hk9
   clear h2
   rw[List.drop_eq_nil_of_le q_,Jg]at hK
   rw[hK,if_neg y_]at hI
   refine T ?_
   exact A4 (j+1,u) [] ⟨hI,hlt,hu0,by dsimp only;omega⟩ (by dsimp only;omega) U
 ·have hje:j=M.length:=by have:=of_decide_eq_false h2;omega
  subst hje
  clear h2
  rw[List.drop_length,Jf]at hI
  subst hI
  refine T ?_
  exact D
end Go.Sy.YtjenpnjajjplkaaGreatDoor
namespace Go.Sy
open Go.ChangeShapes Go.WideShapes Go.ChangeAt Go.RowKit
section
variable {H:Type} (enc:TypeId × Value→H) (P:Program) (W:World)
def Op1 (t:TypeId) {α:Type} (e:α→SV) (p:α→Prop):Prop :=
 ∀ n c y,DataW.trod enc P W 0 (fun _=>true) true n t [c]=some y→∃ x,p x∧Rd κ0 W (e x) c∧c.oneCell'=true
def OpN (t:TypeId) {α:Type} (e:α→SV) (p:α→Prop) (sz:Nat):Prop :=
 ∀ n cs y,DataW.trod enc P W 0 (fun _=>true) true n t cs=some y→∃ x,p x∧cs.length=sz∧Ones cs∧RdL κ0 W (cellsOf (e x)) cs
variable {enc P W}
theorem E6 {t:TypeId} {k:IntKind} (ht:P.underlying t=some (.int k)):Op1 enc P W t (fun z=>.val (.int k z)) (fun z=>(Lit.int k z).wf=true):=fun n c y h=>by
 obtain ⟨z,e,_,hw⟩:=DataW.trod_int ht h
 have e:c=.int k z:=by simpa using e
 subst e
 exact⟨z,hw,by simp[Rd],E⟩
theorem S2 {t:TypeId} (ht:P.underlying t=some .string):Op1 enc P W t Ai (fun s=>s.size≤maxLen):=fun n c y h=>by
 obtain ⟨z,e,_,hw⟩:=DataW.trod_string ht h
 have e:c=.string z:=by simpa using e
 subst e
 exact⟨z,hw,by simp[Ai,Rd],E⟩
theorem Wl {t:TypeId} {k:IntKind} (ht:P.underlying t=some (.int k)):OpN enc P W t (fun z=>.val (.int k z)) (fun z=>(Lit.int k z).wf=true) 1:=fun n cs y h=>by
 obtain ⟨z,rfl,_,hw⟩:=DataW.trod_int ht h
 refine⟨z,hw,E,fun c hc=>by simp at hc;subst hc;rfl,?_⟩
 simp[cellsOf,RdL,Rd]
theorem Agb {t:TypeId} (ht:P.underlying t=some .bool):OpN enc P W t Ab (fun _=>True) 1:=fun n cs y h=>by
 obtain ⟨z,rfl,_⟩:=DataW.trod_bool ht h
 refine⟨z,Y,E,fun c hc=>by simp at hc;subst hc;rfl,?_⟩
 simp[Ab,cellsOf,RdL,Rd]
theorem Vy {base:Nat} {a:Addr} {n:Nat} {cs:List Value} (h:W.cells? base a n=some cs):cs.length=n∧∀ j (_:j<n),W.cell? (a.add j)=cs[j]?:=by
 unfold World.cells? at h
 split at h
 ·refine⟨by simpa using mapM_some_length h,fun j hj=>?_⟩
  exact mapM_some_get h j j (by simp[hj])
 ·cases h
theorem Iy {t et:TypeId} {α:Type} {e:α→SV} {p:α→Prop} {sz:Nat} (ht:P.underlying t=some (.slice et)) (hsz:P.cellsOf et=sz) (h0:0<sz) (hb:∀ x,(e x).boxed=true) (hd:∀ x,(e x).data=true) (hO:OpN enc P W et e p sz) :
  Op1 enc P W t (fun l:List α=>.sl sz e l) (fun l=>(∀ x∈l,p x)∧l.length≤maxLen):=fun n c y h=>by
 rcases DataW.trod_slice ht h with ⟨hcs,_⟩ | ⟨a,len,cap,elems,rest,m,rfl,hcs,_,_,hlc,hcm,hel,hget,_⟩
 ·have hc:c=.slice none 0 0:=by simpa using hcs
  subst hc
  refine⟨[],⟨by simp,Nat.zero_le _⟩,?_,E⟩
  simp only[Rd,RdD]
  exact .inl ⟨Y,none,0,E⟩
 ·have hc:c=.slice (some a) len cap:=by simpa using hcs
  subst hc
  rw[hsz]at hget
  have hall:∀ i:Fin len,∃ x,p x∧∃ cs,W.cells? 0 (a.add (i * sz)) sz=some cs∧cs.length=sz∧Ones cs∧RdL κ0 W (cellsOf (e x)) cs:=fun i=>by
   have h1:=hget i.1 i.2
   rw[List.getElem?_eq_getElem q_]at h1
   obtain ⟨cs,h2,h3⟩:=Option.bind_eq_some_iff.1 h1
   obtain ⟨x,h4,h5,h6,h7⟩:=hO _ _ _ h3
   exact⟨x,h4,cs,h2,h5,h6,h7⟩
  let xs:Fin len→α:=fun i=>Classical.choose (hall i)
  have hxs:∀ i,p (xs i)∧∃ cs,W.cells? 0 (a.add (i.1 * sz)) sz=some cs∧cs.length=sz∧Ones cs∧RdL κ0 W (cellsOf (e (xs i))) cs:=fun i=>Classical.choose_spec (hall i)
  refine⟨List.ofFn xs,⟨fun x hx=>?_,by simp;omega⟩,?_,E⟩
  ·obtain ⟨i,rfl⟩:=List.mem_ofFn.1 hx
   exact(hxs i).1
  ·simp only[Rd,RdD]
   by_cases hl:len=0
   ·subst hl
    exact .inl ⟨by simp,_,_,E⟩
   ·have hcell:∀ i:Fin len,∀ j,j<sz→∃ v,W.cell? ((a.add (i.1 * sz)).add j)=some v:=fun i j hj=>by
     obtain ⟨_,cs,h1,h2,_⟩:=hxs i
     have:=(Vy h1).2 j hj
     rw[List.getElem?_eq_getElem q_]at this
     exact⟨_,this⟩
    obtain ⟨b,off,spot⟩:=a
    have hspot:spot=none:=by
     obtain ⟨v,hv⟩:=hcell ⟨0,by omega⟩ 0 h0
     simpa [Addr.add] using World.cell?_spot hv
    subst hspot
    have hadd:∀ i j,((⟨b,off,none⟩:Addr).add i).add j=⟨b,off+i+j,none⟩:=fun i j=>by rw[Addr.add_lit,Addr.add_lit]
    refine .inr ⟨b,off,cap,by simp,by simpa using hlc,?_,?_,fun i hi=>?_⟩
    ·rintro (⟨k,hk⟩ | hk)
     ·cases hk
     ·exact hk
    ·obtain ⟨v,hv⟩:=hcell ⟨0,by omega⟩ 0 h0
     rw[hadd]at hv
     rcases Nat.lt_or_ge b W.heap.size with h | h
     ·exact h
     ·simp[World.cell?,Array.getElem?_eq_none h]at hv
    ·simp only[List.length_ofFn]at hi
     obtain ⟨_,cs,h1,h2,h3,h4⟩:=hxs ⟨i,hi⟩
     obtain ⟨u,g1,g2⟩:=Rd.of_cells (hb _) h3 h4
     refine⟨u,?_,?_,by rw[g2];exact h3,fun j hj=>?_⟩
     ·rw[List.getElem_ofFn]
      exact Rd.data _ _ (hd _) g1
     ·have:u.cells.toList.length=sz:=by rw[g2,h2]
      simpa using this
     ·have:=(Vy h1).2 j hj
      rw[hadd]at this
      rw[this,← g2]
      simp
end
end Go.Sy
namespace Go.Sy.YtjenpnjajjplkaaGreatDoor
open Go.Proofs Go.ChangeShapes Go.WideShapes Go.ChangeAt Go.RowKit
set_option maxRecDepth 100000
section
variable {H:Type} {enc:TypeId × Value→H} {W:World}
def wI (k:IntKind) (z:Int):Prop:=(Lit.int k z).wf=true
theorem Wk:Op1 enc Tryz.prog W 63 (fun l:List Int=>.sl 1 (fun z=>.val (.int .i64 z)) l) (fun l=>(∀ z∈l,wI .i64 z)∧l.length≤maxLen) :=
 Iy Tryz.underlying63 (by kernel_rfl:Tryz.prog.cellsOf 3=1) j_ (fun _=>rfl) (fun _=>rfl) (Wl Tryz.underlying3)
theorem Aih:Op1 enc Tryz.prog W 64 (fun l:List Int=>.sl 1 (fun z=>.val (.int .u32 z)) l) (fun l=>(∀ z∈l,wI .u32 z)∧l.length≤maxLen) :=
 Iy Tryz.underlying64 (by kernel_rfl:Tryz.prog.cellsOf 62=1) j_ (fun _=>rfl) (fun _=>rfl) (Wl Tryz.underlying62)
def Device.In (x:Device):Prop:=wI .i64 x.row∧wI .i64 x.prio∧x.name.size≤maxLen∧wI .u64 x.mac∧wI .u32 x.vtep
def Port.In (x:Port):Prop:=wI .i64 x.row∧wI .i64 x.dev∧wI .i64 x.native∧wI .i64 x.cost∧wI .i64 x.link∧x.name.size≤maxLen∧((∀ z∈x.tagged,wI .i64 z)∧x.tagged.length≤maxLen)
def Link.In (x:Link):Prop:=wI .i64 x.row∧wI .i64 x.a∧wI .i64 x.b
def Domain.In (x:Domain):Prop:=wI .i64 x.dev∧wI .i64 x.vlan∧wI .i64 x.vni∧wI .i64 x.irb∧wI .i64 x.row∧((∀ z∈x.peers,wI .i64 z)∧x.peers.length≤maxLen)
def Static.In (x:Static):Prop:=wI .i64 x.row∧wI .i64 x.domain∧wI .i64 x.port∧wI .u64 x.mac
def Flood.In (x:Flood):Prop:=wI .i64 x.row∧wI .i64 x.dev∧wI .i64 x.vni∧((∀ z∈x.addrs,wI .u32 z)∧x.addrs.length≤maxLen)
def Vrf.In (x:Vrf):Prop:=wI .i64 x.row∧wI .i64 x.dev∧x.name.size≤maxLen∧((∀ z∈x.imports,wI .i64 z)∧x.imports.length≤maxLen)∧((∀ z∈x.exports,wI .i64 z)∧x.exports.length≤maxLen)
def Irb.In (x:Irb):Prop:=wI .i64 x.row∧wI .i64 x.domain∧wI .i64 x.vrf∧wI .u32 x.addr∧wI .i64 x.bits
structure Net.In (n:Net):Prop where
 devices:(∀ x∈n.devices,Device.In x)∧n.devices.length≤maxLen
 ports:(∀ x∈n.ports,Port.In x)∧n.ports.length≤maxLen
 links:(∀ x∈n.links,Link.In x)∧n.links.length≤maxLen
 domains:(∀ x∈n.domains,Domain.In x)∧n.domains.length≤maxLen
 statics:(∀ x∈n.statics,Static.In x)∧n.statics.length≤maxLen
 floods:(∀ x∈n.floods,Flood.In x)∧n.floods.length≤maxLen
 vrfs:(∀ x∈n.vrfs,Vrf.In x)∧n.vrfs.length≤maxLen
 irbs:(∀ x∈n.irbs,Irb.In x)∧n.irbs.length≤maxLen
theorem Su {t et:TypeId} {α:Type} {e:α→SV} {p:List α→Prop} {sz base:Nat} {v:Value} {d:DataW H} {ps:List MemPlace} (ht:Tryz.prog.underlying t=some (.slice et)) (hO:Op1 enc Tryz.prog W t (fun l:List α=>.sl sz e l) p)
  (hval:Value.okWide Tryz.prog W .any base t v) (h1:DataW.Trod enc Tryz.prog W 0 (fun _=>true) true t v d ps):∃ l,p l∧Rd κ0 W (.sl sz e l) v:=by
 obtain ⟨a,len,cap,rfl⟩:=okWide_slice ht hval
 obtain ⟨fuel,hf⟩:=h1
 obtain ⟨x,h1,h2,_⟩:=hO _ _ _ hf
 exact⟨x,h1,h2⟩
end
end Go.Sy.YtjenpnjajjplkaaGreatDoor
namespace Go.Sy.YtjenpnjajjplkaaGreatDoor
open Go.Proofs Go.ChangeShapes Go.WideShapes Go.ChangeAt Go.RowKit
set_option maxRecDepth 100000
section
variable {H:Type} {enc:TypeId × Value→H} {W:World}
def LineM.In (x:LineM):Prop:=wI .i64 x.row∧wI .i64 x.kind∧x.dev.size≤maxLen∧x.port.size≤maxLen∧x.peer.size≤maxLen∧x.far.size≤maxLen∧x.name.size≤maxLen∧wI .u64 x.mac∧wI .u32 x.addr∧wI .i64 x.bits∧wI .i64 x.vlan∧wI .i64 x.num∧wI .i64 x.cost∧((∀ z∈x.tagged,wI .i64 z)∧x.tagged.length≤maxLen)∧((∀ z∈x.imports,wI .i64 z)∧x.imports.length≤maxLen)∧((∀ z∈x.exports,wI .i64 z)∧x.exports.length≤maxLen)∧((∀ z∈x.addrs,wI .u32 z)∧x.addrs.length≤maxLen)
theorem Aea:OpN enc Tryz.prog W 66 Ap LineM.In 17:=fun n cs y h=>by
 obtain ⟨xs,m,_,_,hlen,hx,hg⟩:=DataW.trod_struct Tryz.underlying66 h
 have hlen:cs.length=17:=hlen.trans (by kernel_rfl:Tryz.prog.cellsOf 66=17)
 have hx:xs.length=17:=hx
 match cs,hlen with
 | [c0,c1,c2,c3,c4,c5,c6,c7,c8,c9,c10,c11,c12,c13,c14,c15,c16],_ =>
  have g0:DataW.trod enc Tryz.prog W 0 (fun _=>true) true m 3 (([c0,c1,c2,c3,c4,c5,c6,c7,c8,c9,c10,c11,c12,c13,c14,c15,c16].drop 0).take (Tryz.prog.cellsOf 3))=xs[0]?:=hg 0 _ rfl
  rw[(by kernel_rfl:Tryz.prog.cellsOf 3=1),List.getElem?_eq_getElem q_]at g0
  obtain ⟨z0,p0,r0,o0⟩:=E6 Tryz.underlying3 _ _ _ g0
  have g1:DataW.trod enc Tryz.prog W 0 (fun _=>true) true m 3 (([c0,c1,c2,c3,c4,c5,c6,c7,c8,c9,c10,c11,c12,c13,c14,c15,c16].drop 1).take (Tryz.prog.cellsOf 3))=xs[1]?:=hg 1 _ rfl
  rw[(by kernel_rfl:Tryz.prog.cellsOf 3=1),List.getElem?_eq_getElem q_]at g1
  obtain ⟨z1,p1,r1,o1⟩:=E6 Tryz.underlying3 _ _ _ g1
  have g2:DataW.trod enc Tryz.prog W 0 (fun _=>true) true m 9 (([c0,c1,c2,c3,c4,c5,c6,c7,c8,c9,c10,c11,c12,c13,c14,c15,c16].drop 2).take (Tryz.prog.cellsOf 9))=xs[2]?:=hg 2 _ rfl
  rw[(by kernel_rfl:Tryz.prog.cellsOf 9=1),List.getElem?_eq_getElem q_]at g2
  obtain ⟨z2,p2,r2,o2⟩:=S2 Tryz.underlying9 _ _ _ g2
  have g3:DataW.trod enc Tryz.prog W 0 (fun _=>true) true m 9 (([c0,c1,c2,c3,c4,c5,c6,c7,c8,c9,c10,c11,c12,c13,c14,c15,c16].drop 3).take (Tryz.prog.cellsOf 9))=xs[3]?:=hg 3 _ rfl
  rw[(by kernel_rfl:Tryz.prog.cellsOf 9=1),List.getElem?_eq_getElem q_]at g3
  obtain ⟨z3,p3,r3,o3⟩:=S2 Tryz.underlying9 _ _ _ g3
  have g4:DataW.trod enc Tryz.prog W 0 (fun _=>true) true m 9 (([c0,c1,c2,c3,c4,c5,c6,c7,c8,c9,c10,c11,c12,c13,c14,c15,c16].drop 4).take (Tryz.prog.cellsOf 9))=xs[4]?:=hg 4 _ rfl
  rw[(by kernel_rfl:Tryz.prog.cellsOf 9=1),List.getElem?_eq_getElem q_]at g4
  obtain ⟨z4,p4,r4,o4⟩:=S2 Tryz.underlying9 _ _ _ g4
  have g5:DataW.trod enc Tryz.prog W 0 (fun _=>true) true m 9 (([c0,c1,c2,c3,c4,c5,c6,c7,c8,c9,c10,c11,c12,c13,c14,c15,c16].drop 5).take (Tryz.prog.cellsOf 9))=xs[5]?:=hg 5 _ rfl
  rw[(by kernel_rfl:Tryz.prog.cellsOf 9=1),List.getElem?_eq_getElem q_]at g5
  obtain ⟨z5,p5,r5,o5⟩:=S2 Tryz.underlying9 _ _ _ g5
  have g6:DataW.trod enc Tryz.prog W 0 (fun _=>true) true m 9 (([c0,c1,c2,c3,c4,c5,c6,c7,c8,c9,c10,c11,c12,c13,c14,c15,c16].drop 6).take (Tryz.prog.cellsOf 9))=xs[6]?:=hg 6 _ rfl
  rw[(by kernel_rfl:Tryz.prog.cellsOf 9=1),List.getElem?_eq_getElem q_]at g6
  obtain ⟨z6,p6,r6,o6⟩:=S2 Tryz.underlying9 _ _ _ g6
  have g7:DataW.trod enc Tryz.prog W 0 (fun _=>true) true m 61 (([c0,c1,c2,c3,c4,c5,c6,c7,c8,c9,c10,c11,c12,c13,c14,c15,c16].drop 7).take (Tryz.prog.cellsOf 61))=xs[7]?:=hg 7 _ rfl
  rw[(by kernel_rfl:Tryz.prog.cellsOf 61=1),List.getElem?_eq_getElem q_]at g7
  obtain ⟨z7,p7,r7,o7⟩:=E6 Tryz.underlying61 _ _ _ g7
  have g8:DataW.trod enc Tryz.prog W 0 (fun _=>true) true m 62 (([c0,c1,c2,c3,c4,c5,c6,c7,c8,c9,c10,c11,c12,c13,c14,c15,c16].drop 8).take (Tryz.prog.cellsOf 62))=xs[8]?:=hg 8 _ rfl
  rw[(by kernel_rfl:Tryz.prog.cellsOf 62=1),List.getElem?_eq_getElem q_]at g8
  obtain ⟨z8,p8,r8,o8⟩:=E6 Tryz.underlying62 _ _ _ g8
  have g9:DataW.trod enc Tryz.prog W 0 (fun _=>true) true m 3 (([c0,c1,c2,c3,c4,c5,c6,c7,c8,c9,c10,c11,c12,c13,c14,c15,c16].drop 9).take (Tryz.prog.cellsOf 3))=xs[9]?:=hg 9 _ rfl
  rw[(by kernel_rfl:Tryz.prog.cellsOf 3=1),List.getElem?_eq_getElem q_]at g9
  obtain ⟨z9,p9,r9,o9⟩:=E6 Tryz.underlying3 _ _ _ g9
  have g10:DataW.trod enc Tryz.prog W 0 (fun _=>true) true m 3 (([c0,c1,c2,c3,c4,c5,c6,c7,c8,c9,c10,c11,c12,c13,c14,c15,c16].drop 10).take (Tryz.prog.cellsOf 3))=xs[10]?:=hg 10 _ rfl
  rw[(by kernel_rfl:Tryz.prog.cellsOf 3=1),List.getElem?_eq_getElem q_]at g10
  obtain ⟨z10,p10,r10,o10⟩:=E6 Tryz.underlying3 _ _ _ g10
  have g11:DataW.trod enc Tryz.prog W 0 (fun _=>true) true m 3 (([c0,c1,c2,c3,c4,c5,c6,c7,c8,c9,c10,c11,c12,c13,c14,c15,c16].drop 11).take (Tryz.prog.cellsOf 3))=xs[11]?:=hg 11 _ rfl
  rw[(by kernel_rfl:Tryz.prog.cellsOf 3=1),List.getElem?_eq_getElem q_]at g11
  obtain ⟨z11,p11,r11,o11⟩:=E6 Tryz.underlying3 _ _ _ g11
  have g12:DataW.trod enc Tryz.prog W 0 (fun _=>true) true m 3 (([c0,c1,c2,c3,c4,c5,c6,c7,c8,c9,c10,c11,c12,c13,c14,c15,c16].drop 12).take (Tryz.prog.cellsOf 3))=xs[12]?:=hg 12 _ rfl
  rw[(by kernel_rfl:Tryz.prog.cellsOf 3=1),List.getElem?_eq_getElem q_]at g12
  obtain ⟨z12,p12,r12,o12⟩:=E6 Tryz.underlying3 _ _ _ g12
  have g13:DataW.trod enc Tryz.prog W 0 (fun _=>true) true m 63 (([c0,c1,c2,c3,c4,c5,c6,c7,c8,c9,c10,c11,c12,c13,c14,c15,c16].drop 13).take (Tryz.prog.cellsOf 63))=xs[13]?:=hg 13 _ rfl
  rw[(by kernel_rfl:Tryz.prog.cellsOf 63=1),List.getElem?_eq_getElem q_]at g13
  obtain ⟨z13,p13,r13,o13⟩:=Wk _ _ _ g13
  have g14:DataW.trod enc Tryz.prog W 0 (fun _=>true) true m 63 (([c0,c1,c2,c3,c4,c5,c6,c7,c8,c9,c10,c11,c12,c13,c14,c15,c16].drop 14).take (Tryz.prog.cellsOf 63))=xs[14]?:=hg 14 _ rfl
  rw[(by kernel_rfl:Tryz.prog.cellsOf 63=1),List.getElem?_eq_getElem q_]at g14
  obtain ⟨z14,p14,r14,o14⟩:=Wk _ _ _ g14
  have g15:DataW.trod enc Tryz.prog W 0 (fun _=>true) true m 63 (([c0,c1,c2,c3,c4,c5,c6,c7,c8,c9,c10,c11,c12,c13,c14,c15,c16].drop 15).take (Tryz.prog.cellsOf 63))=xs[15]?:=hg 15 _ rfl
  rw[(by kernel_rfl:Tryz.prog.cellsOf 63=1),List.getElem?_eq_getElem q_]at g15
  obtain ⟨z15,p15,r15,o15⟩:=Wk _ _ _ g15
  have g16:DataW.trod enc Tryz.prog W 0 (fun _=>true) true m 64 (([c0,c1,c2,c3,c4,c5,c6,c7,c8,c9,c10,c11,c12,c13,c14,c15,c16].drop 16).take (Tryz.prog.cellsOf 64))=xs[16]?:=hg 16 _ rfl
  rw[(by kernel_rfl:Tryz.prog.cellsOf 64=1),List.getElem?_eq_getElem q_]at g16
  obtain ⟨z16,p16,r16,o16⟩:=Aih _ _ _ g16
  refine⟨⟨z0,z1,z2,z3,z4,z5,z6,z7,z8,z9,z10,z11,z12,z13,z14,z15,z16⟩,⟨p0,p1,p2,p3,p4,p5,p6,p7,p8,p9,p10,p11,p12,p13,p14,p15,p16⟩,E,fun c hc=>?_,?_⟩
  ·simp only[List.mem_cons,List.not_mem_nil,or_false]at hc
   rcases hc with rfl | rfl | rfl | rfl | rfl | rfl | rfl | rfl | rfl | rfl | rfl | rfl | rfl | rfl | rfl | rfl | rfl<;>assumption
  ·simp only[Ap,cellsOf,RdL]
   exact⟨_,_,E,r0,_,_,E,r1,_,_,E,r2,_,_,E,r3,_,_,E,r4,_,_,E,r5,_,_,E,r6,_,_,E,r7,_,_,E,r8,_,_,E,r9,_,_,E,r10,_,_,E,r11,_,_,E,r12,_,_,E,r13,_,_,E,r14,_,_,E,r15,_,_,E,r16,E⟩
theorem Af7:Op1 enc Tryz.prog W 22 (fun l:List LineM=>.sl 17 Ap l) (fun l=>(∀ x∈l,LineM.In x)∧l.length≤maxLen) :=
 Iy Tryz.underlying22 (by kernel_rfl:Tryz.prog.cellsOf 66=17) j_ (fun _=>rfl) (fun _=>rfl) Aea
end
end Go.Sy.YtjenpnjajjplkaaGreatDoor
namespace Go.Sy.YtjenpnjajjplkaaGreatDoor
open Go.Proofs
theorem Ain {l:LineM} (h:LineM.In l):LineOK l:=by
 obtain ⟨_,_,_,_,_,_,_,h8,h9,_,_,_,_,_,_,_,h17⟩:=h
 refine⟨?_,?_,fun x hx=>?_⟩
 ·simp only[wI,Lit.wf,decide_eq_true_eq,Bool.and_eq_true]at h8
  exact⟨h8.1,Int.lt_of_le_of_lt h8.2 j_⟩
 ·simp only[wI,Lit.wf,decide_eq_true_eq,Bool.and_eq_true]at h9
  exact⟨h9.1,Int.lt_of_le_of_lt h9.2 j_⟩
 ·have h1:=h17.1 x hx
  simp only[wI,Lit.wf,decide_eq_true_eq,Bool.and_eq_true]at h1
  exact⟨h1.1,Int.lt_of_le_of_lt h1.2 j_⟩
end Go.Sy.YtjenpnjajjplkaaGreatDoor
namespace Go.Sy.YtjenpnjajjplkaaGreatDoor
open Go.Proofs
attribute [local irreducible] Go.Sy.G Go.Sy.DR
set_option maxRecDepth 20000
set_option maxHeartbeats 4000000
theorem X4 (n:Net) (i:Int):Sy.Spec Tryz.prog 113 [Aj n,Aa i] [] (Ab (Ah i n.ports.length)) []:=cT F113 Tryz.ntmps113 fun F hF=>by
 ((conv=>whnf);repeat((first|refine aF ?_|refine aT ?_);(first|refine rG Γ hm ?_|refine rD Γ hm z_ ?_);conv=>whnf))
 refine⟨fun h=>?_,fun h=>?_⟩
 ·have h1:0≤i:=of_decide_eq_true h
  ((first|refine rG Γ hm ?_|refine rD Γ hm z_ ?_);(conv=>whnf);repeat((first|refine aF ?_|refine aT ?_);(first|refine rG Γ hm ?_|refine rD Γ hm z_ ?_);conv=>whnf))
  refine At E (.cons .tmp .nil) (congrArg Ab ?_) E
  rw[Ah,decide_eq_true h1,Bool.true_and]
 ·have h1:¬ 0≤i:=of_decide_eq_false h
  ((first|refine rG Γ hm ?_|refine rD Γ hm z_ ?_);(conv=>whnf);repeat((first|refine aF ?_|refine aT ?_);(first|refine rG Γ hm ?_|refine rD Γ hm z_ ?_);conv=>whnf))
  refine At E (.cons .tmp .nil) (congrArg Ab ?_) E
  rw[Ah,decide_eq_false h1,Bool.false_and]
theorem Adv (n:Net) (hb:Ac n=true) (hnm:Hc n) (i:Int) (hi:0≤i∧i<n.ports.length):Sy.Spec Tryz.prog 115 [Aj n,Aa i] [] (Ai (Bp n i)) []:=cT F115 Tryz.ntmps115 fun F hF=>by
 have hk:i.toNat<n.ports.length:=by omega
 have hf:=Jk hb hk
 have e1:nth n.ports i=n.ports[i.toNat]:=Am hk
 have hpn:=hnm.2 _ (List.getElem_mem hk)
 rw[Bp,e1]
 obtain ⟨p,hp⟩:∃ p,n.ports[i.toNat]=p:=⟨_,rfl⟩
 rw[hp]at hf hpn ⊢
 have e2:nth n.devices p.dev=n.devices[p.dev.toNat]:=Am hf.2
 rw[e2]
 have hdn:=hnm.1 _ (List.getElem_mem hf.2)
 obtain ⟨x,hx⟩:∃ x,n.devices[p.dev.toNat]'hf.2=x:=⟨_,rfl⟩
 rw[hx]at hdn ⊢
 have hs1:(⟨#[46]⟩:ByteArray).size=1:=rfl
 have hs2:=X3 x.name ⟨#[46]⟩
 ((conv=>whnf);repeat((first|refine aF ?_|refine aT ?_);(first|refine rG Γ hm ?_|refine rD Γ hm z_ ?_);conv=>whnf))
 refine⟨E,hi.1,hk,?_⟩
 rw[hp]
 ((conv=>whnf);repeat((first|refine aF ?_|refine aT ?_);(first|refine rG Γ hm ?_|refine rD Γ hm z_ ?_);conv=>whnf))
 refine⟨E,hf.1,hf.2,?_⟩
 rw[hx]
 ((conv=>whnf);repeat((first|refine aF ?_|refine aT ?_);(first|refine rG Γ hm ?_|refine rD Γ hm z_ ?_);conv=>whnf))
 refine⟨by omega,?_⟩
 ((conv=>whnf);repeat((first|refine aF ?_|refine aT ?_);(first|refine rG Γ hm ?_|refine rD Γ hm z_ ?_);conv=>whnf))
 refine⟨by omega,?_⟩
 ((conv=>whnf);repeat((first|refine aF ?_|refine aT ?_);(first|refine rG Γ hm ?_|refine rD Γ hm z_ ?_);conv=>whnf))
 refine⟨z_,?_⟩
 ((conv=>whnf);repeat((first|refine aF ?_|refine aT ?_);(first|refine rG Γ hm ?_|refine rD Γ hm z_ ?_);conv=>whnf))
 exact dN
theorem U9 {i:Int} {n:Nat} (h:Ah i n=true):0≤i∧i<n:=by simpa [Ah] using h
theorem Ky (l:List ByteArray) (h0:l.length≤1000000) (h1:Mg l≤1000000000):Sy.Spec Tryz.prog 114 [.sl 1 Ai l] [] (Ai (Ci l ⟨#[32]⟩)) []:=cT F114 Tryz.ntmps114 fun F hF=>by
 have q:=Xw l ⟨#[32]⟩ q_ q_ (by show 1 * l.length≤_;omega)
 generalize Ci l ⟨#[32]⟩=r at *
 ((conv=>whnf);repeat((first|refine aF ?_|refine aT ?_);(first|refine rG Γ hm ?_|refine rD Γ hm z_ ?_);conv=>whnf))
 refine c0 q F182 ?_
 ((first|refine rG Γ hm ?_|refine rD Γ hm z_ ?_);(conv=>whnf);repeat((first|refine aF ?_|refine aT ?_);(first|refine rG Γ hm ?_|refine rD Γ hm z_ ?_);conv=>whnf))
 exact dN
end Go.Sy.YtjenpnjajjplkaaGreatDoor
namespace Go.Sy.YtjenpnjajjplkaaGreatDoor
open Go.Proofs
attribute [local irreducible] Go.Sy.G Go.Sy.DR
set_option maxRecDepth 100000
set_option maxHeartbeats 4000000
abbrev vInject:ByteArray:=⟨#[105,110,106,101,99,116]⟩
abbrev vPick:ByteArray:=⟨#[112,105,99,107]⟩
abbrev vDrop:ByteArray:=⟨#[100,114,111,112]⟩
abbrev H8:ByteArray:=⟨#[116,105,99,107]⟩
abbrev vLinks:ByteArray:=⟨#[108,105,110,107,115]⟩
abbrev Afh:List SV:=[Ai ⟨#[]⟩,Ai vInject,Ai vPick,Ai vDrop,Ai H8,Ai vLinks]
abbrev Ao (k:Nat):Nat × Ob:=(k,.glob 6 (.agg Afh) 0)
def Zw (a:Int):Bool:=decide (0≤a) && decide (a≤999999999)
def siteRowT (n:Net) (x:StepM):ByteArray × Bool :=
 if x.kind=1 then (if Ah x.port n.ports.length=true then (Ci [vInject,Bp n x.port,L5 x.bytes] ⟨#[32]⟩,true) else (⟨#[]⟩,false))
 else if x.kind=2 then (Ci [vPick,Ca n x.domain,Cn x.at_] ⟨#[32]⟩,!(Ca n x.domain == ⟨#[]⟩) && Zw x.at_)
 else if x.kind=3 then (Ci [vDrop,Ca n x.domain,Cn x.at_] ⟨#[32]⟩,!(Ca n x.domain == ⟨#[]⟩) && Zw x.at_)
 else if x.kind=4 then (H8,true)
 else if x.kind=5 then (Ci [vLinks,Bj x.up] ⟨#[32]⟩,decide (x.up.length=n.links.length))
 else (⟨#[]⟩,false)
theorem Vn (l:List UInt8):(L5 l).size≤2 * l.length+1:=by
 unfold L5
 split
 ·show 1≤_;omega
 ·rw[Cf,Ki];omega
theorem Mc (l:List Bool):(Bj l).size≤l.length+1:=by
 unfold Bj
 split
 ·show 1≤_;omega
 ·rw[Cf,Dd,List.length_map];omega
theorem Ll {n:Net} (hb:Ac n=true) (hnm:Hc n) {i:Int} (hi:0≤i∧i<n.ports.length):(Bp n i).size≤700:=by
 have:=Aa5 hnm i
 rwa [U8,if_pos ⟨hi,hb⟩]at this
theorem Afp (a b:ByteArray):Mg [a,b]=a.size+(b.size+0):=rfl
theorem Wa (a b c:ByteArray):Mg [a,b,c]=a.size+(b.size+(c.size+0)):=rfl
theorem Afq (n:Net) (hn:n.Fin) (hb:Ac n=true) (hnm:Hc n) (x:StepM) (hw:El x.at_) (hbl:x.bytes.length<1000000) (hul:x.up.length<1000000) :
  Sy.Spec Tryz.prog 34 [Aj n,Bm x] [Ao 900] (.tup [Ai (siteRowT n x).1,Ab (siteRowT n x).2]) [Ao 900]:=cT F34 Tryz.ntmps34 fun F hF=>by
 obtain ⟨kd,port,dom,at_,bytes,up⟩:=x
 dsimp only at hw hbl hul
 have hres:=siteRowT.eq_1 n ⟨kd,port,dom,at_,bytes,up⟩
 dsimp only at hres
 generalize siteRowT n ⟨kd,port,dom,at_,bytes,up⟩=res at *
 have q0:=Tx n hn hnm dom
 have z0:=Vu hnm dom
 have q1:=X4 n port
 have q2:=fun hi=>Adv n hb hnm port hi
 have z2:=fun hi=>Ll hb hnm (i:=port) hi
 have q3:=Acd bytes hbl
 have z3:=Vn bytes
 have q4:=Vb at_ hw
 have z4:=Qr hw
 have q5:=Ah4 up hul
 have z5:=Mc up
 generalize Ca n dom=td at *
 generalize L5 bytes=tb at *
 generalize Cn at_=ta at *
 generalize Bj up=tu at *
 ((conv=>whnf);repeat((first|refine aF ?_|refine aT ?_);(first|refine rG Γ hm ?_|refine rD Γ hm z_ ?_);conv=>whnf))
 refine A6 2 8 (Aj n) E E E ?_
 ((first|refine rG Γ hm ?_|refine rD Γ hm z_ ?_);(conv=>whnf);repeat((first|refine aF ?_|refine aT ?_);(first|refine rG Γ hm ?_|refine rD Γ hm z_ ?_);conv=>whnf))
 refine A6 3 6 (Bm ⟨kd,port,dom,at_,bytes,up⟩) E E E ?_
 ((first|refine rG Γ hm ?_|refine rD Γ hm z_ ?_);(conv=>whnf);repeat((first|refine aF ?_|refine aT ?_);(first|refine rG Γ hm ?_|refine rD Γ hm z_ ?_);conv=>whnf))
 refine c0 q0 F90 ?_
 ((first|refine rG Γ hm ?_|refine rD Γ hm z_ ?_);(conv=>whnf);repeat((first|refine aF ?_|refine aT ?_);(first|refine rG Γ hm ?_|refine rD Γ hm z_ ?_);conv=>whnf))
 refine⟨fun h=>?_,fun h=>?_⟩
 ·obtain rfl:kd=1:=by simpa using h
  rw[if_pos rfl]at hres
  ((first|refine rG Γ hm ?_|refine rD Γ hm z_ ?_);(conv=>whnf);repeat((first|refine aF ?_|refine aT ?_);(first|refine rG Γ hm ?_|refine rD Γ hm z_ ?_);conv=>whnf))
  refine c0 q1 F113 ?_
  cases hp:Ah port n.ports.length
  ·rw[if_neg (by simp[hp])]at hres
   subst hres
   ((first|refine rG Γ hm ?_|refine rD Γ hm z_ ?_);(conv=>whnf);repeat((first|refine aF ?_|refine aT ?_);(first|refine rG Γ hm ?_|refine rD Γ hm z_ ?_);conv=>whnf))
   exact done E (.cons .tmp (.cons .tmp .nil)) [] [Ao 900] (fun _ h=>h) E E ⟨Y,⟨.inl E,E,Y⟩,E,E⟩
  rw[if_pos hp]at hres
  subst hres
  have hi:=U9 hp
  have q2:=q2 hi
  have z2:=z2 hi
  generalize Bp n port=tp at *
  have q6:=Ky [vInject,tp,tb] y_ (by rw[Wa];show 6+_≤_;omega)
  generalize Ci [vInject,tp,tb] ⟨#[32]⟩=tj at *
  ((first|refine rG Γ hm ?_|refine rD Γ hm z_ ?_);(conv=>whnf);repeat((first|refine aF ?_|refine aT ?_);(first|refine rG Γ hm ?_|refine rD Γ hm z_ ?_);conv=>whnf))
  refine I8 (GoodX.glob Γ.toTy 900 E E E E E (by show (0:Int)≤1;decide) (by show (1:Int).toNat<6;decide)) E z_ ?_
  ((first|refine rG Γ hm ?_|refine rD Γ hm z_ ?_);(conv=>whnf);repeat((first|refine aF ?_|refine aT ?_);(first|refine rG Γ hm ?_|refine rD Γ hm z_ ?_);conv=>whnf))
  refine cD q2 F115 ?_
  ((first|refine rG Γ hm ?_|refine rD Γ hm z_ ?_);(conv=>whnf);repeat((first|refine aF ?_|refine aT ?_);(first|refine rG Γ hm ?_|refine rD Γ hm z_ ?_);conv=>whnf))
  refine cD q3 F116 ?_
  ((first|refine rG Γ hm ?_|refine rD Γ hm z_ ?_);(conv=>whnf);repeat((first|refine aF ?_|refine aT ?_);(first|refine rG Γ hm ?_|refine rD Γ hm z_ ?_);conv=>whnf))
  refine T3 [32] q6 F114 E (.cons (.lit E E E) .nil) E z_ E ?_
  ((first|refine rG Γ hm ?_|refine rD Γ hm z_ ?_);(conv=>whnf);repeat((first|refine aF ?_|refine aT ?_);(first|refine rG Γ hm ?_|refine rD Γ hm z_ ?_);conv=>whnf))
  refine⟨z_,?_⟩
  ((conv=>whnf);repeat((first|refine aF ?_|refine aT ?_);(first|refine rG Γ hm ?_|refine rD Γ hm z_ ?_);conv=>whnf))
  exact done E (.cons .tmp (.cons .tmp .nil)) [] [Ao 900] (fun _ h=>h) E E ⟨Y,⟨.inl E,E,Y⟩,E,E⟩
 rw[if_neg (by simpa using h)]at hres
 ((first|refine rG Γ hm ?_|refine rD Γ hm z_ ?_);(conv=>whnf);repeat((first|refine aF ?_|refine aT ?_);(first|refine rG Γ hm ?_|refine rD Γ hm z_ ?_);conv=>whnf))
 refine⟨fun h2=>?_,fun h2=>?_⟩
 ·obtain rfl:kd=2:=by simpa using h2
  rw[if_pos rfl]at hres
  have q6:=Ky [vPick,td,ta] y_ (by rw[Wa];show 4+_≤_;omega)
  generalize Ci [vPick,td,ta] ⟨#[32]⟩=tj at *
  ((first|refine rG Γ hm ?_|refine rD Γ hm z_ ?_);(conv=>whnf);repeat((first|refine aF ?_|refine aT ?_);(first|refine rG Γ hm ?_|refine rD Γ hm z_ ?_);conv=>whnf))
  refine I8 (GoodX.glob Γ.toTy 900 E E E E E (by show (0:Int)≤2;decide) (by show (2:Int).toNat<6;decide)) E z_ ?_
  ((first|refine rG Γ hm ?_|refine rD Γ hm z_ ?_);(conv=>whnf);repeat((first|refine aF ?_|refine aT ?_);(first|refine rG Γ hm ?_|refine rD Γ hm z_ ?_);conv=>whnf))
  refine cD q4 F117 ?_
  ((first|refine rG Γ hm ?_|refine rD Γ hm z_ ?_);(conv=>whnf);repeat((first|refine aF ?_|refine aT ?_);(first|refine rG Γ hm ?_|refine rD Γ hm z_ ?_);conv=>whnf))
  refine T3 [45] q6 F114 E (.cons (.lit E E E) .nil) E z_ E ?_
  ((first|refine rG Γ hm ?_|refine rD Γ hm z_ ?_);(conv=>whnf);repeat((first|refine aF ?_|refine aT ?_);(first|refine rG Γ hm ?_|refine rD Γ hm z_ ?_);conv=>whnf))
  refine⟨fun h3=>?_,fun h3=>?_⟩
  ·rw[h3,Bool.true_and,Zw]at hres
   ((first|refine rG Γ hm ?_|refine rD Γ hm z_ ?_);(conv=>whnf);repeat((first|refine aF ?_|refine aT ?_);(first|refine rG Γ hm ?_|refine rD Γ hm z_ ?_);conv=>whnf))
   refine⟨fun h4=>?_,fun h4=>?_⟩
   ·rw[h4,Bool.true_and]at hres
    subst hres
    ((first|refine rG Γ hm ?_|refine rD Γ hm z_ ?_);(conv=>whnf);repeat((first|refine aF ?_|refine aT ?_);(first|refine rG Γ hm ?_|refine rD Γ hm z_ ?_);conv=>whnf))
    refine⟨z_,?_⟩
    ((conv=>whnf);repeat((first|refine aF ?_|refine aT ?_);(first|refine rG Γ hm ?_|refine rD Γ hm z_ ?_);conv=>whnf))
    exact done E (.cons .tmp (.cons .tmp .nil)) [] [Ao 900] (fun _ h=>h) E E ⟨Y,⟨.inl E,E,Y⟩,E,E⟩
   ·rw[h4,Bool.false_and]at hres
    subst hres
    ((first|refine rG Γ hm ?_|refine rD Γ hm z_ ?_);(conv=>whnf);repeat((first|refine aF ?_|refine aT ?_);(first|refine rG Γ hm ?_|refine rD Γ hm z_ ?_);conv=>whnf))
    refine⟨z_,?_⟩
    ((conv=>whnf);repeat((first|refine aF ?_|refine aT ?_);(first|refine rG Γ hm ?_|refine rD Γ hm z_ ?_);conv=>whnf))
    exact done E (.cons .tmp (.cons .tmp .nil)) [] [Ao 900] (fun _ h=>h) E E ⟨Y,⟨.inl E,E,Y⟩,E,E⟩
  ·rw[h3,Bool.false_and]at hres
   subst hres
   ((first|refine rG Γ hm ?_|refine rD Γ hm z_ ?_);(conv=>whnf);repeat((first|refine aF ?_|refine aT ?_);(first|refine rG Γ hm ?_|refine rD Γ hm z_ ?_);conv=>whnf))
   refine⟨z_,?_⟩
   ((conv=>whnf);repeat((first|refine aF ?_|refine aT ?_);(first|refine rG Γ hm ?_|refine rD Γ hm z_ ?_);conv=>whnf))
   exact done E (.cons .tmp (.cons .tmp .nil)) [] [Ao 900] (fun _ h=>h) E E ⟨Y,⟨.inl E,E,Y⟩,E,E⟩
 rw[if_neg (by simpa using h2)]at hres
 clear h2
 ((first|refine rG Γ hm ?_|refine rD Γ hm z_ ?_);(conv=>whnf);repeat((first|refine aF ?_|refine aT ?_);(first|refine rG Γ hm ?_|refine rD Γ hm z_ ?_);conv=>whnf))
 refine⟨fun h2=>?_,fun h2=>?_⟩
 ·obtain rfl:kd=3:=by simpa using h2
  rw[if_pos rfl]at hres
  have q6:=Ky [vDrop,td,ta] y_ (by rw[Wa];show 4+_≤_;omega)
  generalize Ci [vDrop,td,ta] ⟨#[32]⟩=tj at *
  ((first|refine rG Γ hm ?_|refine rD Γ hm z_ ?_);(conv=>whnf);repeat((first|refine aF ?_|refine aT ?_);(first|refine rG Γ hm ?_|refine rD Γ hm z_ ?_);conv=>whnf))
  refine I8 (GoodX.glob Γ.toTy 900 E E E E E (by show (0:Int)≤3;decide) (by show (3:Int).toNat<6;decide)) E z_ ?_
  ((first|refine rG Γ hm ?_|refine rD Γ hm z_ ?_);(conv=>whnf);repeat((first|refine aF ?_|refine aT ?_);(first|refine rG Γ hm ?_|refine rD Γ hm z_ ?_);conv=>whnf))
  refine cD q4 F117 ?_
  ((first|refine rG Γ hm ?_|refine rD Γ hm z_ ?_);(conv=>whnf);repeat((first|refine aF ?_|refine aT ?_);(first|refine rG Γ hm ?_|refine rD Γ hm z_ ?_);conv=>whnf))
  refine T3 [45] q6 F114 E (.cons (.lit E E E) .nil) E z_ E ?_
  ((first|refine rG Γ hm ?_|refine rD Γ hm z_ ?_);(conv=>whnf);repeat((first|refine aF ?_|refine aT ?_);(first|refine rG Γ hm ?_|refine rD Γ hm z_ ?_);conv=>whnf))
  refine⟨fun h3=>?_,fun h3=>?_⟩
  ·rw[h3,Bool.true_and,Zw]at hres
   ((first|refine rG Γ hm ?_|refine rD Γ hm z_ ?_);(conv=>whnf);repeat((first|refine aF ?_|refine aT ?_);(first|refine rG Γ hm ?_|refine rD Γ hm z_ ?_);conv=>whnf))
   refine⟨fun h4=>?_,fun h4=>?_⟩
   ·rw[h4,Bool.true_and]at hres
    subst hres
    ((first|refine rG Γ hm ?_|refine rD Γ hm z_ ?_);(conv=>whnf);repeat((first|refine aF ?_|refine aT ?_);(first|refine rG Γ hm ?_|refine rD Γ hm z_ ?_);conv=>whnf))
    refine⟨z_,?_⟩
    ((conv=>whnf);repeat((first|refine aF ?_|refine aT ?_);(first|refine rG Γ hm ?_|refine rD Γ hm z_ ?_);conv=>whnf))
    exact done E (.cons .tmp (.cons .tmp .nil)) [] [Ao 900] (fun _ h=>h) E E ⟨Y,⟨.inl E,E,Y⟩,E,E⟩
   ·rw[h4,Bool.false_and]at hres
    subst hres
    ((first|refine rG Γ hm ?_|refine rD Γ hm z_ ?_);(conv=>whnf);repeat((first|refine aF ?_|refine aT ?_);(first|refine rG Γ hm ?_|refine rD Γ hm z_ ?_);conv=>whnf))
    refine⟨z_,?_⟩
    ((conv=>whnf);repeat((first|refine aF ?_|refine aT ?_);(first|refine rG Γ hm ?_|refine rD Γ hm z_ ?_);conv=>whnf))
    exact done E (.cons .tmp (.cons .tmp .nil)) [] [Ao 900] (fun _ h=>h) E E ⟨Y,⟨.inl E,E,Y⟩,E,E⟩
  ·rw[h3,Bool.false_and]at hres
   subst hres
   ((first|refine rG Γ hm ?_|refine rD Γ hm z_ ?_);(conv=>whnf);repeat((first|refine aF ?_|refine aT ?_);(first|refine rG Γ hm ?_|refine rD Γ hm z_ ?_);conv=>whnf))
   refine⟨z_,?_⟩
   ((conv=>whnf);repeat((first|refine aF ?_|refine aT ?_);(first|refine rG Γ hm ?_|refine rD Γ hm z_ ?_);conv=>whnf))
   exact done E (.cons .tmp (.cons .tmp .nil)) [] [Ao 900] (fun _ h=>h) E E ⟨Y,⟨.inl E,E,Y⟩,E,E⟩
 rw[if_neg (by simpa using h2)]at hres
 clear h2
 ((first|refine rG Γ hm ?_|refine rD Γ hm z_ ?_);(conv=>whnf);repeat((first|refine aF ?_|refine aT ?_);(first|refine rG Γ hm ?_|refine rD Γ hm z_ ?_);conv=>whnf))
 refine⟨fun h2=>?_,fun h2=>?_⟩
 ·obtain rfl:kd=4:=by simpa using h2
  rw[if_pos rfl]at hres
  subst hres
  ((first|refine rG Γ hm ?_|refine rD Γ hm z_ ?_);(conv=>whnf);repeat((first|refine aF ?_|refine aT ?_);(first|refine rG Γ hm ?_|refine rD Γ hm z_ ?_);conv=>whnf))
  refine Aw (E7 Γ.toTy 900 E E E E E (by show (0:Int)≤4;decide) (by show (4:Int).toNat<6;decide)) E E ?_
  ((first|refine rG Γ hm ?_|refine rD Γ hm z_ ?_);(conv=>whnf);repeat((first|refine aF ?_|refine aT ?_);(first|refine rG Γ hm ?_|refine rD Γ hm z_ ?_);conv=>whnf))
  exact done E (.cons .tmp (.cons .tmp .nil)) [] [Ao 900] (fun _ h=>h) E E ⟨Y,⟨.inl E,E,Y⟩,E,E⟩
 rw[if_neg (by simpa using h2)]at hres
 clear h2
 ((first|refine rG Γ hm ?_|refine rD Γ hm z_ ?_);(conv=>whnf);repeat((first|refine aF ?_|refine aT ?_);(first|refine rG Γ hm ?_|refine rD Γ hm z_ ?_);conv=>whnf))
 refine⟨fun h2=>?_,fun h2=>?_⟩
 ·obtain rfl:kd=5:=by simpa using h2
  rw[if_pos rfl]at hres
  have q6:=Ky [vLinks,tu] y_ (by rw[Afp];show 5+_≤_;omega)
  generalize Ci [vLinks,tu] ⟨#[32]⟩=tj at *
  subst hres
  ((first|refine rG Γ hm ?_|refine rD Γ hm z_ ?_);(conv=>whnf);repeat((first|refine aF ?_|refine aT ?_);(first|refine rG Γ hm ?_|refine rD Γ hm z_ ?_);conv=>whnf))
  refine I8 (GoodX.glob Γ.toTy 900 E E E E E (by show (0:Int)≤5;decide) (by show (5:Int).toNat<6;decide)) E z_ ?_
  ((first|refine rG Γ hm ?_|refine rD Γ hm z_ ?_);(conv=>whnf);repeat((first|refine aF ?_|refine aT ?_);(first|refine rG Γ hm ?_|refine rD Γ hm z_ ?_);conv=>whnf))
  refine cD q5 F118 ?_
  ((first|refine rG Γ hm ?_|refine rD Γ hm z_ ?_);(conv=>whnf);repeat((first|refine aF ?_|refine aT ?_);(first|refine rG Γ hm ?_|refine rD Γ hm z_ ?_);conv=>whnf))
  refine T3 [74] q6 F114 E (.cons (.lit E E E) .nil) E z_ E ?_
  ((first|refine rG Γ hm ?_|refine rD Γ hm z_ ?_);(conv=>whnf);repeat((first|refine aF ?_|refine aT ?_);(first|refine rG Γ hm ?_|refine rD Γ hm z_ ?_);conv=>whnf))
  refine⟨z_,?_⟩
  ((conv=>whnf);repeat((first|refine aF ?_|refine aT ?_);(first|refine rG Γ hm ?_|refine rD Γ hm z_ ?_);conv=>whnf))
  refine done E (.cons .tmp (.cons .tmp .nil)) [] [Ao 900] (fun _ h=>h) ?_ E ⟨Y,⟨.inl E,E,Y⟩,E,E⟩
  refine congrArg (fun b=>SV.tup [Ai tj,Ab b]) ?_
  rw[Bool.eq_iff_iff];simp;omega
 rw[if_neg (by simpa using h2)]at hres
 subst hres
 ((first|refine rG Γ hm ?_|refine rD Γ hm z_ ?_);(conv=>whnf);repeat((first|refine aF ?_|refine aT ?_);(first|refine rG Γ hm ?_|refine rD Γ hm z_ ?_);conv=>whnf))
 exact done E (.cons .tmp (.cons .tmp .nil)) [] [Ao 900] (fun _ h=>h) E E ⟨Y,⟨.inl E,E,Y⟩,E,E⟩
theorem L8 (a b:ByteArray):(a == b)=true↔a=b:=by
 constructor
 ·intro h
  have:a.data=b.data:=by simpa using (show (a.data == b.data)=true from h)
  cases a;cases b;simp_all
 ·rintro rfl
  show (a.data == a.data)=true
  simp
structure StepOK (x:StepM):Prop where
 at_:El x.at_
 bytes:x.bytes.length≤100000
 up:x.up.length≤100000
theorem Y6 (a b:ByteArray):(Ci [a,b] ⟨#[32]⟩).size≤a.size+b.size+2:=by
 have:=L4 [a,b] ⟨#[32]⟩
 rw[Afp]at this
 have e:(⟨#[32]⟩:ByteArray).size * [a,b].length=2:=rfl
 omega
theorem Kf (a b c:ByteArray):(Ci [a,b,c] ⟨#[32]⟩).size≤a.size+b.size+c.size+3:=by
 have:=L4 [a,b,c] ⟨#[32]⟩
 rw[Wa]at this
 have e:(⟨#[32]⟩:ByteArray).size * [a,b,c].length=3:=rfl
 omega
theorem Mh {n:Net} (hb:Ac n=true) (hnm:Hc n) {x:StepM} (hx:StepOK x):(siteRowT n x).1.size≤300000:=by
 have z1:=Vn x.bytes
 have z2:=Mc x.up
 have z3:=Qr hx.at_
 have z4:=Vu hnm x.domain
 have h1:=hx.bytes
 have h2:=hx.up
 unfold siteRowT
 split
 ·split
  ·rename_i hp
   have z5:=Ll hb hnm (U9 hp)
   have:=Kf vInject (Bp n x.port) (L5 x.bytes)
   have e:vInject.size=6:=rfl
   dsimp only;omega
  ·show 0≤_;omega
 split
 ·have:=Kf vPick (Ca n x.domain) (Cn x.at_)
  have e:vPick.size=4:=rfl
  dsimp only;omega
 split
 ·have:=Kf vDrop (Ca n x.domain) (Cn x.at_)
  have e:vDrop.size=4:=rfl
  dsimp only;omega
 split
 ·show 4≤_;omega
 split
 ·have:=Y6 vLinks (Bj x.up)
  have e:vLinks.size=5:=rfl
  dsimp only;omega
 ·show 0≤_;omega
def Aib (n:Net) (x:StepM):List UInt8:=(siteRowT n x).1.data.toList++[10]
def Dm (n:Net) (l:List StepM):List UInt8:=l.flatMap (Aib n)
def S3 (n:Net) (x:StepM):Bool:=(siteRowT n x).2
def printT (n:Net) (l:List StepM):List UInt8 × Int :=
 if Ac n=false then ([],2) else if l.all (S3 n)=false then ([],2) else if 400<l.length∨20000<(Dm n l).length then ([],3) else (Dm n l,0)
theorem Yi (n:Net) (l:List StepM) {j:Nat} (h:j<l.length):Dm n (l.take (j+1))=Dm n (l.take j)++(siteRowT n l[j]).1.data.toList++[10]:=by
 rw[Dm,Dm,List.take_succ_eq_append_getElem h,List.flatMap_append,List.append_assoc,List.flatMap_cons,List.flatMap_nil,List.append_nil]
 rfl
theorem X8 {n:Net} (hb:Ac n=true) (hnm:Hc n) {x:StepM} (hx:StepOK x):(Aib n x).length≤300001:=by
 rw[Aib,List.length_append]
 exact Nat.succ_le_succ (Mh hb hnm hx)
theorem Ac5 {α:Type} {f:α→List UInt8} {k:Nat}:∀ l:List α,(∀ x∈l,(f x).length≤k)→(l.flatMap f).length≤k * l.length
 | [],_=>by simp
 | x::l,h=>by
  have h1:=h x y_
  have h2:=Ac5 l fun y hy=>h y (by simp[hy])
  rw[List.flatMap_cons,List.length_append,List.length_cons,Nat.mul_add]
  omega
theorem Ad4 {n:Net} (hb:Ac n=true) (hnm:Hc n) (l:List StepM) (hl:∀ x∈l,StepOK x):(Dm n l).length≤300001 * l.length :=
 Ac5 l fun x hx=>X8 hb hnm (hl x hx)
theorem Ahp {α:Type} {p:α→Bool} {l:List α} {j:Nat} (hI:Dw (fun _ x=>p x) l j) (hj:l.length≤j):l.all p=true:=by
 rw[List.all_eq_true]
 intro x hx
 obtain ⟨i,hi,rfl⟩:=List.mem_iff_getElem.1 hx
 exact hI i hi q_
theorem all_at {α:Type} {p:α→Bool} {l:List α} {j:Nat} (hj:j<l.length) (h:p l[j]=false):l.all p=false:=by
 cases ha:l.all p
 ·rfl
 ·rw[List.all_eq_true]at ha
  rw[ha _ (List.getElem_mem hj)]at h;cases h
theorem Io (n:Net) (hn:n.Fin) (hnm:Hc n) (l:List StepM) (hl:l.length≤1000) (hs:∀ x∈l,StepOK x) :
  Sy.Spec Tryz.prog 14 [Aj n,.sl 6 Bm l] [Ao 900] (.tup [.sl 1 Ak (printT n l).1,Aa (printT n l).2]) [Ao 900]:=cT F14 Tryz.ntmps14 fun F hF=>by
 have hres:=printT.eq_1 n l
 generalize printT n l=res at *
 have hr:=Bd n hn
 ((conv=>whnf);repeat((first|refine aF ?_|refine aT ?_);(first|refine rG Γ hm ?_|refine rD Γ hm z_ ?_);conv=>whnf))
 refine c0 hr F25 ?_
 cases hb:Ac n
 ·rw[if_pos hb]at hres
  subst hres
  ((first|refine rG Γ hm ?_|refine rD Γ hm z_ ?_);(conv=>whnf);repeat((first|refine aF ?_|refine aT ?_);(first|refine rG Γ hm ?_|refine rD Γ hm z_ ?_);conv=>whnf))
  refine Ch 4 1 Ak E ?_
  ((first|refine rG Γ hm ?_|refine rD Γ hm z_ ?_);(conv=>whnf);repeat((first|refine aF ?_|refine aT ?_);(first|refine rG Γ hm ?_|refine rD Γ hm z_ ?_);conv=>whnf))
  exact done E (.cons .tmp (.cons .tmp .nil)) [] [Ao 900] (fun _ h=>h) E E ⟨Y,⟨.inl E,E,Y⟩,E,E⟩
 rw[if_neg (by simp[hb])]at hres
 ((first|refine rG Γ hm ?_|refine rD Γ hm z_ ?_);(conv=>whnf);repeat((first|refine aF ?_|refine aT ?_);(first|refine rG Γ hm ?_|refine rD Γ hm z_ ?_);conv=>whnf))
 refine A6 2 8 (Aj n) E E E ?_
 refine Cb 6 1000 1 Ak E E ?_
 refine A3 l.length (fun j=>Dw (fun _ x=>S3 n x) l j) (fun j=>[(1,.sl 6 Bm l),(2,.ref 8 (Aj n) 0),(6,.osl 1000),(14,.sl 6 Bm l),(15,Aa l.length),(16,Aa j)]) (fun j=>[(1000,.row 1 Ak (Dm n (l.take j))),Ao 900]) [] (Bb _ _)
  ⟨⟨rfl,rfl,rfl,rfl,rfl,rfl,rfl,rfl,rfl,rfl,rfl,rfl,trivial⟩,⟨.inl rfl,rfl,.inl rfl,rfl,trivial⟩,rfl,rfl⟩ ?_
 intro j hj hI
 ((first|refine rG Γ hm ?_|refine rD Γ hm z_ ?_);(conv=>whnf);repeat((first|refine aF ?_|refine aT ?_);(first|refine rG Γ hm ?_|refine rD Γ hm z_ ?_);conv=>whnf))
 refine⟨fun h=>?_,fun h=>?_⟩
 ·have hlt:j<l.length:=by simpa using h
  have hj0:((j:Nat):Int).toNat<l.length:=by simpa using hlt
  have hsucc:=Yi n l hlt
  have hpl:=Ad4 hb hnm (l.take j) (fun x hx=>hs x (List.mem_of_mem_take hx))
  have htl:(l.take j).length≤1000:=by rw[List.length_take];omega
  have hno:=fun h=>@all_at _ (S3 n) l j hlt h
  have hok:=hs _ (List.getElem_mem hlt)
  have hnx:=fun h=>A8 (p:=fun _ x=>S3 n x) hI hlt h
  obtain ⟨x,hx⟩:∃ x,l[((j:Nat):Int).toNat]'hj0=x:=⟨_,rfl⟩
  have hx':l[j]=x:=hx
  rw[hx']at hsucc hno hok hnx
  have q:=Afq n hn hb hnm x hok.at_ (by have:=hok.bytes;omega) (by have:=hok.up;omega)
  have hsz:=Mh hb hnm hok
  obtain ⟨u,hu⟩:∃ u,Dm n (l.take j)=u:=⟨_,rfl⟩
  rw[hu]at hsucc hpl ⊢
  simp only[S3]at hno hnx
  obtain ⟨xs,hxs⟩:∃ xs,Dm n (l.take (j+1))=xs:=⟨_,rfl⟩
  rw[hxs]at hsucc
  obtain ⟨⟨t,ok⟩,hto⟩:∃ p,siteRowT n x=p:=⟨_,rfl⟩
  rw[hto]at q hno hnx hsucc hsz
  dsimp only at q hno hnx hsucc hsz
  ((first|refine rG Γ hm ?_|refine rD Γ hm z_ ?_);(conv=>whnf);repeat((first|refine aF ?_|refine aT ?_);(first|refine rG Γ hm ?_|refine rD Γ hm z_ ?_);conv=>whnf))
  refine⟨E,by omega,hj0,?_⟩
  rw[hx]
  ((conv=>whnf);repeat((first|refine aF ?_|refine aT ?_);(first|refine rG Γ hm ?_|refine rD Γ hm z_ ?_);conv=>whnf))
  refine Aw (Ad [(900,900)] E F34 q E ⟨E,Y⟩ E ⟨.inl E,Y⟩) E E ?_
  cases ok
  ·rw[if_pos (hno rfl)]at hres
   subst hres
   ((first|refine rG Γ hm ?_|refine rD Γ hm z_ ?_);(conv=>whnf);repeat((first|refine aF ?_|refine aT ?_);(first|refine rG Γ hm ?_|refine rD Γ hm z_ ?_);conv=>whnf))
   refine Ch 4 1 Ak E ?_
   ((first|refine rG Γ hm ?_|refine rD Γ hm z_ ?_);(conv=>whnf);repeat((first|refine aF ?_|refine aT ?_);(first|refine rG Γ hm ?_|refine rD Γ hm z_ ?_);conv=>whnf))
   exact done E (.cons .tmp (.cons .tmp .nil)) [] [Ao 900] (fun _ h=>h) E E ⟨Y,⟨.inl E,E,Y⟩,E,E⟩
  have hnx:=hnx rfl
  have e1:t.data.toList.length=t.size:=rfl
  ((first|refine rG Γ hm ?_|refine rD Γ hm z_ ?_);(conv=>whnf);repeat((first|refine aF ?_|refine aT ?_);(first|refine rG Γ hm ?_|refine rD Γ hm z_ ?_);conv=>whnf))
  refine Aw (W2 Γ.toTy 31 E E E E E E E (.row E) E y_ q_ q_) E E ?_
  ((first|refine rG Γ hm ?_|refine rD Γ hm z_ ?_);(conv=>whnf);repeat((first|refine aF ?_|refine aT ?_);(first|refine rG Γ hm ?_|refine rD Γ hm z_ ?_);conv=>whnf))
  refine Aw (Al Γ.toTy 33 E E E E E (.row E) (.lit (e:=Ak) (l:=[10]) E E) y_ (by simp;omega) (by simp;omega)) E E ?_
  ((first|refine rG Γ hm ?_|refine rD Γ hm z_ ?_);(conv=>whnf);repeat((first|refine aF ?_|refine aT ?_);(first|refine rG Γ hm ?_|refine rD Γ hm z_ ?_);conv=>whnf))
  refine iL ?_
  ((conv=>whnf);repeat((first|refine aF ?_|refine aT ?_);(first|refine rG Γ hm ?_|refine rD Γ hm z_ ?_);conv=>whnf))
  refine A1 [(1000,33)] hI q_ hnx ⟨⟨E,E,E,E,E,E,E,E,E,E,E,E,Y⟩,⟨.inl (congrArg (Ob.row 1 Ak) (hxs.trans hsucc)),E,.inl E,E,Y⟩,E,E⟩
 ·have hje:j=l.length:=qB h
  subst hje
  rw[if_neg (by rw[Ahp hI (Nat.le_refl _)];simp)]at hres
  rw[List.take_length]
  generalize Dm n l=out at *
  ((first|refine rG Γ hm ?_|refine rD Γ hm z_ ?_);(conv=>whnf);repeat((first|refine aF ?_|refine aT ?_);(first|refine rG Γ hm ?_|refine rD Γ hm z_ ?_);conv=>whnf))
  refine⟨fun h2=>?_,fun h2=>?_⟩
  ·rw[if_pos (.inl (by have:=of_decide_eq_true h2;omega))]at hres
   subst hres
   ((first|refine rG Γ hm ?_|refine rD Γ hm z_ ?_);(conv=>whnf);repeat((first|refine aF ?_|refine aT ?_);(first|refine rG Γ hm ?_|refine rD Γ hm z_ ?_);conv=>whnf))
   refine Ch 4 1 Ak E ?_
   ((first|refine rG Γ hm ?_|refine rD Γ hm z_ ?_);(conv=>whnf);repeat((first|refine aF ?_|refine aT ?_);(first|refine rG Γ hm ?_|refine rD Γ hm z_ ?_);conv=>whnf))
   exact done E (.cons .tmp (.cons .tmp .nil)) [] [Ao 900] (fun _ h=>h) E E ⟨Y,⟨.inl E,E,Y⟩,E,E⟩
  have h2:=of_decide_eq_false h2
  ((first|refine rG Γ hm ?_|refine rD Γ hm z_ ?_);(conv=>whnf);repeat((first|refine aF ?_|refine aT ?_);(first|refine rG Γ hm ?_|refine rD Γ hm z_ ?_);conv=>whnf))
  refine⟨fun h3=>?_,fun h3=>?_⟩
  ·rw[if_pos (.inr (by have:=of_decide_eq_true h3;omega))]at hres
   subst hres
   ((first|refine rG Γ hm ?_|refine rD Γ hm z_ ?_);(conv=>whnf);repeat((first|refine aF ?_|refine aT ?_);(first|refine rG Γ hm ?_|refine rD Γ hm z_ ?_);conv=>whnf))
   refine Ch 4 1 Ak E ?_
   ((first|refine rG Γ hm ?_|refine rD Γ hm z_ ?_);(conv=>whnf);repeat((first|refine aF ?_|refine aT ?_);(first|refine rG Γ hm ?_|refine rD Γ hm z_ ?_);conv=>whnf))
   exact done E (.cons .tmp (.cons .tmp .nil)) [] [Ao 900] (fun _ h=>h) E E ⟨Y,⟨.inl E,E,Y⟩,E,E⟩
  ·rw[if_neg (by have:=of_decide_eq_false h3;omega)]at hres
   subst hres
   refine Ae 1000 E ?_
   ((first|refine rG Γ hm ?_|refine rD Γ hm z_ ?_);(conv=>whnf);repeat((first|refine aF ?_|refine aT ?_);(first|refine rG Γ hm ?_|refine rD Γ hm z_ ?_);conv=>whnf))
   exact done E (.cons .tmp (.cons .tmp .nil)) [] [Ao 900] (fun _ h=>h) E E ⟨Y,⟨.inl E,E,Y⟩,E,E⟩
structure ReportM where
 kind:Int
 where_:Int
 row:Int
 error:Int
 from_:Int
 to:Int
 script:List StepM
end Go.Sy.YtjenpnjajjplkaaGreatDoor
namespace Go.Sy.YtjenpnjajjplkaaGreatDoor
open Go.Proofs Go.ChangeShapes Go.WideShapes Go.ChangeAt Go.RowKit
set_option maxRecDepth 100000
section
variable {H:Type} {enc:TypeId × Value→H} {W:World}
theorem Aga {P:Program} {t:TypeId} (ht:P.underlying t=some (.int .u8)):OpN enc P W t Ak (fun _=>True) 1:=fun n cs y h=>by
 obtain ⟨z,h1,h2,h3,h4⟩:=Wl ht n cs y h
 have hz:0≤z∧z<256:=by
  simp only[Lit.wf,Bool.and_eq_true,decide_eq_true_eq]at h1
  have a:=h1.1
  have b:=h1.2
  simp only[IntKind.min,IntKind.max,IntKind.signed,IntKind.bits]at a b
  constructor<;>simp at a b<;>omega
 refine⟨UInt8.ofNat z.toNat,Y,h2,h3,?_⟩
 have e:Ak (UInt8.ofNat z.toNat)=.val (.int .u8 z):=by
  rw[Ak,UInt8.toNat_ofNat_of_lt' (by show _<256;omega),Int.toNat_of_nonneg hz.1]
 rw[e];exact h4
theorem Yn:Op1 enc Tryz.prog W 24 (fun l:List UInt8=>.sl 1 Ak l) (fun l=>(∀ x∈l,True)∧l.length≤maxLen) :=
 Iy Tryz.underlying24 (by kernel_rfl:Tryz.prog.cellsOf 5=1) j_ (fun _=>rfl) (fun _=>rfl) (Aga Tryz.underlying5)
theorem Af8:Op1 enc Tryz.prog W 28 (fun l:List Bool=>.sl 1 Ab l) (fun l=>(∀ x∈l,True)∧l.length≤maxLen) :=
 Iy Tryz.underlying28 (by kernel_rfl:Tryz.prog.cellsOf 4=1) j_ (fun _=>rfl) (fun _=>rfl) (Agb Tryz.underlying4)
def StepM.In (x:StepM):Prop:=wI .i64 x.kind∧wI .i64 x.port∧wI .i64 x.domain∧wI .i64 x.at_∧((∀ y∈x.bytes,True)∧x.bytes.length≤maxLen)∧((∀ y∈x.up,True)∧x.up.length≤maxLen)
theorem Ad9:OpN enc Tryz.prog W 30 Bm StepM.In 6:=fun n cs y h=>by
 obtain ⟨xs,m,_,_,hlen,hx,hg⟩:=DataW.trod_struct Tryz.underlying30 h
 have hlen:cs.length=6:=hlen.trans (by kernel_rfl:Tryz.prog.cellsOf 30=6)
 have hx:xs.length=6:=hx
 match cs,hlen with
 | [c0,c1,c2,c3,c4,c5],_ =>
  have g0:DataW.trod enc Tryz.prog W 0 (fun _=>true) true m 3 (([c0,c1,c2,c3,c4,c5].drop 0).take (Tryz.prog.cellsOf 3))=xs[0]?:=hg 0 _ rfl
  rw[(by kernel_rfl:Tryz.prog.cellsOf 3=1),List.getElem?_eq_getElem q_]at g0
  obtain ⟨z0,p0,r0,o0⟩:=E6 Tryz.underlying3 _ _ _ g0
  have g1:DataW.trod enc Tryz.prog W 0 (fun _=>true) true m 3 (([c0,c1,c2,c3,c4,c5].drop 1).take (Tryz.prog.cellsOf 3))=xs[1]?:=hg 1 _ rfl
  rw[(by kernel_rfl:Tryz.prog.cellsOf 3=1),List.getElem?_eq_getElem q_]at g1
  obtain ⟨z1,p1,r1,o1⟩:=E6 Tryz.underlying3 _ _ _ g1
  have g2:DataW.trod enc Tryz.prog W 0 (fun _=>true) true m 3 (([c0,c1,c2,c3,c4,c5].drop 2).take (Tryz.prog.cellsOf 3))=xs[2]?:=hg 2 _ rfl
  rw[(by kernel_rfl:Tryz.prog.cellsOf 3=1),List.getElem?_eq_getElem q_]at g2
  obtain ⟨z2,p2,r2,o2⟩:=E6 Tryz.underlying3 _ _ _ g2
  have g3:DataW.trod enc Tryz.prog W 0 (fun _=>true) true m 3 (([c0,c1,c2,c3,c4,c5].drop 3).take (Tryz.prog.cellsOf 3))=xs[3]?:=hg 3 _ rfl
  rw[(by kernel_rfl:Tryz.prog.cellsOf 3=1),List.getElem?_eq_getElem q_]at g3
  obtain ⟨z3,p3,r3,o3⟩:=E6 Tryz.underlying3 _ _ _ g3
  have g4:DataW.trod enc Tryz.prog W 0 (fun _=>true) true m 24 (([c0,c1,c2,c3,c4,c5].drop 4).take (Tryz.prog.cellsOf 24))=xs[4]?:=hg 4 _ rfl
  rw[(by kernel_rfl:Tryz.prog.cellsOf 24=1),List.getElem?_eq_getElem q_]at g4
  obtain ⟨z4,p4,r4,o4⟩:=Yn _ _ _ g4
  have g5:DataW.trod enc Tryz.prog W 0 (fun _=>true) true m 28 (([c0,c1,c2,c3,c4,c5].drop 5).take (Tryz.prog.cellsOf 28))=xs[5]?:=hg 5 _ rfl
  rw[(by kernel_rfl:Tryz.prog.cellsOf 28=1),List.getElem?_eq_getElem q_]at g5
  obtain ⟨z5,p5,r5,o5⟩:=Af8 _ _ _ g5
  refine⟨⟨z0,z1,z2,z3,z4,z5⟩,⟨p0,p1,p2,p3,p4,p5⟩,E,fun c hc=>?_,?_⟩
  ·simp only[List.mem_cons,List.not_mem_nil,or_false]at hc
   rcases hc with rfl | rfl | rfl | rfl | rfl | rfl<;>assumption
  ·simp only[Bm,cellsOf,RdL]
   exact⟨_,_,E,r0,_,_,E,r1,_,_,E,r2,_,_,E,r3,_,_,E,r4,_,_,E,r5,E⟩
theorem Af6:Op1 enc Tryz.prog W 23 (fun l:List StepM=>.sl 6 Bm l) (fun l=>(∀ x∈l,StepM.In x)∧l.length≤maxLen) :=
 Iy Tryz.underlying23 (by kernel_rfl:Tryz.prog.cellsOf 30=6) j_ (fun _=>rfl) (fun _=>rfl) Ad9
def SeenM.In (x:SeenM):Prop:=wI .i64 x.port∧wI .i64 x.origin∧((∀ y∈x.bytes,True)∧x.bytes.length≤maxLen)
def ReportM.In (x:ReportM):Prop:=wI .i64 x.kind∧wI .i64 x.where_∧wI .i64 x.row∧wI .i64 x.error∧wI .i64 x.from_∧wI .i64 x.to∧((∀ y∈x.script,StepM.In y)∧x.script.length≤maxLen)
end
theorem Ah1 {z:Int} (h:wI .i64 z):El z:=by
 simp only[wI,Lit.wf,Bool.and_eq_true,decide_eq_true_eq,IntKind.max_i64]at h
 have e:IntKind.min .i64=-9223372036854775808:=by decide
 rw[e]at h
 unfold El
 omega
end Go.Sy.YtjenpnjajjplkaaGreatDoor
namespace Go.Sy.YtjenpnjajjplkaaGreatDoor
open Go.Proofs
attribute [local irreducible] Go.Sy.G Go.Sy.DR
set_option maxRecDepth 100000
set_option maxHeartbeats 4000000
theorem drop2 {l:List UInt8} {i:Nat} (h:i+1<l.length):l.drop i=l[i]::l[i+1]::l.drop (i+2):=by
 rw[List.drop_eq_getElem_cons (by omega:i<l.length),List.drop_eq_getElem_cons h]
theorem Wi {l:List UInt8} (h:l.length≤1):Bl l=some []:=by
 cases l with
 | nil=>rfl
 | cons a l=>cases l with
  | nil=>rfl
  | cons b l=>simp at h
theorem Mx (s:ByteArray) (hs:s.size≤1000000):Sy.Spec Tryz.prog 123 [Ai s] [] (.tup [.sl 1 Ak (readBP s).1,Ab (readBP s).2]) []:=cT F123 Tryz.ntmps123 fun F hF=>by
 have hsz:s.data.toList.length=s.size:=rfl
 have hres:=readBP.eq_1 s
 generalize readBP s=res at *
 have h45:=eq45 s
 ((conv=>whnf);repeat((first|refine aF ?_|refine aT ?_);(first|refine rG Γ hm ?_|refine rD Γ hm z_ ?_);conv=>whnf))
 by_cases h1:s.data.toList=[45]
 ·rw[if_pos h1]at hres
  rw[decide_eq_true h1]at h45
  subst hres
  refine⟨fun _=>?_,fun h=>absurd h (by rw[h45];simp)⟩
  ((first|refine rG Γ hm ?_|refine rD Γ hm z_ ?_);(conv=>whnf);repeat((first|refine aF ?_|refine aT ?_);(first|refine rG Γ hm ?_|refine rD Γ hm z_ ?_);conv=>whnf))
  refine Ch 2 1 Ak E ?_
  ((first|refine rG Γ hm ?_|refine rD Γ hm z_ ?_);(conv=>whnf);repeat((first|refine aF ?_|refine aT ?_);(first|refine rG Γ hm ?_|refine rD Γ hm z_ ?_);conv=>whnf))
  exact dN
 rw[if_neg h1]at hres
 rw[decide_eq_false h1]at h45
 refine⟨fun h=>absurd h (by rw[h45];simp),fun _=>?_⟩
 ((first|refine rG Γ hm ?_|refine rD Γ hm z_ ?_);(conv=>whnf);repeat((first|refine aF ?_|refine aT ?_);(first|refine rG Γ hm ?_|refine rD Γ hm z_ ?_);conv=>whnf))
 refine Cb 4 1000 1 Ak E E ?_
 refine B0 (fun x:List UInt8 × Nat=>Bl s.data.toList=(Bl (s.data.toList.drop x.2)).map (x.1++·)∧x.2≤s.size∧x.1.length≤x.2) (fun x=>[(0,Ai s),(4,.osl 1000),(5,Aa x.2)]) (fun x=>[(1000,.row 1 Ak x.1)]) (fun x=>s.size-x.2) ([],0) [] ⟨by simp,by simp,by simp⟩
  ⟨⟨rfl,rfl,rfl,rfl,rfl,rfl,trivial⟩,⟨.inl rfl,rfl,trivial⟩,rfl,rfl⟩ ?_
 rintro ⟨out,i⟩ ⟨hI,his,hlen⟩
 dsimp only at hI his hlen ⊢
 ((first|refine rG Γ hm ?_|refine rD Γ hm z_ ?_);(conv=>whnf);repeat((first|refine aF ?_|refine aT ?_);(first|refine rG Γ hm ?_|refine rD Γ hm z_ ?_);conv=>whnf))
 refine iL ?_
 ((conv=>whnf);repeat((first|refine aF ?_|refine aT ?_);(first|refine rG Γ hm ?_|refine rD Γ hm z_ ?_);conv=>whnf))
 refine⟨fun h=>?_,fun h=>?_⟩
 ·have hlt:i+1<s.data.toList.length:=qA h
  have hb1:Ce s ((i:Nat):Int).toNat=s.data.toList[i]:=by rw[Int.toNat_natCast];exact Oo q_
  have hb2:Ce s (((i:Nat):Int)+1).toNat=s.data.toList[i+1]:=by rw[show (((i:Nat):Int)+1).toNat=i+1 by omega];exact Oo hlt
  rw[drop2 hlt,Bl]at hI
  generalize s.data.toList[i]=a at *
  generalize s.data.toList[i+1]=b at *
  have qa:=Lg hexC a _ (Vm a)
  have qb:=Lg hexC b _ (Vm b)
  have la:=Si a
  have lb:=Si b
  have vor:=@hexV_or a b
  rw[← hb1]at qa
  rw[← hb2]at qb
  ((first|refine rG Γ hm ?_|refine rD Γ hm z_ ?_);(conv=>whnf);repeat((first|refine aF ?_|refine aT ?_);(first|refine rG Γ hm ?_|refine rD Γ hm z_ ?_);conv=>whnf))
  refine⟨by omega,by omega,?_⟩
  ((conv=>whnf);repeat((first|refine aF ?_|refine aT ?_);(first|refine rG Γ hm ?_|refine rD Γ hm z_ ?_);conv=>whnf))
  refine cD qa F208 ?_
  ((first|refine rG Γ hm ?_|refine rD Γ hm z_ ?_);(conv=>whnf);repeat((first|refine aF ?_|refine aT ?_);(first|refine rG Γ hm ?_|refine rD Γ hm z_ ?_);conv=>whnf))
  refine iL ?_
  ((conv=>whnf);repeat((first|refine aF ?_|refine aT ?_);(first|refine rG Γ hm ?_|refine rD Γ hm z_ ?_);conv=>whnf))
  refine⟨by omega,by omega,?_⟩
  ((conv=>whnf);repeat((first|refine aF ?_|refine aT ?_);(first|refine rG Γ hm ?_|refine rD Γ hm z_ ?_);conv=>whnf))
  refine cD qb F208 ?_
  ((first|refine rG Γ hm ?_|refine rD Γ hm z_ ?_);(conv=>whnf);repeat((first|refine aF ?_|refine aT ?_);(first|refine rG Γ hm ?_|refine rD Γ hm z_ ?_);conv=>whnf))
  refine⟨z_,?_⟩
  rw[hb1,hb2]
  ((conv=>whnf);repeat((first|refine aF ?_|refine aT ?_);(first|refine rG Γ hm ?_|refine rD Γ hm z_ ?_);conv=>whnf))
  by_cases ha:E9 a=16
  ·rw[if_neg q_]at hI
   rw[hI]at hres
   dsimp only[Option.map_none]at hres
   subst hres
   rw[if_pos ha]
   refine⟨fun _=>?_,fun h=>absurd (of_decide_eq_false h) q_⟩
   ((first|refine rG Γ hm ?_|refine rD Γ hm z_ ?_);(conv=>whnf);repeat((first|refine aF ?_|refine aT ?_);(first|refine rG Γ hm ?_|refine rD Γ hm z_ ?_);conv=>whnf))
   refine Ch 2 1 Ak E ?_
   ((first|refine rG Γ hm ?_|refine rD Γ hm z_ ?_);(conv=>whnf);repeat((first|refine aF ?_|refine aT ?_);(first|refine rG Γ hm ?_|refine rD Γ hm z_ ?_);conv=>whnf))
   exact dN
  rw[if_neg ha]
  refine⟨fun h=>absurd (of_decide_eq_true h) q_,fun _=>?_⟩
  by_cases hbb:E9 b=16
  ·rw[if_neg q_]at hI
   rw[hI]at hres
   dsimp only[Option.map_none]at hres
   subst hres
   rw[if_pos hbb]
   ((first|refine rG Γ hm ?_|refine rD Γ hm z_ ?_);(conv=>whnf);repeat((first|refine aF ?_|refine aT ?_);(first|refine rG Γ hm ?_|refine rD Γ hm z_ ?_);conv=>whnf))
   refine Ch 2 1 Ak E ?_
   ((first|refine rG Γ hm ?_|refine rD Γ hm z_ ?_);(conv=>whnf);repeat((first|refine aF ?_|refine aT ?_);(first|refine rG Γ hm ?_|refine rD Γ hm z_ ?_);conv=>whnf))
   exact dN
  rw[if_neg hbb]
  rw[if_pos q_]at hI
  have vor:=vor q_ q_
  ((first|refine rG Γ hm ?_|refine rD Γ hm z_ ?_);(conv=>whnf);repeat((first|refine aF ?_|refine aT ?_);(first|refine rG Γ hm ?_|refine rD Γ hm z_ ?_);conv=>whnf))
  refine⟨fun h=>absurd (of_decide_eq_true h) q_,fun _=>?_⟩
  ((first|refine rG Γ hm ?_|refine rD Γ hm z_ ?_);(conv=>whnf);repeat((first|refine aF ?_|refine aT ?_);(first|refine rG Γ hm ?_|refine rD Γ hm z_ ?_);conv=>whnf))
  refine⟨by decide,?_⟩
  ((conv=>whnf);repeat((first|refine aF ?_|refine aT ?_);(first|refine rG Γ hm ?_|refine rD Γ hm z_ ?_);conv=>whnf))
  rw[vor]
  refine Aw (Al Γ.toTy 39 E E E E E (.row E) (.lit (e:=Ak) (l:=[hexV a b]) E E) y_ (by simp;omega) (by simp;omega)) E E ?_
  ((first|refine rG Γ hm ?_|refine rD Γ hm z_ ?_);(conv=>whnf);repeat((first|refine aF ?_|refine aT ?_);(first|refine rG Γ hm ?_|refine rD Γ hm z_ ?_);conv=>whnf))
  refine iL ?_
  ((conv=>whnf);repeat((first|refine aF ?_|refine aT ?_);(first|refine rG Γ hm ?_|refine rD Γ hm z_ ?_);conv=>whnf))
  refine A4 (out++[hexV a b],i+2) [(1000,39)] ⟨?_,by dsimp only;omega,by simp;omega⟩ (by dsimp only;omega) ⟨⟨E,E,E,E,E,E,Y⟩,⟨.inl E,E,Y⟩,E,E⟩
  dsimp only
  rw[hI,Option.map_map]
  congr 1
  funext r
  simp
 ·have hge:s.data.toList.length≤i+1:=qB h
  rw[Wi (l:=s.data.toList.drop i) (by rw[List.length_drop];omega)]at hI
  simp only[Option.map_some,List.append_nil]at hI
  rw[hI]at hres
  dsimp only at hres
  have hm2:(s.size:Int).tmod 2=((s.size % 2:Nat):Int):=by rw[Int.tmod_eq_emod_of_nonneg q_];omega
  refine Ae 1000 E ?_
  ((first|refine rG Γ hm ?_|refine rD Γ hm z_ ?_);(conv=>whnf);repeat((first|refine aF ?_|refine aT ?_);(first|refine rG Γ hm ?_|refine rD Γ hm z_ ?_);conv=>whnf))
  refine⟨fun h2=>?_,fun h2=>?_⟩
  ·have h3:0<s.size:=by have:=of_decide_eq_true h2;omega
   rw[decide_eq_true h3,Bool.true_and]at hres
   ((first|refine rG Γ hm ?_|refine rD Γ hm z_ ?_);(conv=>whnf);repeat((first|refine aF ?_|refine aT ?_);(first|refine rG Γ hm ?_|refine rD Γ hm z_ ?_);conv=>whnf))
   refine⟨by decide,?_⟩
   ((conv=>whnf);repeat((first|refine aF ?_|refine aT ?_);(first|refine rG Γ hm ?_|refine rD Γ hm z_ ?_);conv=>whnf))
   rw[hm2]
   refine⟨fun h4=>?_,fun h4=>?_⟩
   ·have h5:s.size % 2=0:=by have:((s.size % 2:Nat):Int)=0:=(by simpa using h4);omega
    rw[decide_eq_true h5,Bool.true_and]at hres
    subst hres
    ((first|refine rG Γ hm ?_|refine rD Γ hm z_ ?_);(conv=>whnf);repeat((first|refine aF ?_|refine aT ?_);(first|refine rG Γ hm ?_|refine rD Γ hm z_ ?_);conv=>whnf))
    refine At E (.cons .tmp (.cons .tmp .nil)) ?_ E
    refine congrArg (fun b=>SV.tup [SV.sl 1 Ak out,Ab b]) ?_
    exact decide_eq_decide.2 q_
   ·have h5:¬ s.size % 2=0:=fun e=>by rw[e]at h4;simp at h4
    rw[decide_eq_false h5,Bool.false_and]at hres
    subst hres
    ((first|refine rG Γ hm ?_|refine rD Γ hm z_ ?_);(conv=>whnf);repeat((first|refine aF ?_|refine aT ?_);(first|refine rG Γ hm ?_|refine rD Γ hm z_ ?_);conv=>whnf))
    exact dN
  ·have h3:¬ 0<s.size:=by have:=of_decide_eq_false h2;omega
   rw[decide_eq_false h3,Bool.false_and,Bool.false_and]at hres
   subst hres
   ((first|refine rG Γ hm ?_|refine rD Γ hm z_ ?_);(conv=>whnf);repeat((first|refine aF ?_|refine aT ?_);(first|refine rG Γ hm ?_|refine rD Γ hm z_ ?_);conv=>whnf))
   exact dN
def On (c:UInt8):Bool:=decide (c.toNat=48) || decide (c.toNat=49)
def Jp (c:UInt8):Bool:=decide (c.toNat=49)
def upL (w:ByteArray):List Bool:=if w.data.toList=[45] then [] else w.data.toList.map Jp
def readTrP (k:Nat) (w:ByteArray):List Bool × Bool :=
 if w.data.toList=[45] then ([],decide (k=0)) else if w.data.toList.all On=false then ([],false) else (w.data.toList.map Jp,decide (0<w.size) && decide (w.size=k))
def Wm (k:Nat) (w:ByteArray):Bool:=!(w == ⟨#[]⟩) && (Bj (upL w) == w) && decide ((upL w).length=k)
theorem Sm:∀ l:List UInt8,Dd (l.map Jp)=l↔l.all On=true
 | []=>by simp[Dd]
 | c::l=>by
  have h:=Sm l
  rw[Dd]at h ⊢
  simp only[List.map_cons,List.all_cons,Bool.and_eq_true,List.cons.injEq,h]
  have e:((if Jp c=true then (49:UInt8) else 48)=c)↔On c=true:=by
   rw[Jp,On]
   by_cases h1:c.toNat=49
   ·have:c=49:=UInt8.toNat_inj.1 h1
    subst this;decide
   ·rw[decide_eq_false h1]
    simp only[Bool.or_false,decide_eq_true_eq]
    constructor
    ·intro h2
     have h3:(48:UInt8)=c:=by simpa using h2
     rw[← h3];rfl
    ·intro h2
     have h3:c=48:=UInt8.toNat_inj.1 h2
     simp[h3]
  rw[e]
theorem Ad1 (k:Nat) (w:ByteArray):(readTrP k w).2=Wm k w∧(Wm k w=true→(readTrP k w).1=upL w):=by
 unfold readTrP Wm
 by_cases h1:w.data.toList=[45]
 ·have hw:w=⟨#[45]⟩:=I4 h1
  subst hw
  have hu:upL ⟨#[45]⟩=[]:=rfl
  rw[if_pos h1,hu]
  refine⟨?_,fun _=>rfl⟩
  show decide (k=0)=(true && true && decide (0=k))
  rw[Bool.true_and,Bool.true_and]
  exact decide_eq_decide.2 q_
 have hu:upL w=w.data.toList.map Jp:=by rw[upL,if_neg h1]
 rw[if_neg h1,hu]
 have hsz:w.data.toList.length=w.size:=rfl
 cases hl:w.data.toList with
 | nil =>
  have hw:w=⟨#[]⟩:=I4 hl
  subst hw
  exact⟨E,fun _=>rfl⟩
 | cons c l =>
  have hne:(w == ⟨#[]⟩)=false:=by
   cases h:(w == (⟨#[]⟩:ByteArray))
   ·rfl
   ·rw[(L8 _ _).1 h]at hl;cases hl
  have ht:(Bj ((c::l).map Jp) == w)=(c::l).all On:=by
   rw[Bj,if_neg y_,Bool.eq_iff_iff,L8,← Sm,← hl]
   constructor
   ·intro h
    have:=congrArg (fun b:ByteArray=>b.data.toList) h
    simpa [B9] using this
   ·intro h
    rw[h,D5]
  rw[hne,ht]
  cases ha:(c::l).all On
  ·refine⟨E,fun h=>by simp at h⟩
  ·rw[if_neg y_]
   refine⟨?_,fun _=>rfl⟩
   rw[hl]at hsz
   dsimp only
   rw[← hsz]
   simp
theorem Sb (n:Net) (hn:n.Fin) (s:ByteArray) (hs:s.size≤1000000):Sy.Spec Tryz.prog 125 [Aj n,Ai s] [] (.tup [.sl 1 Ab (readTrP n.links.length s).1,Ab (readTrP n.links.length s).2]) []:=cT F125 Tryz.ntmps125 fun F hF=>by
 have hsz:s.data.toList.length=s.size:=rfl
 have hres:=readTrP.eq_1 n.links.length s
 generalize readTrP n.links.length s=res at *
 have h45:=eq45 s
 ((conv=>whnf);repeat((first|refine aF ?_|refine aT ?_);(first|refine rG Γ hm ?_|refine rD Γ hm z_ ?_);conv=>whnf))
 by_cases h1:s.data.toList=[45]
 ·rw[if_pos h1]at hres
  rw[decide_eq_true h1]at h45
  subst hres
  refine⟨fun _=>?_,fun h=>absurd h (by rw[h45];simp)⟩
  ((first|refine rG Γ hm ?_|refine rD Γ hm z_ ?_);(conv=>whnf);repeat((first|refine aF ?_|refine aT ?_);(first|refine rG Γ hm ?_|refine rD Γ hm z_ ?_);conv=>whnf))
  refine⟨z_,?_⟩
  ((conv=>whnf);repeat((first|refine aF ?_|refine aT ?_);(first|refine rG Γ hm ?_|refine rD Γ hm z_ ?_);conv=>whnf))
  refine Ch 4 1 Ab E ?_
  refine At E (.cons .tmp (.cons .tmp .nil)) ?_ E
  refine congrArg (fun b=>SV.tup [SV.sl 1 Ab [],Ab b]) ?_
  rw[Bool.eq_iff_iff];simp<;>omega
 rw[if_neg h1]at hres
 rw[decide_eq_false h1]at h45
 refine⟨fun h=>absurd h (by rw[h45];simp),fun _=>?_⟩
 ((first|refine rG Γ hm ?_|refine rD Γ hm z_ ?_);(conv=>whnf);repeat((first|refine aF ?_|refine aT ?_);(first|refine rG Γ hm ?_|refine rD Γ hm z_ ?_);conv=>whnf))
 refine A6 2 8 (Aj n) E E E ?_
 refine Cb 6 1000 1 Ab E E ?_
 refine A3 s.size (fun j=>Dw (fun _ c=>On c) s.data.toList j) (fun j=>[(1,Ai s),(2,.ref 8 (Aj n) 0),(6,.osl 1000),(16,Aa s.size),(17,Aa j)]) (fun j=>[(1000,.row 1 Ab ((s.data.toList.take j).map Jp))]) [] (Bb _ _)
  ⟨⟨rfl,rfl,rfl,rfl,rfl,rfl,rfl,rfl,rfl,rfl,trivial⟩,⟨.inl rfl,rfl,trivial⟩,rfl,rfl⟩ ?_
 intro j hj hI
 have hll:((s.data.toList.take j).map Jp).length=j:=by rw[List.length_map,List.length_take];omega
 ((first|refine rG Γ hm ?_|refine rD Γ hm z_ ?_);(conv=>whnf);repeat((first|refine aF ?_|refine aT ?_);(first|refine rG Γ hm ?_|refine rD Γ hm z_ ?_);conv=>whnf))
 refine⟨fun h=>?_,fun h=>?_⟩
 ·have hlt:j<s.data.toList.length:=qA h
  have hb:Ce s ((j:Nat):Int).toNat=s.data.toList[j]:=by rw[Int.toNat_natCast];exact Oo hlt
  have hno:=fun h=>@all_at' _ On s.data.toList j hlt h
  have hnx:=fun h=>A8 (p:=fun _ c=>On c) hI hlt h
  have hsucc:(s.data.toList.take (j+1)).map Jp=(s.data.toList.take j).map Jp++[Jp s.data.toList[j]]:=by rw[List.take_succ_eq_append_getElem hlt,List.map_append];rfl
  generalize s.data.toList[j]=c at *
  generalize (s.data.toList.take j).map Jp=v at *
  have hv:Jp c=((c.toNat:Int) == 49):=by rw[Jp,Bool.eq_iff_iff];simp;omega
  rw[hv]at hsucc
  have hc2:=c.toNat_lt
  ((first|refine rG Γ hm ?_|refine rD Γ hm z_ ?_);(conv=>whnf);repeat((first|refine aF ?_|refine aT ?_);(first|refine rG Γ hm ?_|refine rD Γ hm z_ ?_);conv=>whnf))
  refine⟨by omega,by omega,?_⟩
  rw[hb]
  ((conv=>whnf);repeat((first|refine aF ?_|refine aT ?_);(first|refine rG Γ hm ?_|refine rD Γ hm z_ ?_);conv=>whnf))
  refine⟨fun h2=>?_,fun h2=>?_⟩
  ·have h3:c.toNat≠48:=fun e=>by rw[e]at h2;simp at h2
   ((first|refine rG Γ hm ?_|refine rD Γ hm z_ ?_);(conv=>whnf);repeat((first|refine aF ?_|refine aT ?_);(first|refine rG Γ hm ?_|refine rD Γ hm z_ ?_);conv=>whnf))
   refine⟨by omega,by omega,?_⟩
   rw[hb]
   ((conv=>whnf);repeat((first|refine aF ?_|refine aT ?_);(first|refine rG Γ hm ?_|refine rD Γ hm z_ ?_);conv=>whnf))
   refine⟨fun h4=>?_,fun h4=>?_⟩
   ·have h5:c.toNat≠49:=fun e=>by rw[e]at h4;simp at h4
    rw[if_pos (hno (by rw[On,decide_eq_false h3,decide_eq_false h5];rfl))]at hres
    subst hres
    ((first|refine rG Γ hm ?_|refine rD Γ hm z_ ?_);(conv=>whnf);repeat((first|refine aF ?_|refine aT ?_);(first|refine rG Γ hm ?_|refine rD Γ hm z_ ?_);conv=>whnf))
    refine Ch 4 1 Ab E ?_
    ((first|refine rG Γ hm ?_|refine rD Γ hm z_ ?_);(conv=>whnf);repeat((first|refine aF ?_|refine aT ?_);(first|refine rG Γ hm ?_|refine rD Γ hm z_ ?_);conv=>whnf))
    exact dN
   ·have h5:c.toNat=49:=by
     have h6:((c.toNat:Int) != 49)=false:=h4
     have h7:(c.toNat:Int)=49:=by simpa using h6
     omega
    have hbt:On c=true:=by rw[On,decide_eq_true h5,Bool.or_true]
    ((first|refine rG Γ hm ?_|refine rD Γ hm z_ ?_);(conv=>whnf);repeat((first|refine aF ?_|refine aT ?_);(first|refine rG Γ hm ?_|refine rD Γ hm z_ ?_);conv=>whnf))
    refine⟨by omega,by omega,?_⟩
    rw[hb]
    ((conv=>whnf);repeat((first|refine aF ?_|refine aT ?_);(first|refine rG Γ hm ?_|refine rD Γ hm z_ ?_);conv=>whnf))
    refine Aw (Al Γ.toTy 36 E E E E E (.row E) (.lit (e:=Ab) (l:=[(c.toNat:Int) == 49]) E E) y_ (by simp;omega) (by simp;omega)) E E ?_
    ((first|refine rG Γ hm ?_|refine rD Γ hm z_ ?_);(conv=>whnf);repeat((first|refine aF ?_|refine aT ?_);(first|refine rG Γ hm ?_|refine rD Γ hm z_ ?_);conv=>whnf))
    refine iL ?_
    ((conv=>whnf);repeat((first|refine aF ?_|refine aT ?_);(first|refine rG Γ hm ?_|refine rD Γ hm z_ ?_);conv=>whnf))
    exact A1 [(1000,36)] hI q_ (hnx hbt) ⟨⟨E,E,E,E,E,E,E,E,E,E,Y⟩,⟨.inl (congrArg (Ob.row 1 Ab) hsucc),E,Y⟩,E,E⟩
  ·have h3:c.toNat=48:=by have h7:(c.toNat:Int)=48:=(by simpa using h2);omega
   have hbt:On c=true:=by rw[On,decide_eq_true h3,Bool.true_or]
   ((first|refine rG Γ hm ?_|refine rD Γ hm z_ ?_);(conv=>whnf);repeat((first|refine aF ?_|refine aT ?_);(first|refine rG Γ hm ?_|refine rD Γ hm z_ ?_);conv=>whnf))
   refine⟨by omega,by omega,?_⟩
   rw[hb]
   ((conv=>whnf);repeat((first|refine aF ?_|refine aT ?_);(first|refine rG Γ hm ?_|refine rD Γ hm z_ ?_);conv=>whnf))
   refine Aw (Al Γ.toTy 36 E E E E E (.row E) (.lit (e:=Ab) (l:=[(c.toNat:Int) == 49]) E E) y_ (by simp;omega) (by simp;omega)) E E ?_
   ((first|refine rG Γ hm ?_|refine rD Γ hm z_ ?_);(conv=>whnf);repeat((first|refine aF ?_|refine aT ?_);(first|refine rG Γ hm ?_|refine rD Γ hm z_ ?_);conv=>whnf))
   refine iL ?_
   ((conv=>whnf);repeat((first|refine aF ?_|refine aT ?_);(first|refine rG Γ hm ?_|refine rD Γ hm z_ ?_);conv=>whnf))
   exact A1 [(1000,36)] hI q_ (hnx hbt) ⟨⟨E,E,E,E,E,E,E,E,E,E,Y⟩,⟨.inl (congrArg (Ob.row 1 Ab) hsucc),E,Y⟩,E,E⟩
 ·have hje:j=s.size:=qB h
  subst hje
  rw[if_neg (by rw[Vz hI (Nat.le_refl _)];simp)]at hres
  have htk:s.data.toList.take s.size=s.data.toList:=List.take_length
  rw[htk]at hll ⊢
  generalize s.data.toList.map Jp=out at *
  refine Ae 1000 E ?_
  ((first|refine rG Γ hm ?_|refine rD Γ hm z_ ?_);(conv=>whnf);repeat((first|refine aF ?_|refine aT ?_);(first|refine rG Γ hm ?_|refine rD Γ hm z_ ?_);conv=>whnf))
  refine⟨fun h2=>?_,fun h2=>?_⟩
  ·rw[decide_eq_true (by have:=of_decide_eq_true h2;omega),Bool.true_and]at hres
   subst hres
   ((first|refine rG Γ hm ?_|refine rD Γ hm z_ ?_);(conv=>whnf);repeat((first|refine aF ?_|refine aT ?_);(first|refine rG Γ hm ?_|refine rD Γ hm z_ ?_);conv=>whnf))
   refine⟨z_,?_⟩
   ((conv=>whnf);repeat((first|refine aF ?_|refine aT ?_);(first|refine rG Γ hm ?_|refine rD Γ hm z_ ?_);conv=>whnf))
   refine At E (.cons .tmp (.cons .tmp .nil)) ?_ E
   refine congrArg (fun b=>SV.tup [SV.sl 1 Ab out,Ab b]) ?_
   rw[Bool.eq_iff_iff];simp;omega
  ·rw[decide_eq_false (by have:=of_decide_eq_false h2;omega),Bool.false_and]at hres
   subst hres
   ((first|refine rG Γ hm ?_|refine rD Γ hm z_ ?_);(conv=>whnf);repeat((first|refine aF ?_|refine aT ?_);(first|refine rG Γ hm ?_|refine rD Γ hm z_ ?_);conv=>whnf))
   refine⟨z_,?_⟩
   ((conv=>whnf);repeat((first|refine aF ?_|refine aT ?_);(first|refine rG Γ hm ?_|refine rD Γ hm z_ ?_);conv=>whnf))
   exact dN
def verbT:Nat→ByteArray
 | 1=>vInject
 | 2=>vPick
 | 3=>vDrop
 | 4=>H8
 | 5=>vLinks
 | _=>⟨#[]⟩
def kindI (w:ByteArray):Int :=
 if (vInject == w)=true then 1 else if (vPick == w)=true then 2 else if (vDrop == w)=true then 3 else if (H8 == w)=true then 4 else if (vLinks == w)=true then 5 else 0
theorem kindS (w:ByteArray):Sy.Spec Tryz.prog 120 [Ai w] [Ao 900] (Aa (kindI w)) [Ao 900]:=cT F120 Tryz.ntmps120 fun F hF=>by
 have hres:=kindI.eq_1 w
 generalize kindI w=res at *
 ((conv=>whnf);repeat((first|refine aF ?_|refine aT ?_);(first|refine rG Γ hm ?_|refine rD Γ hm z_ ?_);conv=>whnf))
 refine Aw (Tn Γ.toTy 900 E E E E E) E E ?_
 ((first|refine rG Γ hm ?_|refine rD Γ hm z_ ?_);(conv=>whnf);repeat((first|refine aF ?_|refine aT ?_);(first|refine rG Γ hm ?_|refine rD Γ hm z_ ?_);conv=>whnf))
 refine A3 6 (fun j=>∀ i,1≤i→i<j→(verbT i == w)=false) (fun j=>[(0,Ai w),(5,.agg Afh),(6,Aa j)]) (fun _=>[Ao 900]) [] (fun i h1 h2=>by omega)
  ⟨⟨rfl,rfl,rfl,rfl,rfl,rfl,trivial⟩,⟨.inl rfl,rfl,trivial⟩,rfl,rfl⟩ ?_
 intro j hj hI
 have hcase:j=0∨j=1∨j=2∨j=3∨j=4∨j=5∨j=6:=by omega
 rcases hcase with rfl | rfl | rfl | rfl | rfl | rfl | rfl
 ·((first|refine rG Γ hm ?_|refine rD Γ hm z_ ?_);(conv=>whnf);repeat((first|refine aF ?_|refine aT ?_);(first|refine rG Γ hm ?_|refine rD Γ hm z_ ?_);conv=>whnf))
  refine Aw (Ba (k:=.string) Γ.toTy E E E Tryz.underlying9 E E j_ j_ E) E E ?_
  ((first|refine rG Γ hm ?_|refine rD Γ hm z_ ?_);(conv=>whnf);repeat((first|refine aF ?_|refine aT ?_);(first|refine rG Γ hm ?_|refine rD Γ hm z_ ?_);conv=>whnf))
  (repeat (first | (refine⟨fun h=>False.elim (by first | (exact absurd h j_) | (simp at h;done) | (simp at h;omega)),fun _=>?_⟩;((first|refine rG Γ hm ?_|refine rD Γ hm z_ ?_);(conv=>whnf);repeat((first|refine aF ?_|refine aT ?_);(first|refine rG Γ hm ?_|refine rD Γ hm z_ ?_);conv=>whnf))) | (refine⟨fun _=>?_,fun h=>False.elim (by first | (exact absurd h j_) | (simp at h;done) | (simp at h;omega))⟩;((first|refine rG Γ hm ?_|refine rD Γ hm z_ ?_);(conv=>whnf);repeat((first|refine aF ?_|refine aT ?_);(first|refine rG Γ hm ?_|refine rD Γ hm z_ ?_);conv=>whnf)))))
  refine iL ?_
  ((conv=>whnf);repeat((first|refine aF ?_|refine aT ?_);(first|refine rG Γ hm ?_|refine rD Γ hm z_ ?_);conv=>whnf))
  exact A1 [] hI q_ (fun i h1 h2=>by omega) ⟨⟨E,E,E,E,E,E,Y⟩,⟨.inl E,E,Y⟩,E,E⟩
 ·((first|refine rG Γ hm ?_|refine rD Γ hm z_ ?_);(conv=>whnf);repeat((first|refine aF ?_|refine aT ?_);(first|refine rG Γ hm ?_|refine rD Γ hm z_ ?_);conv=>whnf))
  refine Aw (Ba (k:=.string) Γ.toTy E E E Tryz.underlying9 E E j_ j_ E) E E ?_
  ((first|refine rG Γ hm ?_|refine rD Γ hm z_ ?_);(conv=>whnf);repeat((first|refine aF ?_|refine aT ?_);(first|refine rG Γ hm ?_|refine rD Γ hm z_ ?_);conv=>whnf))
  (repeat (first | (refine⟨fun h=>False.elim (by first | (exact absurd h j_) | (simp at h;done) | (simp at h;omega)),fun _=>?_⟩;((first|refine rG Γ hm ?_|refine rD Γ hm z_ ?_);(conv=>whnf);repeat((first|refine aF ?_|refine aT ?_);(first|refine rG Γ hm ?_|refine rD Γ hm z_ ?_);conv=>whnf))) | (refine⟨fun _=>?_,fun h=>False.elim (by first | (exact absurd h j_) | (simp at h;done) | (simp at h;omega))⟩;((first|refine rG Γ hm ?_|refine rD Γ hm z_ ?_);(conv=>whnf);repeat((first|refine aF ?_|refine aT ?_);(first|refine rG Γ hm ?_|refine rD Γ hm z_ ?_);conv=>whnf)))))
  cases he:(vInject == w)
  ·refine⟨fun h=>absurd h y_,fun _=>?_⟩
   ((first|refine rG Γ hm ?_|refine rD Γ hm z_ ?_);(conv=>whnf);repeat((first|refine aF ?_|refine aT ?_);(first|refine rG Γ hm ?_|refine rD Γ hm z_ ?_);conv=>whnf))
   refine iL ?_
   ((conv=>whnf);repeat((first|refine aF ?_|refine aT ?_);(first|refine rG Γ hm ?_|refine rD Γ hm z_ ?_);conv=>whnf))
   refine A1 [] hI q_ (fun i h1 h2=>?_) ⟨⟨E,E,E,E,E,E,Y⟩,⟨.inl E,E,Y⟩,E,E⟩
   by_cases hi:i=1
   ·subst hi;exact he
   ·exact hI i h1 q_
  ·refine⟨fun _=>?_,fun h=>absurd h y_⟩
   rw[if_pos he]at hres
   subst hres
   ((first|refine rG Γ hm ?_|refine rD Γ hm z_ ?_);(conv=>whnf);repeat((first|refine aF ?_|refine aT ?_);(first|refine rG Γ hm ?_|refine rD Γ hm z_ ?_);conv=>whnf))
   exact done E (.cons .tmp .nil) [] [Ao 900] (fun _ h=>h) E E ⟨Y,⟨.inl E,E,Y⟩,E,E⟩
 ·((first|refine rG Γ hm ?_|refine rD Γ hm z_ ?_);(conv=>whnf);repeat((first|refine aF ?_|refine aT ?_);(first|refine rG Γ hm ?_|refine rD Γ hm z_ ?_);conv=>whnf))
  refine Aw (Ba (k:=.string) Γ.toTy E E E Tryz.underlying9 E E j_ j_ E) E E ?_
  ((first|refine rG Γ hm ?_|refine rD Γ hm z_ ?_);(conv=>whnf);repeat((first|refine aF ?_|refine aT ?_);(first|refine rG Γ hm ?_|refine rD Γ hm z_ ?_);conv=>whnf))
  (repeat (first | (refine⟨fun h=>False.elim (by first | (exact absurd h j_) | (simp at h;done) | (simp at h;omega)),fun _=>?_⟩;((first|refine rG Γ hm ?_|refine rD Γ hm z_ ?_);(conv=>whnf);repeat((first|refine aF ?_|refine aT ?_);(first|refine rG Γ hm ?_|refine rD Γ hm z_ ?_);conv=>whnf))) | (refine⟨fun _=>?_,fun h=>False.elim (by first | (exact absurd h j_) | (simp at h;done) | (simp at h;omega))⟩;((first|refine rG Γ hm ?_|refine rD Γ hm z_ ?_);(conv=>whnf);repeat((first|refine aF ?_|refine aT ?_);(first|refine rG Γ hm ?_|refine rD Γ hm z_ ?_);conv=>whnf)))))
  cases he:(vPick == w)
  ·refine⟨fun h=>absurd h y_,fun _=>?_⟩
   ((first|refine rG Γ hm ?_|refine rD Γ hm z_ ?_);(conv=>whnf);repeat((first|refine aF ?_|refine aT ?_);(first|refine rG Γ hm ?_|refine rD Γ hm z_ ?_);conv=>whnf))
   refine iL ?_
   ((conv=>whnf);repeat((first|refine aF ?_|refine aT ?_);(first|refine rG Γ hm ?_|refine rD Γ hm z_ ?_);conv=>whnf))
   refine A1 [] hI q_ (fun i h1 h2=>?_) ⟨⟨E,E,E,E,E,E,Y⟩,⟨.inl E,E,Y⟩,E,E⟩
   by_cases hi:i=2
   ·subst hi;exact he
   ·exact hI i h1 q_
  ·refine⟨fun _=>?_,fun h=>absurd h y_⟩
   rw[if_neg (by rw[show (vInject == w)=false from hI 1 j_ j_];simp)]at hres
   rw[if_pos he]at hres
   subst hres
   ((first|refine rG Γ hm ?_|refine rD Γ hm z_ ?_);(conv=>whnf);repeat((first|refine aF ?_|refine aT ?_);(first|refine rG Γ hm ?_|refine rD Γ hm z_ ?_);conv=>whnf))
   exact done E (.cons .tmp .nil) [] [Ao 900] (fun _ h=>h) E E ⟨Y,⟨.inl E,E,Y⟩,E,E⟩
 ·((first|refine rG Γ hm ?_|refine rD Γ hm z_ ?_);(conv=>whnf);repeat((first|refine aF ?_|refine aT ?_);(first|refine rG Γ hm ?_|refine rD Γ hm z_ ?_);conv=>whnf))
  refine Aw (Ba (k:=.string) Γ.toTy E E E Tryz.underlying9 E E j_ j_ E) E E ?_
  ((first|refine rG Γ hm ?_|refine rD Γ hm z_ ?_);(conv=>whnf);repeat((first|refine aF ?_|refine aT ?_);(first|refine rG Γ hm ?_|refine rD Γ hm z_ ?_);conv=>whnf))
  (repeat (first | (refine⟨fun h=>False.elim (by first | (exact absurd h j_) | (simp at h;done) | (simp at h;omega)),fun _=>?_⟩;((first|refine rG Γ hm ?_|refine rD Γ hm z_ ?_);(conv=>whnf);repeat((first|refine aF ?_|refine aT ?_);(first|refine rG Γ hm ?_|refine rD Γ hm z_ ?_);conv=>whnf))) | (refine⟨fun _=>?_,fun h=>False.elim (by first | (exact absurd h j_) | (simp at h;done) | (simp at h;omega))⟩;((first|refine rG Γ hm ?_|refine rD Γ hm z_ ?_);(conv=>whnf);repeat((first|refine aF ?_|refine aT ?_);(first|refine rG Γ hm ?_|refine rD Γ hm z_ ?_);conv=>whnf)))))
  cases he:(vDrop == w)
  ·refine⟨fun h=>absurd h y_,fun _=>?_⟩
   ((first|refine rG Γ hm ?_|refine rD Γ hm z_ ?_);(conv=>whnf);repeat((first|refine aF ?_|refine aT ?_);(first|refine rG Γ hm ?_|refine rD Γ hm z_ ?_);conv=>whnf))
   refine iL ?_
   ((conv=>whnf);repeat((first|refine aF ?_|refine aT ?_);(first|refine rG Γ hm ?_|refine rD Γ hm z_ ?_);conv=>whnf))
   refine A1 [] hI q_ (fun i h1 h2=>?_) ⟨⟨E,E,E,E,E,E,Y⟩,⟨.inl E,E,Y⟩,E,E⟩
   by_cases hi:i=3
   ·subst hi;exact he
   ·exact hI i h1 q_
  ·refine⟨fun _=>?_,fun h=>absurd h y_⟩
   rw[if_neg (by rw[show (vInject == w)=false from hI 1 j_ j_];simp)]at hres
   rw[if_neg (by rw[show (vPick == w)=false from hI 2 j_ j_];simp)]at hres
   rw[if_pos he]at hres
   subst hres
   ((first|refine rG Γ hm ?_|refine rD Γ hm z_ ?_);(conv=>whnf);repeat((first|refine aF ?_|refine aT ?_);(first|refine rG Γ hm ?_|refine rD Γ hm z_ ?_);conv=>whnf))
   exact done E (.cons .tmp .nil) [] [Ao 900] (fun _ h=>h) E E ⟨Y,⟨.inl E,E,Y⟩,E,E⟩
 ·((first|refine rG Γ hm ?_|refine rD Γ hm z_ ?_);(conv=>whnf);repeat((first|refine aF ?_|refine aT ?_);(first|refine rG Γ hm ?_|refine rD Γ hm z_ ?_);conv=>whnf))
  refine Aw (Ba (k:=.string) Γ.toTy E E E Tryz.underlying9 E E j_ j_ E) E E ?_
  ((first|refine rG Γ hm ?_|refine rD Γ hm z_ ?_);(conv=>whnf);repeat((first|refine aF ?_|refine aT ?_);(first|refine rG Γ hm ?_|refine rD Γ hm z_ ?_);conv=>whnf))
  (repeat (first | (refine⟨fun h=>False.elim (by first | (exact absurd h j_) | (simp at h;done) | (simp at h;omega)),fun _=>?_⟩;((first|refine rG Γ hm ?_|refine rD Γ hm z_ ?_);(conv=>whnf);repeat((first|refine aF ?_|refine aT ?_);(first|refine rG Γ hm ?_|refine rD Γ hm z_ ?_);conv=>whnf))) | (refine⟨fun _=>?_,fun h=>False.elim (by first | (exact absurd h j_) | (simp at h;done) | (simp at h;omega))⟩;((first|refine rG Γ hm ?_|refine rD Γ hm z_ ?_);(conv=>whnf);repeat((first|refine aF ?_|refine aT ?_);(first|refine rG Γ hm ?_|refine rD Γ hm z_ ?_);conv=>whnf)))))
  cases he:(H8 == w)
  ·refine⟨fun h=>absurd h y_,fun _=>?_⟩
   ((first|refine rG Γ hm ?_|refine rD Γ hm z_ ?_);(conv=>whnf);repeat((first|refine aF ?_|refine aT ?_);(first|refine rG Γ hm ?_|refine rD Γ hm z_ ?_);conv=>whnf))
   refine iL ?_
   ((conv=>whnf);repeat((first|refine aF ?_|refine aT ?_);(first|refine rG Γ hm ?_|refine rD Γ hm z_ ?_);conv=>whnf))
   refine A1 [] hI q_ (fun i h1 h2=>?_) ⟨⟨E,E,E,E,E,E,Y⟩,⟨.inl E,E,Y⟩,E,E⟩
   by_cases hi:i=4
   ·subst hi;exact he
   ·exact hI i h1 q_
  ·refine⟨fun _=>?_,fun h=>absurd h y_⟩
   rw[if_neg (by rw[show (vInject == w)=false from hI 1 j_ j_];simp)]at hres
   rw[if_neg (by rw[show (vPick == w)=false from hI 2 j_ j_];simp)]at hres
   rw[if_neg (by rw[show (vDrop == w)=false from hI 3 j_ j_];simp)]at hres
   rw[if_pos he]at hres
   subst hres
   ((first|refine rG Γ hm ?_|refine rD Γ hm z_ ?_);(conv=>whnf);repeat((first|refine aF ?_|refine aT ?_);(first|refine rG Γ hm ?_|refine rD Γ hm z_ ?_);conv=>whnf))
   exact done E (.cons .tmp .nil) [] [Ao 900] (fun _ h=>h) E E ⟨Y,⟨.inl E,E,Y⟩,E,E⟩
 ·((first|refine rG Γ hm ?_|refine rD Γ hm z_ ?_);(conv=>whnf);repeat((first|refine aF ?_|refine aT ?_);(first|refine rG Γ hm ?_|refine rD Γ hm z_ ?_);conv=>whnf))
  refine Aw (Ba (k:=.string) Γ.toTy E E E Tryz.underlying9 E E j_ j_ E) E E ?_
  ((first|refine rG Γ hm ?_|refine rD Γ hm z_ ?_);(conv=>whnf);repeat((first|refine aF ?_|refine aT ?_);(first|refine rG Γ hm ?_|refine rD Γ hm z_ ?_);conv=>whnf))
  (repeat (first | (refine⟨fun h=>False.elim (by first | (exact absurd h j_) | (simp at h;done) | (simp at h;omega)),fun _=>?_⟩;((first|refine rG Γ hm ?_|refine rD Γ hm z_ ?_);(conv=>whnf);repeat((first|refine aF ?_|refine aT ?_);(first|refine rG Γ hm ?_|refine rD Γ hm z_ ?_);conv=>whnf))) | (refine⟨fun _=>?_,fun h=>False.elim (by first | (exact absurd h j_) | (simp at h;done) | (simp at h;omega))⟩;((first|refine rG Γ hm ?_|refine rD Γ hm z_ ?_);(conv=>whnf);repeat((first|refine aF ?_|refine aT ?_);(first|refine rG Γ hm ?_|refine rD Γ hm z_ ?_);conv=>whnf)))))
  cases he:(vLinks == w)
  ·refine⟨fun h=>absurd h y_,fun _=>?_⟩
   ((first|refine rG Γ hm ?_|refine rD Γ hm z_ ?_);(conv=>whnf);repeat((first|refine aF ?_|refine aT ?_);(first|refine rG Γ hm ?_|refine rD Γ hm z_ ?_);conv=>whnf))
   refine iL ?_
   ((conv=>whnf);repeat((first|refine aF ?_|refine aT ?_);(first|refine rG Γ hm ?_|refine rD Γ hm z_ ?_);conv=>whnf))
   refine A1 [] hI q_ (fun i h1 h2=>?_) ⟨⟨E,E,E,E,E,E,Y⟩,⟨.inl E,E,Y⟩,E,E⟩
   by_cases hi:i=5
   ·subst hi;exact he
   ·exact hI i h1 q_
  ·refine⟨fun _=>?_,fun h=>absurd h y_⟩
   rw[if_neg (by rw[show (vInject == w)=false from hI 1 j_ j_];simp)]at hres
   rw[if_neg (by rw[show (vPick == w)=false from hI 2 j_ j_];simp)]at hres
   rw[if_neg (by rw[show (vDrop == w)=false from hI 3 j_ j_];simp)]at hres
   rw[if_neg (by rw[show (H8 == w)=false from hI 4 j_ j_];simp)]at hres
   rw[if_pos he]at hres
   subst hres
   ((first|refine rG Γ hm ?_|refine rD Γ hm z_ ?_);(conv=>whnf);repeat((first|refine aF ?_|refine aT ?_);(first|refine rG Γ hm ?_|refine rD Γ hm z_ ?_);conv=>whnf))
   exact done E (.cons .tmp .nil) [] [Ao 900] (fun _ h=>h) E E ⟨Y,⟨.inl E,E,Y⟩,E,E⟩
 ·rw[if_neg (by rw[show (vInject == w)=false from hI 1 j_ j_];simp),if_neg (by rw[show (vPick == w)=false from hI 2 j_ j_];simp),if_neg (by rw[show (vDrop == w)=false from hI 3 j_ j_];simp),
   if_neg (by rw[show (H8 == w)=false from hI 4 j_ j_];simp),if_neg (by rw[show (vLinks == w)=false from hI 5 j_ j_];simp)]at hres
  subst hres
  ((first|refine rG Γ hm ?_|refine rD Γ hm z_ ?_);(conv=>whnf);repeat((first|refine aF ?_|refine aT ?_);(first|refine rG Γ hm ?_|refine rD Γ hm z_ ?_);conv=>whnf))
  exact done E (.cons .tmp .nil) [] [Ao 900] (fun _ h=>h) E E ⟨Y,⟨.inl E,E,Y⟩,E,E⟩
def Js (n:Net) (w:ByteArray) (p:Port):Bool:=((nth n.devices p.dev).name++⟨#[46]⟩++p.name) == w
theorem Adp (n:Net) (hnm:Hc n) (W:List ByteArray) (hW:1<W.length) (p:Port) (hp:p∈n.ports) (hd:0≤p.dev∧p.dev.toNat<n.devices.length) :
  Sy.Spec Tryz.prog 122 [Au p,.ref 8 (Aj n) 0,.ref 1 (.sl 1 Ai W) 0] [] (Ab (Js n (nth W 1) p)) []:=cT F122 Tryz.ntmps122 fun F hF=>by
 have hpn:=hnm.2 _ hp
 have hdn:=hnm.1 _ (List.getElem_mem hd.2)
 have hW0:(1:Int).toNat<W.length:=hW
 rw[Js,Am hd.2,Am hW0]
 obtain ⟨d,hdd⟩:∃ d,n.devices[p.dev.toNat]'hd.2=d:=⟨_,rfl⟩
 rw[hdd]at hdn ⊢
 have z1:=X3 d.name ⟨#[46]⟩
 have c46:(⟨#[46]⟩:ByteArray).size=1:=rfl
 ((conv=>whnf);repeat((first|refine aF ?_|refine aT ?_);(first|refine rG Γ hm ?_|refine rD Γ hm z_ ?_);conv=>whnf))
 refine⟨E,hd.1,hd.2,?_⟩
 rw[hdd]
 ((conv=>whnf);repeat((first|refine aF ?_|refine aT ?_);(first|refine rG Γ hm ?_|refine rD Γ hm z_ ?_);conv=>whnf))
 refine⟨by show _+1≤_;omega,?_⟩
 ((conv=>whnf);repeat((first|refine aF ?_|refine aT ?_);(first|refine rG Γ hm ?_|refine rD Γ hm z_ ?_);conv=>whnf))
 refine⟨by omega,?_⟩
 ((conv=>whnf);repeat((first|refine aF ?_|refine aT ?_);(first|refine rG Γ hm ?_|refine rD Γ hm z_ ?_);conv=>whnf))
 refine⟨E,by decide,hW0,?_⟩
 ((conv=>whnf);repeat((first|refine aF ?_|refine aT ?_);(first|refine rG Γ hm ?_|refine rD Γ hm z_ ?_);conv=>whnf))
 refine⟨z_,?_⟩
 ((conv=>whnf);repeat((first|refine aF ?_|refine aT ?_);(first|refine rG Γ hm ?_|refine rD Γ hm z_ ?_);conv=>whnf))
 exact dN
end Go.Sy.YtjenpnjajjplkaaGreatDoor
