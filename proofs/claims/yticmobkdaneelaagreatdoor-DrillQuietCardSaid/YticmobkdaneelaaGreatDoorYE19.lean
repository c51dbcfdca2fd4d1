/- Parts of a proof. -/
import Derived.Test.YticmobkdaneelaaGreatDoorYE18
set_option linter.all false
set_option linter.unusedVariables false
set_option linter.unusedSimpArgs false
set_option linter.deprecated false
namespace Go.Sy.YticmobkdaneelaaGreatDoor
open Go.Proofs Go.Proofs.Tryz
attribute [local irreducible] Go.Sy.G Go.Sy.DR
set_option maxRecDepth 100000
set_option maxHeartbeats 4000000
structure LineW(l:LineM):Prop where
 fin:LineFin l
 ok:LineOK l
 dev:l.dev.size≤100000
 port:l.port.size≤100000
 peer:l.peer.size≤100000
 far:l.far.size≤100000
 name:l.name.size≤100000
def Arc(l:LineM)(hw:LineW l)(hk:l.kind=1):Sp 330 [A3 l] (.tup [A3 (Bm l).1,Ab (Bm l).2]):=cT F330 ntmps330 λF hF=>by
 have hU:Bm l=({lineZ with row:=l.row,kind:=1,dev:=l.dev,num:=l.num,mac:=l.mac},(Cm l.num 0 65535&&statB l.mac)):=by
  simp only[Bm,hk];rfl
 rw[hU];have q0:=Hg l.num 0 65535;have q1:Sp 124 [A2 l.mac] (Ab (statB l.mac)):=by
  have:=hw.ok.mac;obtain ⟨m,dt⟩:∃m:Nat,l.mac=m:=⟨l.mac.toNat,by omega⟩
  rw[dt];exact Aei m q_
 obtain ⟨row,kind,dev,port,peer,far,name,mac,addr,bits,vlan,num,cost,tagged,imports,exports,addrs⟩:=l;dsimp only at hk q0 q1⊢;subst hk;clear hU hw;generalize Cm num 0 65535=b0 at *;generalize statB mac=b1 at *;cases b0
 ·rw[yE];refine gD q0 F373 ?_;refine Ak 2 (Cf {lineZ with row:=row,kind:=1,dev:=dev,num:=num,mac:=mac}) rfl vL ?_;exact gA
 rw[yF];refine gB q0 F373 q1 F124 ?_;refine Ak 2 (Cf {lineZ with row:=row,kind:=1,dev:=dev,num:=num,mac:=mac}) rfl vL ?_;exact gA
def Arb(l:LineM)(hw:LineW l)(hk:l.kind=2):Sp 330 [A3 l] (.tup [A3 (Bm l).1,Ab (Bm l).2]):=cT F330 ntmps330 λF hF=>by
 have hU:Bm l=({lineZ with row:=l.row,kind:=2,dev:=l.dev,port:=l.port,cost:=l.cost,vlan:=l.vlan,tagged:=l.tagged},(Bc l.port&&(Cm l.cost 1 65535&&(Cm l.vlan 0 4094&&(Ep l.tagged 4094&&membersB l.vlan l.tagged))))):=by
  simp only[Bm,hk];rfl
 rw[hU];have q0:=Kc l.port (by have:=hw.port;omega);have q1:=Hg l.cost 1 65535;have q2:=Hg l.vlan 0 4094;have q3:=Aas l.tagged 4094 hw.fin.t;have q4:=J8 l (by have:=hw.fin.t;simp only[An];omega);obtain ⟨row,kind,dev,port,peer,far,name,mac,addr,bits,vlan,num,cost,tagged,imports,exports,addrs⟩:=l;dsimp only at hk q0 q1 q2 q3 q4⊢;subst hk;clear hU hw;generalize Bc port=b0 at *;generalize Cm cost 1 65535=b1 at *;generalize Cm vlan 0 4094=b2 at *;generalize Ep tagged 4094=b3 at *;generalize membersB vlan tagged=b4 at *;cases b0
 ·rw[yE];refine gD q0 F121 ?_;refine Ak 2 (Cf {lineZ with row:=row,kind:=2,dev:=dev,port:=port,cost:=cost,vlan:=vlan,tagged:=tagged}) rfl vL ?_;exact gA
 rw[yF];cases b1
 ·rw[yE];refine gB q0 F121 q1 F373 ?_;refine Ak 2 (Cf {lineZ with row:=row,kind:=2,dev:=dev,port:=port,cost:=cost,vlan:=vlan,tagged:=tagged}) rfl vL ?_;exact gA
 rw[yF];cases b2
 ·rw[yE];refine gB q0 F121 q1 F373 ?_;refine C q2 F373 ?_;refine Ak 2 (Cf {lineZ with row:=row,kind:=2,dev:=dev,port:=port,cost:=cost,vlan:=vlan,tagged:=tagged}) rfl vL ?_;exact gA
 rw[yF];cases b3
 ·rw[yE];refine gB q0 F121 q1 F373 ?_;refine gJ q2 F373 q3 F374 ?_;refine Ak 2 (Cf {lineZ with row:=row,kind:=2,dev:=dev,port:=port,cost:=cost,vlan:=vlan,tagged:=tagged}) rfl vL ?_;exact gA
 rw[yF];refine gB q0 F121 q1 F373 ?_;refine gJ q2 F373 q3 F374 ?_;refine C q4 F125 ?_;refine Ak 2 (Cf {lineZ with row:=row,kind:=2,dev:=dev,port:=port,cost:=cost,vlan:=vlan,tagged:=tagged}) rfl vL ?_;exact gA
def Ara(l:LineM)(hw:LineW l)(hk:l.kind=3):Sp 330 [A3 l] (.tup [A3 (Bm l).1,Ab (Bm l).2]):=cT F330 ntmps330 λF hF=>by
 have hU:Bm l=({lineZ with row:=l.row,kind:=3,dev:=l.dev,port:=l.port,peer:=l.peer,far:=l.far},(Bc l.port&&(Bc l.peer&&Bc l.far))):=by
  simp only[Bm,hk];rfl
 rw[hU];have q0:=Kc l.port (by have:=hw.port;omega);have q1:=Kc l.peer (by have:=hw.peer;omega);have q2:=Kc l.far (by have:=hw.far;omega);obtain ⟨row,kind,dev,port,peer,far,name,mac,addr,bits,vlan,num,cost,tagged,imports,exports,addrs⟩:=l;dsimp only at hk q0 q1 q2⊢;subst hk;clear hU hw;generalize Bc port=b0 at *;generalize Bc peer=b1 at *;generalize Bc far=b2 at *;cases b0
 ·rw[yE];refine gD q0 F121 ?_;refine Ak 2 (Cf {lineZ with row:=row,kind:=3,dev:=dev,port:=port,peer:=peer,far:=far}) rfl vL ?_;exact gA
 rw[yF];cases b1
 ·rw[yE];refine gB q0 F121 q1 F121 ?_;refine Ak 2 (Cf {lineZ with row:=row,kind:=3,dev:=dev,port:=port,peer:=peer,far:=far}) rfl vL ?_;exact gA
 rw[yF];refine gB q0 F121 q1 F121 ?_;refine C q2 F121 ?_;refine Ak 2 (Cf {lineZ with row:=row,kind:=3,dev:=dev,port:=port,peer:=peer,far:=far}) rfl vL ?_;exact gA
def Aq9(l:LineM)(hw:LineW l)(hk:l.kind=4):Sp 330 [A3 l] (.tup [A3 (Bm l).1,Ab (Bm l).2]):=cT F330 ntmps330 λF hF=>by
 have hU:Bm l=({lineZ with row:=l.row,kind:=4,dev:=l.dev,vlan:=l.vlan,mac:=l.mac,port:=l.port},(Cm l.vlan 1 4094&&(statB l.mac&&Bc l.port))):=by
  simp only[Bm,hk];rfl
 rw[hU];have q0:=Hg l.vlan 1 4094;have q1:Sp 124 [A2 l.mac] (Ab (statB l.mac)):=by
  have:=hw.ok.mac;obtain ⟨m,dt⟩:∃m:Nat,l.mac=m:=⟨l.mac.toNat,by omega⟩
  rw[dt];exact Aei m q_
 have q2:=Kc l.port (by have:=hw.port;omega);obtain ⟨row,kind,dev,port,peer,far,name,mac,addr,bits,vlan,num,cost,tagged,imports,exports,addrs⟩:=l;dsimp only at hk q0 q1 q2⊢;subst hk;clear hU hw;generalize Cm vlan 1 4094=b0 at *;generalize statB mac=b1 at *;generalize Bc port=b2 at *;cases b0
 ·rw[yE];refine gD q0 F373 ?_;refine Ak 2 (Cf {lineZ with row:=row,kind:=4,dev:=dev,vlan:=vlan,mac:=mac,port:=port}) rfl vL ?_;exact gA
 rw[yF];cases b1
 ·rw[yE];refine gB q0 F373 q1 F124 ?_;refine Ak 2 (Cf {lineZ with row:=row,kind:=4,dev:=dev,vlan:=vlan,mac:=mac,port:=port}) rfl vL ?_;exact gA
 rw[yF];refine gB q0 F373 q1 F124 ?_;refine C q2 F121 ?_;refine Ak 2 (Cf {lineZ with row:=row,kind:=4,dev:=dev,vlan:=vlan,mac:=mac,port:=port}) rfl vL ?_;exact gA
def Aq7(l:LineM)(hw:LineW l)(hk:l.kind=6):Sp 330 [A3 l] (.tup [A3 (Bm l).1,Ab (Bm l).2]):=cT F330 ntmps330 λF hF=>by
 have hU:Bm l=({lineZ with row:=l.row,kind:=6,dev:=l.dev,vlan:=l.vlan,num:=l.num},(Cm l.vlan 1 4094&&Cm l.num 1 16777215)):=by
  simp only[Bm,hk];rfl
 rw[hU];have q0:=Hg l.vlan 1 4094;have q1:=Hg l.num 1 16777215;obtain ⟨row,kind,dev,port,peer,far,name,mac,addr,bits,vlan,num,cost,tagged,imports,exports,addrs⟩:=l;dsimp only at hk q0 q1⊢;subst hk;clear hU hw;generalize Cm vlan 1 4094=b0 at *;generalize Cm num 1 16777215=b1 at *;cases b0
 ·rw[yE];refine gD q0 F373 ?_;refine Ak 2 (Cf {lineZ with row:=row,kind:=6,dev:=dev,vlan:=vlan,num:=num}) rfl vL ?_;exact gA
 rw[yF];refine gB q0 F373 q1 F373 ?_;refine Ak 2 (Cf {lineZ with row:=row,kind:=6,dev:=dev,vlan:=vlan,num:=num}) rfl vL ?_;exact gA
def Aq6(l:LineM)(hw:LineW l)(hk:l.kind=7):Sp 330 [A3 l] (.tup [A3 (Bm l).1,Ab (Bm l).2]):=cT F330 ntmps330 λF hF=>by
 have hU:Bm l=({lineZ with row:=l.row,kind:=7,dev:=l.dev,num:=l.num,addrs:=l.addrs},(Cm l.num 1 16777215&&Kt l.addrs)):=by
  simp only[Bm,hk];rfl
 rw[hU];have q0:=Hg l.num 1 16777215;have q1:=Arn l.addrs hw.fin.a;obtain ⟨row,kind,dev,port,peer,far,name,mac,addr,bits,vlan,num,cost,tagged,imports,exports,addrs⟩:=l;dsimp only at hk q0 q1⊢;subst hk;clear hU hw;generalize Cm num 1 16777215=b0 at *;generalize Kt addrs=b1 at *;cases b0
 ·rw[yE];refine gD q0 F373 ?_;refine Ak 2 (Cf {lineZ with row:=row,kind:=7,dev:=dev,num:=num,addrs:=addrs}) rfl vL ?_;exact gA
 rw[yF];refine gB q0 F373 q1 F375 ?_;refine Ak 2 (Cf {lineZ with row:=row,kind:=7,dev:=dev,num:=num,addrs:=addrs}) rfl vL ?_;exact gA
def Aq5(l:LineM)(hw:LineW l)(hk:l.kind=8):Sp 330 [A3 l] (.tup [A3 (Bm l).1,Ab (Bm l).2]):=cT F330 ntmps330 λF hF=>by
 have hU:Bm l=({lineZ with row:=l.row,kind:=8,dev:=l.dev,name:=l.name,imports:=l.imports,exports:=l.exports},(Bc l.name&&(Ep l.imports 65535&&Ep l.exports 65535))):=by
  simp only[Bm,hk];rfl
 rw[hU];have q0:=Kc l.name (by have:=hw.name;omega);have q1:=Aas l.imports 65535 hw.fin.i;have q2:=Aas l.exports 65535 hw.fin.e;obtain ⟨row,kind,dev,port,peer,far,name,mac,addr,bits,vlan,num,cost,tagged,imports,exports,addrs⟩:=l;dsimp only at hk q0 q1 q2⊢;subst hk;clear hU hw;generalize Bc name=b0 at *;generalize Ep imports 65535=b1 at *;generalize Ep exports 65535=b2 at *;cases b0
 ·rw[yE];refine gD q0 F121 ?_;refine Ak 2 (Cf {lineZ with row:=row,kind:=8,dev:=dev,name:=name,imports:=imports,exports:=exports}) rfl vL ?_;exact gA
 rw[yF];cases b1
 ·rw[yE];refine gB q0 F121 q1 F374 ?_;refine Ak 2 (Cf {lineZ with row:=row,kind:=8,dev:=dev,name:=name,imports:=imports,exports:=exports}) rfl vL ?_;exact gA
 rw[yF];refine gB q0 F121 q1 F374 ?_;refine C q2 F374 ?_;refine Ak 2 (Cf {lineZ with row:=row,kind:=8,dev:=dev,name:=name,imports:=imports,exports:=exports}) rfl vL ?_;exact gA
def Aq4(l:LineM)(hw:LineW l)(hk:l.kind=9):Sp 330 [A3 l] (.tup [A3 (Bm l).1,Ab (Bm l).2]):=cT F330 ntmps330 λF hF=>by
 have hU:Bm l=({lineZ with row:=l.row,kind:=9,dev:=l.dev,vlan:=l.vlan,name:=l.name,addr:=l.addr,bits:=l.bits},(Cm l.vlan 1 4094&&(Bc l.name&&subnetB l.addr l.bits))):=by
  simp only[Bm,hk];rfl
 rw[hU];have q0:=Hg l.vlan 1 4094;have q1:=Kc l.name (by have:=hw.name;omega);have q2:Sp 77 [Mx l.addr l.bits] (Ab (subnetB l.addr l.bits)):=by
  have:=hw.ok.addr;obtain ⟨m,dt⟩:∃m:Nat,l.addr=m:=⟨l.addr.toNat,by omega⟩
  rw[dt];exact Abw m l.bits q_
 obtain ⟨row,kind,dev,port,peer,far,name,mac,addr,bits,vlan,num,cost,tagged,imports,exports,addrs⟩:=l;dsimp only at hk q0 q1 q2⊢;subst hk;clear hU hw;generalize Cm vlan 1 4094=b0 at *;generalize Bc name=b1 at *;generalize subnetB addr bits=b2 at *;cases b0
 ·rw[yE];refine gD q0 F373 ?_;refine Ak 2 (Cf {lineZ with row:=row,kind:=9,dev:=dev,vlan:=vlan,name:=name,addr:=addr,bits:=bits}) rfl vL ?_;exact gA
 rw[yF];cases b1
 ·rw[yE];refine gB q0 F373 q1 F121 ?_;refine Ak 2 (Cf {lineZ with row:=row,kind:=9,dev:=dev,vlan:=vlan,name:=name,addr:=addr,bits:=bits}) rfl vL ?_;exact gA
 rw[yF];refine gB q0 F373 q1 F121 ?_;refine C q2 F77 ?_;refine Ak 2 (Cf {lineZ with row:=row,kind:=9,dev:=dev,vlan:=vlan,name:=name,addr:=addr,bits:=bits}) rfl vL ?_;exact gA
def Aq8(l:LineM)(hw:LineW l)(hk:l.kind=5):Sp 330 [A3 l] (.tup [A3 (Bm l).1,Ab (Bm l).2]):=cT F330 ntmps330 λF hF=>by
 have hU:Bm l=({lineZ with row:=l.row,kind:=5,dev:=l.dev,addr:=l.addr},decide (l.addr≠0)):=by
  simp only[Bm,hk];rfl
 rw[hU];obtain ⟨row,kind,dev,port,peer,far,name,mac,addr,bits,vlan,num,cost,tagged,imports,exports,addrs⟩:=l;dsimp only at hk⊢;subst hk;clear hU hw;have hb:decide (addr≠0)=(addr != 0):=by
  by_cases h:addr=0
  ·rw[h];rfl
  ·rw[zO h,xG.2 h]
 rw[hb];refine T ?_;refine Ak 2 (Cf {lineZ with row:=row,kind:=5,dev:=dev,addr:=addr}) rfl vL ?_;exact gA
def Ard(l:LineM)(hk:¬(1≤l.kind∧l.kind≤9)):Sp 330 [A3 l] (.tup [A3 (Bm l).1,Ab (Bm l).2]):=cT F330 ntmps330 λF hF=>by
 have n1:¬l.kind=1:=by omega
 have f1:(l.kind==1)=false:=zR.2 n1;have n2:¬l.kind=2:=by omega
 have f2:(l.kind==2)=false:=zR.2 n2;have n3:¬l.kind=3:=by omega
 have f3:(l.kind==3)=false:=zR.2 n3;have n4:¬l.kind=4:=by omega
 have f4:(l.kind==4)=false:=zR.2 n4;have n5:¬l.kind=5:=by omega
 have f5:(l.kind==5)=false:=zR.2 n5;have n6:¬l.kind=6:=by omega
 have f6:(l.kind==6)=false:=zR.2 n6;have n7:¬l.kind=7:=by omega
 have f7:(l.kind==7)=false:=zR.2 n7;have n8:¬l.kind=8:=by omega
 have f8:(l.kind==8)=false:=zR.2 n8;have n9:¬l.kind=9:=by omega
 have f9:(l.kind==9)=false:=zR.2 n9;have hU:Bm l=({lineZ with row:=l.row,kind:=l.kind,dev:=l.dev},false):=by
  simp only[Bm,zD n1,zD n2,zD n3,zD n4,zD n5,zD n6,zD n7,zD n8,zD n9]
 rw[hU];refine T ?_;refine Ak 2 (Cf {lineZ with row:=l.row,kind:=l.kind,dev:=l.dev}) rfl vL ?_;exact gA
def Awr(l:LineM)(hw:LineW l):Sp 330 [A3 l] (.tup [A3 (Bm l).1,Ab (Bm l).2]):=by
 by_cases hk:1≤l.kind∧l.kind≤9
 ·rcases (by omega:l.kind=1∨l.kind=2∨l.kind=3∨l.kind=4∨l.kind=5∨l.kind=6∨l.kind=7∨l.kind=8∨l.kind=9) with h|h|h|h|h|h|h|h|h
  ·exact Arc l hw h
  ·exact Arb l hw h
  ·exact Ara l hw h
  ·exact Aq9 l hw h
  ·exact Aq8 l hw h
  ·exact Aq7 l hw h
  ·exact Aq6 l hw h
  ·exact Aq5 l hw h
  ·exact Aq4 l hw h
 ·exact Ard l hk
def Awf{l:LineM}(h:LineFin l):LineFin (Bm l).1:=by
 have ht:=h.t;have hi:=h.i;have he:=h.e;have haa:=h.a
 unfold Bm;dsimp only
 repeat' split
 all_goals exact⟨by first|exact ht|(show 0≤100000;decide),by first|exact hi|(show 0≤100000;decide),by first|exact he|(show 0≤100000;decide),by first|exact haa|(show 0≤100000;decide)⟩
def Ky(l:LineM)(hw:LineW l):Sp 261 [A3 l] (Ab (Cj l)):=cT F261 ntmps261 λF hF=>by
 have q1:=Awr l hw;have q2:=Kc l.dev (by have:=hw.dev;omega);have q3:=Awt (Bm l).1 l (Awf hw.fin) hw.fin;rw[Cj];generalize Bm l=u at *;obtain ⟨ul,ub⟩:=u;dsimp only at q1 q3⊢;cases ub
 ·rw[yE];refine gD q1 F330 ?_;exact D
 rw[yF];cases hn:Bc l.dev
 ·rw[hn]at q2;rw[yE];refine gB q1 F330 q2 F121 ?_;exact D
 rw[hn]at q2;rw[yF];refine gB q1 F330 q2 F121 ?_;refine C q3 F331 ?_;exact D
end Go.Sy.YticmobkdaneelaaGreatDoor
