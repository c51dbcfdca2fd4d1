/- Parts of a proof. -/
import Derived.Test.YticmobkdaneelaaGreatDoorYE17
set_option linter.all false
set_option linter.unusedVariables false
set_option linter.unusedSimpArgs false
set_option linter.deprecated false
namespace Go.Sy.YticmobkdaneelaaGreatDoor
open Go.Proofs Go.Proofs.Tryz
attribute [local irreducible] Go.Sy.G Go.Sy.DR
set_option maxRecDepth 100000
set_option maxHeartbeats 4000000
def Acj(s:ByteArray):0≤kindL s∧kindL s≤9:=by
 rw[kindL]
 repeat' split
 all_goals decide
def Jf{k:Int}{w:List ByteArray}(h:manyB k w=true):(k=1∨k=6∨k=7→w.length=4)∧(k=3∨k=4∨k=8∨k=9→w.length=5)∧(k=5→w.length=3)∧(k=2→6≤w.length∧w.length≤7∧(wdT w 4=E6→w.length=7))∧k≠0:=by
 rw[manyB]at h;by_cases h0:k=0
 ·rw[zG h0]at h;cases h
 rw[zD h0]at h;by_cases h2:k=2
 ·rw[zG h2]at h;by_cases h6:w.length<6
  ·rw[zG h6]at h;cases h
  rw[zD h6]at h;refine⟨λx=>by omega,λx=>by omega,λx=>by omega,λ_=>?_,h0⟩;by_cases ca:wdT w 4=Hu
  ·rw[zG ca]at h;have:=zK h;refine⟨by omega,by omega,λx=>?_⟩;rw[ca]at x;exact zY x Aj4
  ·rw[zD ca]at h;by_cases pz:wdT w 4=E6
   ·rw[zG pz]at h;have:=zK h;exact⟨by omega,by omega,λ_=>this⟩
   ·rw[zD pz]at h;have:=zK h;exact⟨by omega,by omega,λx=>zY x pz⟩
 rw[zD h2]at h;by_cases h3:k=3∨k=4∨k=8∨k=9
 ·rw[zG h3]at h;have:=zK h;exact⟨λx=>by omega,λ_=>this,λx=>by omega,λx=>by omega,h0⟩
 rw[zD h3]at h;by_cases h5:k=5
 ·rw[zG h5]at h;have:=zK h;exact⟨λx=>by omega,λx=>by omega,λ_=>this,λx=>by omega,h0⟩
 rw[zD h5]at h;have:=zK h;exact⟨λ_=>this,λx=>by omega,λx=>by omega,λx=>zY x h2,h0⟩
def Arm(w:List ByteArray)(row:Int)(hw:w.length≤1000000)(hs:∀s∈w,s.size≤40)(ag:0<w.length)(hk:kindL (wdT w 0)=1)(bw:manyB 1 w=true):Sp 26 [.sl 1 Aw w,Aa row] (.tup [A3 (Ci w row).1,Aa (Ci w row).2]):=cT F26 ntmps26 λF hF=>by
 have dy:(0:Int).toNat<w.length:=ag;have f0:((w.length:Int)==0)=false:=by rw[zR];omega
 have iw:w[(0:Int).toNat]'dy=wdT w 0:=(D0 ag).symm;have qk:Sp 64 [Aw (w[(0:Int).toNat]'dy)] (Aa 1):=by
  have:=H6 (wdT w 0);rw[hk]at this;rw[iw];exact this
 have qm:=H5 1 j_ w hw;rw[bw]at qm;have gw:=Jf bw;have dq:Ci w row=if Bs (B5 w row).2≠0 then (lineZ,Bs (B5 w row).2) else ((B5 w row).1,0):=by
  rw[Ci,zD];rintro (hh|hh)
  ·rw[hh]at ag;simp at ag
  ·rw[hk,bw]at hh;cases hh
 have cq:=Du _ (Ee w row);have hl:w.length=4:=gw.1 j_;have q1:=E3 w 1 (0:Int) q_ hw hs;obtain ⟨e1,ey⟩:∃e,Av (0:Int) (!(Bc (wdT w 1))) 20=e:=⟨_,rfl⟩
 rw[ey]at q1;have q2:=Vz w 2 e1 0 65535 q_ hw;obtain ⟨e2,dr⟩:∃e,Av e1 (!(numR (wdT w 2) 0 65535).2) 21=e:=⟨_,rfl⟩
 rw[dr]at q2;have q3:=A04 w 3 e2 q_ hw hs;obtain ⟨e3,gj⟩:∃e,Av e2 (macE (wdT w 3)) 21=e:=⟨_,rfl⟩
 rw[gj]at q3;have hR:B5 w row=({lineZ with row:=row,kind:=1,dev:=wdT w 1,num:=(numR (wdT w 2) 0 65535).1,mac:=(macR (wdT w 3)).1},[((!(Bc (wdT w 1))),20),((!(numR (wdT w 2) 0 65535).2),21),((macE (wdT w 3)),21)]):=by
  unfold B5;simp only[hk];rfl
 rw[hR]at dq cq;have cq:Bs _=e3:=cq.trans (by
  show Av (Av (Av ((0:Int)) (!(Bc (wdT w 1))) 20) (!(numR (wdT w 2) 0 65535).2) 21) (macE (wdT w 3)) 21=_;rw[ey,dr,gj])
 rw[cq]at dq;rw[dq];generalize e3=eN at *;refine gB qk F64 qm F63 ?_;refine C qk F64 ?_;refine Ak 9 (Cf {lineZ with row:=row,kind:=1}) rfl vL ?_;refine T ?_;refine X (Ap [(0,31)] (Aq E E F65) q1 E W E V) ?_;refine X (Ad [(0,31)] E F67 q2 E W E V) ?_;refine X (Ad [(0,31)] E F68 q3 E W E V) ?_;cases hz:(eN != 0)
 ·have bu:eN=0:=by simpa using hz
  rw[zD (by rw[bu];simp)];exact gA
 ·have bu:eN≠0:=by simpa using hz
  rw[zG bu];refine T ?_;refine Ak 4 (Cf lineZ) E vL ?_;exact gA
def Ark(w:List ByteArray)(row:Int)(hw:w.length≤1000000)(hs:∀s∈w,s.size≤40)(ag:0<w.length)(hk:kindL (wdT w 0)=3)(bw:manyB 3 w=true):Sp 26 [.sl 1 Aw w,Aa row] (.tup [A3 (Ci w row).1,Aa (Ci w row).2]):=cT F26 ntmps26 λF hF=>by
 have dy:(0:Int).toNat<w.length:=ag;have f0:((w.length:Int)==0)=false:=by rw[zR];omega
 have iw:w[(0:Int).toNat]'dy=wdT w 0:=(D0 ag).symm;have qk:Sp 64 [Aw (w[(0:Int).toNat]'dy)] (Aa 3):=by
  have:=H6 (wdT w 0);rw[hk]at this;rw[iw];exact this
 have qm:=H5 3 j_ w hw;rw[bw]at qm;have gw:=Jf bw;have dq:Ci w row=if Bs (B5 w row).2≠0 then (lineZ,Bs (B5 w row).2) else ((B5 w row).1,0):=by
  rw[Ci,zD];rintro (hh|hh)
  ·rw[hh]at ag;simp at ag
  ·rw[hk,bw]at hh;cases hh
 have cq:=Du _ (Ee w row);have hl:w.length=5:=gw.2.1 j_;have q1:=E3 w 1 (0:Int) q_ hw hs;obtain ⟨e1,ey⟩:∃e,Av (0:Int) (!(Bc (wdT w 1))) 20=e:=⟨_,rfl⟩
 rw[ey]at q1;have q2:=E3 w 2 e1 q_ hw hs;obtain ⟨e2,dr⟩:∃e,Av e1 (!(Bc (wdT w 2))) 20=e:=⟨_,rfl⟩
 rw[dr]at q2;have q3:=E3 w 3 e2 q_ hw hs;obtain ⟨e3,gj⟩:∃e,Av e2 (!(Bc (wdT w 3))) 20=e:=⟨_,rfl⟩
 rw[gj]at q3;have q4:=E3 w 4 e3 q_ hw hs;obtain ⟨e4,kr⟩:∃e,Av e3 (!(Bc (wdT w 4))) 20=e:=⟨_,rfl⟩
 rw[kr]at q4;have hR:B5 w row=({lineZ with row:=row,kind:=3,dev:=wdT w 1,port:=wdT w 2,peer:=wdT w 3,far:=wdT w 4},[((!(Bc (wdT w 1))),20),((!(Bc (wdT w 2))),20),((!(Bc (wdT w 3))),20),((!(Bc (wdT w 4))),20)]):=by
  unfold B5;simp only[hk];rfl
 rw[hR]at dq cq;have cq:Bs _=e4:=cq.trans (by
  show Av (Av (Av (Av ((0:Int)) (!(Bc (wdT w 1))) 20) (!(Bc (wdT w 2))) 20) (!(Bc (wdT w 3))) 20) (!(Bc (wdT w 4))) 20=_;rw[ey,dr,gj,kr])
 rw[cq]at dq;rw[dq];generalize e4=eN at *;refine gB qk F64 qm F63 ?_;refine C qk F64 ?_;refine Ak 9 (Cf {lineZ with row:=row,kind:=3}) rfl vL ?_;refine T ?_;refine X (Ap [(0,31)] (Aq E E F65) q1 E W E V) ?_;refine X (Ap [(0,31)] (Aq E E F65) q2 E W E V) ?_;refine X (Ap [(0,31)] (Aq E E F65) q3 E W E V) ?_;refine X (Ap [(0,31)] (Aq E E F65) q4 E W E V) ?_;cases hz:(eN != 0)
 ·have bu:eN=0:=by simpa using hz
  rw[zD (by rw[bu];simp)];exact gA
 ·have bu:eN≠0:=by simpa using hz
  rw[zG bu];refine T ?_;refine Ak 4 (Cf lineZ) E vL ?_;exact gA
def Arj(w:List ByteArray)(row:Int)(hw:w.length≤1000000)(hs:∀s∈w,s.size≤40)(ag:0<w.length)(hk:kindL (wdT w 0)=4)(bw:manyB 4 w=true):Sp 26 [.sl 1 Aw w,Aa row] (.tup [A3 (Ci w row).1,Aa (Ci w row).2]):=cT F26 ntmps26 λF hF=>by
 have dy:(0:Int).toNat<w.length:=ag;have f0:((w.length:Int)==0)=false:=by rw[zR];omega
 have iw:w[(0:Int).toNat]'dy=wdT w 0:=(D0 ag).symm;have qk:Sp 64 [Aw (w[(0:Int).toNat]'dy)] (Aa 4):=by
  have:=H6 (wdT w 0);rw[hk]at this;rw[iw];exact this
 have qm:=H5 4 j_ w hw;rw[bw]at qm;have gw:=Jf bw;have dq:Ci w row=if Bs (B5 w row).2≠0 then (lineZ,Bs (B5 w row).2) else ((B5 w row).1,0):=by
  rw[Ci,zD];rintro (hh|hh)
  ·rw[hh]at ag;simp at ag
  ·rw[hk,bw]at hh;cases hh
 have cq:=Du _ (Ee w row);have hl:w.length=5:=gw.2.1 j_;have q1:=E3 w 1 (0:Int) q_ hw hs;obtain ⟨e1,ey⟩:∃e,Av (0:Int) (!(Bc (wdT w 1))) 20=e:=⟨_,rfl⟩
 rw[ey]at q1;have q2:=Y4 w 2 e1 q_ hw;obtain ⟨e2,dr⟩:∃e,Av e1 (!(Cw (wdT w 2)).2) 21=e:=⟨_,rfl⟩
 rw[dr]at q2;have q3:=A04 w 3 e2 q_ hw hs;obtain ⟨e3,gj⟩:∃e,Av e2 (macE (wdT w 3)) 21=e:=⟨_,rfl⟩
 rw[gj]at q3;have q4:=E3 w 4 e3 q_ hw hs;obtain ⟨e4,kr⟩:∃e,Av e3 (!(Bc (wdT w 4))) 20=e:=⟨_,rfl⟩
 rw[kr]at q4;have hR:B5 w row=({lineZ with row:=row,kind:=4,dev:=wdT w 1,vlan:=(Cw (wdT w 2)).1,mac:=(macR (wdT w 3)).1,port:=wdT w 4},[((!(Bc (wdT w 1))),20),((!(Cw (wdT w 2)).2),21),((macE (wdT w 3)),21),((!(Bc (wdT w 4))),20)]):=by
  unfold B5;simp only[hk];rfl
 rw[hR]at dq cq;have cq:Bs _=e4:=cq.trans (by
  show Av (Av (Av (Av ((0:Int)) (!(Bc (wdT w 1))) 20) (!(Cw (wdT w 2)).2) 21) (macE (wdT w 3)) 21) (!(Bc (wdT w 4))) 20=_;rw[ey,dr,gj,kr])
 rw[cq]at dq;rw[dq];generalize e4=eN at *;refine gB qk F64 qm F63 ?_;refine C qk F64 ?_;refine Ak 9 (Cf {lineZ with row:=row,kind:=4}) rfl vL ?_;refine T ?_;refine X (Ap [(0,31)] (Aq E E F65) q1 E W E V) ?_;refine X (Ap [(0,31)] (Aq E E F66) q2 E W E V) ?_;refine X (Ad [(0,31)] E F68 q3 E W E V) ?_;refine X (Ap [(0,31)] (Aq E E F65) q4 E W E V) ?_;cases hz:(eN != 0)
 ·have bu:eN=0:=by simpa using hz
  rw[zD (by rw[bu];simp)];exact gA
 ·have bu:eN≠0:=by simpa using hz
  rw[zG bu];refine T ?_;refine Ak 4 (Cf lineZ) E vL ?_;exact gA
def Arh(w:List ByteArray)(row:Int)(hw:w.length≤1000000)(hs:∀s∈w,s.size≤40)(ag:0<w.length)(hk:kindL (wdT w 0)=6)(bw:manyB 6 w=true):Sp 26 [.sl 1 Aw w,Aa row] (.tup [A3 (Ci w row).1,Aa (Ci w row).2]):=cT F26 ntmps26 λF hF=>by
 have dy:(0:Int).toNat<w.length:=ag;have f0:((w.length:Int)==0)=false:=by rw[zR];omega
 have iw:w[(0:Int).toNat]'dy=wdT w 0:=(D0 ag).symm;have qk:Sp 64 [Aw (w[(0:Int).toNat]'dy)] (Aa 6):=by
  have:=H6 (wdT w 0);rw[hk]at this;rw[iw];exact this
 have qm:=H5 6 j_ w hw;rw[bw]at qm;have gw:=Jf bw;have dq:Ci w row=if Bs (B5 w row).2≠0 then (lineZ,Bs (B5 w row).2) else ((B5 w row).1,0):=by
  rw[Ci,zD];rintro (hh|hh)
  ·rw[hh]at ag;simp at ag
  ·rw[hk,bw]at hh;cases hh
 have cq:=Du _ (Ee w row);have hl:w.length=4:=gw.1 j_;have q1:=E3 w 1 (0:Int) q_ hw hs;obtain ⟨e1,ey⟩:∃e,Av (0:Int) (!(Bc (wdT w 1))) 20=e:=⟨_,rfl⟩
 rw[ey]at q1;have q2:=Y4 w 2 e1 q_ hw;obtain ⟨e2,dr⟩:∃e,Av e1 (!(Cw (wdT w 2)).2) 21=e:=⟨_,rfl⟩
 rw[dr]at q2;have q3:=A03 w 3 e2 q_ hw;obtain ⟨e3,gj⟩:∃e,Av e2 (!(Sb (wdT w 3)).2) 21=e:=⟨_,rfl⟩
 rw[gj]at q3;have hR:B5 w row=({lineZ with row:=row,kind:=6,dev:=wdT w 1,vlan:=(Cw (wdT w 2)).1,num:=(Sb (wdT w 3)).1},[((!(Bc (wdT w 1))),20),((!(Cw (wdT w 2)).2),21),((!(Sb (wdT w 3)).2),21)]):=by
  unfold B5;simp only[hk];rfl
 rw[hR]at dq cq;have cq:Bs _=e3:=cq.trans (by
  show Av (Av (Av ((0:Int)) (!(Bc (wdT w 1))) 20) (!(Cw (wdT w 2)).2) 21) (!(Sb (wdT w 3)).2) 21=_;rw[ey,dr,gj])
 rw[cq]at dq;rw[dq];generalize e3=eN at *;refine gB qk F64 qm F63 ?_;refine C qk F64 ?_;refine Ak 9 (Cf {lineZ with row:=row,kind:=6}) rfl vL ?_;refine T ?_;refine X (Ap [(0,31)] (Aq E E F65) q1 E W E V) ?_;refine X (Ap [(0,31)] (Aq E E F66) q2 E W E V) ?_;refine X (Ad [(0,31)] E F73 q3 E W E V) ?_;cases hz:(eN != 0)
 ·have bu:eN=0:=by simpa using hz
  rw[zD (by rw[bu];simp)];exact gA
 ·have bu:eN≠0:=by simpa using hz
  rw[zG bu];refine T ?_;refine Ak 4 (Cf lineZ) E vL ?_;exact gA
def Arf(w:List ByteArray)(row:Int)(hw:w.length≤1000000)(hs:∀s∈w,s.size≤40)(ag:0<w.length)(hk:kindL (wdT w 0)=8)(bw:manyB 8 w=true):Sp 26 [.sl 1 Aw w,Aa row] (.tup [A3 (Ci w row).1,Aa (Ci w row).2]):=cT F26 ntmps26 λF hF=>by
 have dy:(0:Int).toNat<w.length:=ag;have f0:((w.length:Int)==0)=false:=by rw[zR];omega
 have iw:w[(0:Int).toNat]'dy=wdT w 0:=(D0 ag).symm;have qk:Sp 64 [Aw (w[(0:Int).toNat]'dy)] (Aa 8):=by
  have:=H6 (wdT w 0);rw[hk]at this;rw[iw];exact this
 have qm:=H5 8 j_ w hw;rw[bw]at qm;have gw:=Jf bw;have dq:Ci w row=if Bs (B5 w row).2≠0 then (lineZ,Bs (B5 w row).2) else ((B5 w row).1,0):=by
  rw[Ci,zD];rintro (hh|hh)
  ·rw[hh]at ag;simp at ag
  ·rw[hk,bw]at hh;cases hh
 have cq:=Du _ (Ee w row);have hl:w.length=5:=gw.2.1 j_;have q1:=E3 w 1 (0:Int) q_ hw hs;obtain ⟨e1,ey⟩:∃e,Av (0:Int) (!(Bc (wdT w 1))) 20=e:=⟨_,rfl⟩
 rw[ey]at q1;have q2:=E3 w 2 e1 q_ hw hs;obtain ⟨e2,dr⟩:∃e,Av e1 (!(Bc (wdT w 2))) 20=e:=⟨_,rfl⟩
 rw[dr]at q2;have q3:=Adx w 3 e2 65535 q_ hw hs;obtain ⟨e3,gj⟩:∃e,Av e2 (!(listR 65535 (wdT w 3)).2) 21=e:=⟨_,rfl⟩
 rw[gj]at q3;have q4:=Adx w 4 e3 65535 q_ hw hs;obtain ⟨e4,kr⟩:∃e,Av e3 (!(listR 65535 (wdT w 4)).2) 21=e:=⟨_,rfl⟩
 rw[kr]at q4;have hR:B5 w row=({lineZ with row:=row,kind:=8,dev:=wdT w 1,name:=wdT w 2,imports:=(listR 65535 (wdT w 3)).1,exports:=(listR 65535 (wdT w 4)).1},[((!(Bc (wdT w 1))),20),((!(Bc (wdT w 2))),20),((!(listR 65535 (wdT w 3)).2),21),((!(listR 65535 (wdT w 4)).2),21)]):=by
  unfold B5;simp only[hk];rfl
 rw[hR]at dq cq;have cq:Bs _=e4:=cq.trans (by
  show Av (Av (Av (Av ((0:Int)) (!(Bc (wdT w 1))) 20) (!(Bc (wdT w 2))) 20) (!(listR 65535 (wdT w 3)).2) 21) (!(listR 65535 (wdT w 4)).2) 21=_;rw[ey,dr,gj,kr])
 rw[cq]at dq;rw[dq];generalize e4=eN at *;refine gB qk F64 qm F63 ?_;refine C qk F64 ?_;refine Ak 9 (Cf {lineZ with row:=row,kind:=8}) rfl vL ?_;refine T ?_;refine X (Ap [(0,31)] (Aq E E F65) q1 E W E V) ?_;refine X (Ap [(0,31)] (Aq E E F65) q2 E W E V) ?_;refine X (Ad [(0,31)] E F75 q3 E W E V) ?_;refine X (Ad [(0,31)] E F75 q4 E W E V) ?_;cases hz:(eN != 0)
 ·have bu:eN=0:=by simpa using hz
  rw[zD (by rw[bu];simp)];exact gA
 ·have bu:eN≠0:=by simpa using hz
  rw[zG bu];refine T ?_;refine Ak 4 (Cf lineZ) E vL ?_;exact gA
def Ari(w:List ByteArray)(row:Int)(hw:w.length≤1000000)(hs:∀s∈w,s.size≤40)(ag:0<w.length)(hk:kindL (wdT w 0)=5)(bw:manyB 5 w=true):Sp 26 [.sl 1 Aw w,Aa row] (.tup [A3 (Ci w row).1,Aa (Ci w row).2]):=cT F26 ntmps26 λF hF=>by
 have dy:(0:Int).toNat<w.length:=ag;have f0:((w.length:Int)==0)=false:=by rw[zR];omega
 have iw:w[(0:Int).toNat]'dy=wdT w 0:=(D0 ag).symm;have qk:Sp 64 [Aw (w[(0:Int).toNat]'dy)] (Aa 5):=by
  have:=H6 (wdT w 0);rw[hk]at this;rw[iw];exact this
 have qm:=H5 5 j_ w hw;rw[bw]at qm;have gw:=Jf bw;have dq:Ci w row=if Bs (B5 w row).2≠0 then (lineZ,Bs (B5 w row).2) else ((B5 w row).1,0):=by
  rw[Ci,zD];rintro (hh|hh)
  ·rw[hh]at ag;simp at ag
  ·rw[hk,bw]at hh;cases hh
 have cq:=Du _ (Ee w row);have hl:w.length=3:=gw.2.2.1 rfl;have q1:=E3 w 1 (0:Int) q_ hw hs;obtain ⟨e1,ey⟩:∃e,Av (0:Int) (!(Bc (wdT w 1))) 20=e:=⟨_,rfl⟩
 rw[ey]at q1;have qn:=Ok w 2 e1 q_ hw;have bg:(wdT w 2).size≤40:=by rw[D0 (by omega:2<w.length)];exact hs _ (zI _)
 have qa:=Abo (wdT w 2) q_;have q2:=Jn w 3 e1 (!((Dy (wdT w 2)).2&&decide ((Dy (wdT w 2)).1≠0))) 21;obtain ⟨e2,dr⟩:∃e,Av e1 (!((Dy (wdT w 2)).2&&decide ((Dy (wdT w 2)).1≠0))) 21=e:=⟨_,rfl⟩
 rw[dr]at q2;have hR:B5 w row=({lineZ with row:=row,kind:=5,dev:=wdT w 1,addr:=(Dy (wdT w 2)).1},[((!(Bc (wdT w 1))),20),((!((Dy (wdT w 2)).2&&decide ((Dy (wdT w 2)).1≠0))),21)]):=by
  unfold B5;simp only[hk];rfl
 rw[hR]at dq cq;have cq:Bs _=e2:=cq.trans (by
  show Av (Av ((0:Int)) (!(Bc (wdT w 1))) 20) (!((Dy (wdT w 2)).2 && decide ((Dy (wdT w 2)).1≠0))) 21=_;rw[ey,dr])
 rw[cq]at dq;rw[dq];generalize e2=eN at *;clear hR dq cq dr;generalize Dy (wdT w 2)=rt at *;obtain ⟨av,ok⟩:=rt;dsimp only at qa q2⊢;cases ok
 ·have q2:Sq 69 [.ptr 0 0,Ab true,Aa 21] (rdO w 3 e1) (.tup []) (rdO w 3 eN):=q2;refine gB qk F64 qm F63 ?_;refine C qk F64 ?_;refine Ak 9 (Cf {lineZ with row:=row,kind:=5}) rfl vL ?_;refine T ?_;refine X (Ap [(0,31)] (Aq E E F65) q1 E W E V) ?_;refine X (Ad [(0,31)] E F72 qn E W E V) ?_;refine C qa F71 ?_;refine X (Ad [(0,31)] E F69 q2 E W E V) ?_;cases hz:(eN != 0)
  ·have bu:eN=0:=by simpa using hz
   rw[zD (by rw[bu];simp)];exact gA
  ·have bu:eN≠0:=by simpa using hz
   rw[zG bu];refine T ?_;refine Ak 4 (Cf lineZ) E vL ?_;exact gA
 ·have hb:(!(true&&decide (av≠0)))=(av==0):=by
   by_cases h:av=0
   ·rw[h];rfl
   ·rw[zO h,zR.2 h];rfl
  rw[hb]at q2;refine gB qk F64 qm F63 ?_;refine C qk F64 ?_;refine Ak 9 (Cf {lineZ with row:=row,kind:=5}) rfl vL ?_;refine T ?_;refine X (Ap [(0,31)] (Aq E E F65) q1 E W E V) ?_;refine X (Ad [(0,31)] E F72 qn E W E V) ?_;refine C qa F71 ?_;refine X (Ad [(0,31)] E F69 q2 E W E V) ?_;cases hz:(eN != 0)
  ·have bu:eN=0:=by simpa using hz
   rw[zD (by rw[bu];simp)];exact gA
  ·have bu:eN≠0:=by simpa using hz
   rw[zG bu];refine T ?_;refine Ak 4 (Cf lineZ) E vL ?_;exact gA
def Arg(w:List ByteArray)(row:Int)(hw:w.length≤1000000)(hs:∀s∈w,s.size≤40)(ag:0<w.length)(hk:kindL (wdT w 0)=7)(bw:manyB 7 w=true):Sp 26 [.sl 1 Aw w,Aa row] (.tup [A3 (Ci w row).1,Aa (Ci w row).2]):=cT F26 ntmps26 λF hF=>by
 have dy:(0:Int).toNat<w.length:=ag;have f0:((w.length:Int)==0)=false:=by rw[zR];omega
 have iw:w[(0:Int).toNat]'dy=wdT w 0:=(D0 ag).symm;have qk:Sp 64 [Aw (w[(0:Int).toNat]'dy)] (Aa 7):=by
  have:=H6 (wdT w 0);rw[hk]at this;rw[iw];exact this
 have qm:=H5 7 j_ w hw;rw[bw]at qm;have gw:=Jf bw;have dq:Ci w row=if Bs (B5 w row).2≠0 then (lineZ,Bs (B5 w row).2) else ((B5 w row).1,0):=by
  rw[Ci,zD];rintro (hh|hh)
  ·rw[hh]at ag;simp at ag
  ·rw[hk,bw]at hh;cases hh
 have cq:=Du _ (Ee w row);have hl:w.length=4:=gw.1 j_;have q1:=E3 w 1 (0:Int) q_ hw hs;obtain ⟨e1,ey⟩:∃e,Av (0:Int) (!(Bc (wdT w 1))) 20=e:=⟨_,rfl⟩
 rw[ey]at q1;have q2:=A03 w 2 e1 q_ hw;obtain ⟨e2,dr⟩:∃e,Av e1 (!(Sb (wdT w 2)).2) 21=e:=⟨_,rfl⟩
 rw[dr]at q2;have qn:=Ok w 3 e2 q_ hw;have bg:(wdT w 3).size≤40:=by rw[D0 (by omega:3<w.length)];exact hs _ (zI _)
 have qa:=Ahj (wdT w 3) q_;have gl:(Ea (wdT w 3)).2=true→0<(Ea (wdT w 3)).1.length:=λh=>by
  have hp:=Ady h;rw[Ea,Ie]at hp⊢;have:=(Qy _ _ _ _ hp List.Pairwise.nil j_).2.2.1;rw[this,Lc];simp
 have q3:=Jn w 4 e2 (!((Ea (wdT w 3)).2&&decide ((Ea (wdT w 3)).1.head? ≠ some 0))) 21;obtain ⟨e3,gj⟩:∃e,Av e2 (!((Ea (wdT w 3)).2&&decide ((Ea (wdT w 3)).1.head? ≠ some 0))) 21=e:=⟨_,rfl⟩
 rw[gj]at q3;have hR:B5 w row=({lineZ with row:=row,kind:=7,dev:=wdT w 1,num:=(Sb (wdT w 2)).1,addrs:=(Ea (wdT w 3)).1},[((!(Bc (wdT w 1))),20),((!(Sb (wdT w 2)).2),21),((!((Ea (wdT w 3)).2&&decide ((Ea (wdT w 3)).1.head? ≠ some 0))),21)]):=by
  unfold B5;simp only[hk];rfl
 rw[hR]at dq cq;have cq:Bs _=e3:=cq.trans (by
  show Av (Av (Av ((0:Int)) (!(Bc (wdT w 1))) 20) (!(Sb (wdT w 2)).2) 21) (!((Ea (wdT w 3)).2 && decide ((Ea (wdT w 3)).1.head? ≠ some 0))) 21=_;rw[ey,dr,gj])
 rw[cq]at dq;rw[dq];generalize e3=eN at *;clear hR dq cq gj;generalize Ea (wdT w 3)=rt at *;obtain ⟨av,ok⟩:=rt;dsimp only at qa q3 gl⊢;cases ok
 ·have q3:Sq 69 [.ptr 0 0,Ab true,Aa 21] (rdO w 4 e2) (.tup []) (rdO w 4 eN):=q3;refine gB qk F64 qm F63 ?_;refine C qk F64 ?_;refine Ak 9 (Cf {lineZ with row:=row,kind:=7}) rfl vL ?_;refine T ?_;refine X (Ap [(0,31)] (Aq E E F65) q1 E W E V) ?_;refine X (Ad [(0,31)] E F73 q2 E W E V) ?_;refine X (Ad [(0,31)] E F72 qn E W E V) ?_;refine C qa F74 ?_;refine X (Ad [(0,31)] E F69 q3 E W E V) ?_;cases hz:(eN != 0)
  ·have bu:eN=0:=by simpa using hz
   rw[zD (by rw[bu];simp)];exact gA
  ·have bu:eN≠0:=by simpa using hz
   rw[zG bu];refine T ?_;refine Ak 4 (Cf lineZ) E vL ?_;exact gA
 ·have h0:(0:Int).toNat<av.length:=gl rfl;have hb:(!(true&&decide (av.head? ≠ some 0)))=(av[(0:Int).toNat]'h0==0):=by
   cases av with
   |nil=>exact zY h0 y_
   |cons a r=>
    show (!(true&&decide (some a≠some 0)))=(a==0);by_cases h:a=0
    ·rw[h];rfl
    ·rw[zR.2 h,zO (by simpa using h)];rfl
  rw[hb]at q3;refine gB qk F64 qm F63 ?_;refine C qk F64 ?_;refine Ak 9 (Cf {lineZ with row:=row,kind:=7}) rfl vL ?_;refine T ?_;refine X (Ap [(0,31)] (Aq E E F65) q1 E W E V) ?_;refine X (Ad [(0,31)] E F73 q2 E W E V) ?_;refine X (Ad [(0,31)] E F72 qn E W E V) ?_;refine C qa F74 ?_;refine X (Ad [(0,31)] E F69 q3 E W E V) ?_;cases hz:(eN != 0)
  ·have bu:eN=0:=by simpa using hz
   rw[zD (by rw[bu];simp)];exact gA
  ·have bu:eN≠0:=by simpa using hz
   rw[zG bu];refine T ?_;refine Ak 4 (Cf lineZ) E vL ?_;exact gA
def Aky(s:ByteArray):∃m:Nat,(prefixR s).1.1=m∧m<4294967296:=by
 rw[prefixR];split
 ·exact⟨0,E,by decide⟩
 ·have h1:=Lx (cutT 47 s).1;have h2:=Tl (cutT 47 s).1;exact⟨(Dy (cutT 47 s).1).1.toNat,(xD h1).symm,by omega⟩
def Are(w:List ByteArray)(row:Int)(hw:w.length≤1000000)(hs:∀s∈w,s.size≤40)(ag:0<w.length)(hk:kindL (wdT w 0)=9)(bw:manyB 9 w=true):Sp 26 [.sl 1 Aw w,Aa row] (.tup [A3 (Ci w row).1,Aa (Ci w row).2]):=cT F26 ntmps26 λF hF=>by
 have dy:(0:Int).toNat<w.length:=ag;have f0:((w.length:Int)==0)=false:=by rw[zR];omega
 have iw:w[(0:Int).toNat]'dy=wdT w 0:=(D0 ag).symm;have qk:Sp 64 [Aw (w[(0:Int).toNat]'dy)] (Aa 9):=by
  have:=H6 (wdT w 0);rw[hk]at this;rw[iw];exact this
 have qm:=H5 9 j_ w hw;rw[bw]at qm;have gw:=Jf bw;have dq:Ci w row=if Bs (B5 w row).2≠0 then (lineZ,Bs (B5 w row).2) else ((B5 w row).1,0):=by
  rw[Ci,zD];rintro (hh|hh)
  ·rw[hh]at ag;simp at ag
  ·rw[hk,bw]at hh;cases hh
 have cq:=Du _ (Ee w row);have hl:w.length=5:=gw.2.1 j_;have q1:=E3 w 1 (0:Int) q_ hw hs;obtain ⟨e1,ey⟩:∃e,Av (0:Int) (!(Bc (wdT w 1))) 20=e:=⟨_,rfl⟩
 rw[ey]at q1;have q2:=Y4 w 2 e1 q_ hw;obtain ⟨e2,dr⟩:∃e,Av e1 (!(Cw (wdT w 2)).2) 21=e:=⟨_,rfl⟩
 rw[dr]at q2;have q3:=E3 w 3 e2 q_ hw hs;obtain ⟨e3,gj⟩:∃e,Av e2 (!(Bc (wdT w 3))) 20=e:=⟨_,rfl⟩
 rw[gj]at q3;have qn:=Ok w 4 e3 q_ hw;have bg:(wdT w 4).size≤40:=by rw[D0 (by omega:4<w.length)];exact hs _ (zI _)
 have qa:=Aqp (wdT w 4) q_;have hrg:=Aky (wdT w 4);have q4:=Jn w 5 e3 (!((prefixR (wdT w 4)).2&&subnetB (prefixR (wdT w 4)).1.1 (prefixR (wdT w 4)).1.2)) 21;obtain ⟨e4,kr⟩:∃e,Av e3 (!((prefixR (wdT w 4)).2&&subnetB (prefixR (wdT w 4)).1.1 (prefixR (wdT w 4)).1.2)) 21=e:=⟨_,rfl⟩
 rw[kr]at q4;have hR:B5 w row=({lineZ with row:=row,kind:=9,dev:=wdT w 1,vlan:=(Cw (wdT w 2)).1,name:=wdT w 3,addr:=(prefixR (wdT w 4)).1.1,bits:=(prefixR (wdT w 4)).1.2},[((!(Bc (wdT w 1))),20),((!(Cw (wdT w 2)).2),21),((!(Bc (wdT w 3))),20),((!((prefixR (wdT w 4)).2&&subnetB (prefixR (wdT w 4)).1.1 (prefixR (wdT w 4)).1.2)),21)]):=by
  unfold B5;simp only[hk];rfl
 rw[hR]at dq cq;have cq:Bs _=e4:=cq.trans (by
  show Av (Av (Av (Av ((0:Int)) (!(Bc (wdT w 1))) 20) (!(Cw (wdT w 2)).2) 21) (!(Bc (wdT w 3))) 20) (!((prefixR (wdT w 4)).2 && subnetB (prefixR (wdT w 4)).1.1 (prefixR (wdT w 4)).1.2)) 21=_;rw[ey,dr,gj,kr])
 rw[cq]at dq;rw[dq];generalize e4=eN at *;clear hR dq cq kr;obtain ⟨m,dt,de⟩:=hrg;generalize prefixR (wdT w 4)=rt at *;obtain ⟨⟨av,bv⟩,ok⟩:=rt;dsimp only at qa q4 dt⊢;subst dt;have qs:=Abw m bv de;generalize subnetB (m:Int) bv=sb at *;cases ok
 ·have q4:Sq 69 [.ptr 0 0,Ab true,Aa 21] (rdO w 5 e3) (.tup []) (rdO w 5 eN):=q4;refine gB qk F64 qm F63 ?_;refine C qk F64 ?_;refine Ak 9 (Cf {lineZ with row:=row,kind:=9}) rfl vL ?_;refine T ?_;refine X (Ap [(0,31)] (Aq E E F65) q1 E W E V) ?_;refine X (Ap [(0,31)] (Aq E E F66) q2 E W E V) ?_;refine X (Ap [(0,31)] (Aq E E F65) q3 E W E V) ?_;refine X (Ad [(0,31)] E F72 qn E W E V) ?_;refine C qa F76 ?_;refine X (Ad [(0,31)] E F69 q4 E W E V) ?_;cases hz:(eN != 0)
  ·have bu:eN=0:=by simpa using hz
   rw[zD (by rw[bu];simp)];exact gA
  ·have bu:eN≠0:=by simpa using hz
   rw[zG bu];refine T ?_;refine Ak 4 (Cf lineZ) E vL ?_;exact gA
 ·have hb:(!(true&&sb))=!sb:=rfl;rw[hb]at q4;refine gB qk F64 qm F63 ?_;refine C qk F64 ?_;refine Ak 9 (Cf {lineZ with row:=row,kind:=9}) rfl vL ?_;refine T ?_;refine X (Ap [(0,31)] (Aq E E F65) q1 E W E V) ?_;refine X (Ap [(0,31)] (Aq E E F66) q2 E W E V) ?_;refine X (Ap [(0,31)] (Aq E E F65) q3 E W E V) ?_;refine X (Ad [(0,31)] E F72 qn E W E V) ?_;refine gJ qa F76 qs F77 ?_;refine X (Ad [(0,31)] E F69 q4 E W E V) ?_;cases hz:(eN != 0)
  ·have bu:eN=0:=by simpa using hz
   rw[zD (by rw[bu];simp)];exact gA
  ·have bu:eN≠0:=by simpa using hz
   rw[zG bu];refine T ?_;refine Ak 4 (Cf lineZ) E vL ?_;exact gA
def Arl(w:List ByteArray)(row:Int)(hw:w.length≤1000000)(hs:∀s∈w,s.size≤40)(ag:0<w.length)(hk:kindL (wdT w 0)=2)(bw:manyB 2 w=true):Sp 26 [.sl 1 Aw w,Aa row] (.tup [A3 (Ci w row).1,Aa (Ci w row).2]):=cT F26 ntmps26 λF hF=>by
 have dy:(0:Int).toNat<w.length:=ag;have f0:((w.length:Int)==0)=false:=by rw[zR];omega
 have iw:w[(0:Int).toNat]'dy=wdT w 0:=(D0 ag).symm;have qk:Sp 64 [Aw (w[(0:Int).toNat]'dy)] (Aa 2):=by
  have:=H6 (wdT w 0);rw[hk]at this;rw[iw];exact this
 have qm:=H5 2 j_ w hw;rw[bw]at qm;have gw:=Jf bw;have dq:Ci w row=if Bs (B5 w row).2≠0 then (lineZ,Bs (B5 w row).2) else ((B5 w row).1,0):=by
  rw[Ci,zD];rintro (hh|hh)
  ·rw[hh]at ag;simp at ag
  ·rw[hk,bw]at hh;cases hh
 have cq:=Du _ (Ee w row);have hl:6≤w.length∧w.length≤7∧(wdT w 4=E6→w.length=7):=gw.2.2.2.1 rfl;have q1:=E3 w 1 (0:Int) q_ hw hs;obtain ⟨e1,ey⟩:∃e,Av (0:Int) (!(Bc (wdT w 1))) 20=e:=⟨_,rfl⟩
 rw[ey]at q1;have q2:=E3 w 2 e1 q_ hw hs;obtain ⟨e2,dr⟩:∃e,Av e1 (!(Bc (wdT w 2))) 20=e:=⟨_,rfl⟩
 rw[dr]at q2;have q3:=Vz w 3 e2 1 65535 q_ hw;obtain ⟨e3,gj⟩:∃e,Av e2 (!(numR (wdT w 3) 1 65535).2) 21=e:=⟨_,rfl⟩
 rw[gj]at q3;have q4:=Jn w 4 e3 (decide (wdT w 4≠Hu)&&decide (wdT w 4≠E6)) 20;obtain ⟨e4,kr⟩:∃e,Av e3 (decide (wdT w 4≠Hu)&&decide (wdT w 4≠E6)) 20=e:=⟨_,rfl⟩
 rw[kr]at q4;have qp:=A46 w e4 { lineZ with row:=row,kind:=2,dev:=wdT w 1,port:=wdT w 2,cost:=(numR (wdT w 3) 1 65535).1 } hw hs q_ (λ x=>by
  have h6:w.length=6:=by
   have hm3:=bw;rw[manyB,zD j_,zG rfl,zD q_,zG x]at hm3;exact zK hm3
  omega) (λ x=>by have:=hl.2.2 x;omega) ⟨rfl,rfl⟩
 have hR:B5 w row=({ lineZ with row:=row,kind:=2,dev:=wdT w 1,port:=wdT w 2,cost:=(numR (wdT w 3) 1 65535).1,vlan:=(Ef w).1,tagged:=(Ef w).2.1 },
   [((!(Bc (wdT w 1))),20),((!(Bc (wdT w 2))),20),((!(numR (wdT w 3) 1 65535).2),21),((decide (wdT w 4≠Hu) && decide (wdT w 4≠E6)),20)]++(Ef w).2.2++[(!(membersB (Ef w).1 (Ef w).2.1),21)]):=by
  unfold B5;simp only[hk];rfl
 rw[hR]at dq cq;have cq:Bs _=Lv e4 ((Ef w).2.2++[(!(membersB (Ef w).1 (Ef w).2.1),21)]):=cq.trans (by
  rw[V9,V9,V9];congr 2;show Av (Av (Av (Av ((0:Int)) (!(Bc (wdT w 1))) 20) (!(Bc (wdT w 2))) 20) (!(numR (wdT w 3) 1 65535).2) 21) (decide (wdT w 4≠Hu) && decide (wdT w 4≠E6)) 20=_;rw[ey,dr,gj,kr])
 rw[cq]at dq;rw[dq];clear hR dq cq kr;dsimp only at qp⊢;generalize Lv e4 ((Ef w).2.2++[(!(membersB (Ef w).1 (Ef w).2.1),21)])=eN at *;generalize Ef w=pr at *;have zf:(4:Int).toNat<w.length:=by show 4<w.length;omega
 have hx4:w[(4:Int).toNat]'zf=wdT w 4:=(D0 q_).symm;by_cases ca:wdT w 4=Hu
 ·have g1:(!(w[(4:Int).toNat]'zf==(⟨#[97,99,99,101,115,115]⟩:ByteArray)))=false:=Ad6 (by rw[hx4];exact ca);have q4:Sq 69 [.ptr 0 0,Ab false,Aa 20] (rdO w 4 e3) (.tup []) (rdO w 4 e4):=by
   rw[zL (λx=>x ca)]at q4;exact q4
  refine gB qk F64 qm F63 ?_;refine C qk F64 ?_;refine Ak 9 (Cf {lineZ with row:=row,kind:=2}) rfl vL ?_;refine T ?_;refine X (Ap [(0,31)] (Aq E E F65) q1 E W E V) ?_;refine X (Ap [(0,31)] (Aq E E F65) q2 E W E V) ?_;refine X (Ad [(0,31)] E F67 q3 E W E V) ?_;refine X (Ad [(0,31)] E F69 q4 E W E V) ?_;refine X (Ad [(0,31),(1,9)] E F70 qp E W E V) ?_;cases hz:(eN != 0)
  ·have bu:eN=0:=by simpa using hz
   rw[zD (by rw[bu];simp)];exact gA
  ·have bu:eN≠0:=by simpa using hz
   rw[zG bu];refine T ?_;refine Ak 4 (Cf lineZ) E vL ?_;exact gA
 ·have g1:(!(w[(4:Int).toNat]'zf==(⟨#[97,99,99,101,115,115]⟩:ByteArray)))=true:=Al6 (by rw[hx4];exact ca);have hb:(decide (wdT w 4≠Hu)&&decide (wdT w 4≠E6))=!(w[(4:Int).toNat]'zf==(⟨#[116,114,117,110,107]⟩:ByteArray)):=by
   rw[zO ca,yF,hx4];show decide (wdT w 4≠E6)=!(wdT w 4==E6);by_cases cr:wdT w 4=E6
   ·rw[Ad6 cr,zL (λx:wdT w 4≠E6=>x cr)]
   ·rw[Al6 cr,zO cr]
  rw[hb]at q4;refine gB qk F64 qm F63 ?_;refine C qk F64 ?_;refine Ak 9 (Cf {lineZ with row:=row,kind:=2}) rfl vL ?_;refine T ?_;refine X (Ap [(0,31)] (Aq E E F65) q1 E W E V) ?_;refine X (Ap [(0,31)] (Aq E E F65) q2 E W E V) ?_;refine X (Ad [(0,31)] E F67 q3 E W E V) ?_;refine X (Ad [(0,31)] E F69 q4 E W E V) ?_;refine X (Ad [(0,31),(1,9)] E F70 qp E W E V) ?_;cases hz:(eN != 0)
  ·have bu:eN=0:=by simpa using hz
   rw[zD (by rw[bu];simp)];exact gA
  ·have bu:eN≠0:=by simpa using hz
   rw[zG bu];refine T ?_;refine Ak 4 (Cf lineZ) E vL ?_;exact gA
def Awu(w:List ByteArray)(row:Int)(hw:w.length≤1000000)(hs:∀s∈w,s.size≤40):Sp 26 [.sl 1 Aw w,Aa row] (.tup [A3 (Ci w row).1,Aa (Ci w row).2]):=by
 by_cases ag:0<w.length
 ·cases bw:manyB (kindL (wdT w 0)) w with
  |true=>
   have hr:=Acj (wdT w 0);have h0:=(Jf bw).2.2.2.2;rcases (by omega:kindL (wdT w 0)=1∨kindL (wdT w 0)=2∨kindL (wdT w 0)=3∨kindL (wdT w 0)=4∨kindL (wdT w 0)=5∨kindL (wdT w 0)=6∨kindL (wdT w 0)=7∨kindL (wdT w 0)=8∨kindL (wdT w 0)=9) with h|h|h|h|h|h|h|h|h
   ·exact Arm w row hw hs ag h (by rw[h]at bw;exact bw)
   ·exact Arl w row hw hs ag h (by rw[h]at bw;exact bw)
   ·exact Ark w row hw hs ag h (by rw[h]at bw;exact bw)
   ·exact Arj w row hw hs ag h (by rw[h]at bw;exact bw)
   ·exact Ari w row hw hs ag h (by rw[h]at bw;exact bw)
   ·exact Arh w row hw hs ag h (by rw[h]at bw;exact bw)
   ·exact Arg w row hw hs ag h (by rw[h]at bw;exact bw)
   ·exact Arf w row hw hs ag h (by rw[h]at bw;exact bw)
   ·exact Are w row hw hs ag h (by rw[h]at bw;exact bw)
  |false=>
   have dq:Ci w row=(lineZ,22):=by rw[Ci,zG (.inr bw)]
   rw[dq];refine El Γ hm 100 F26 ntmps26 E λF hF=>by
    have dy:(0:Int).toNat<w.length:=ag;have f0:((w.length:Int)==0)=false:=by rw[zR];omega
    have iw:w[(0:Int).toNat]'dy=wdT w 0:=(D0 ag).symm;have qk:Sp 64 [Aw (w[(0:Int).toNat]'dy)] (Aa (kindL (wdT w 0))):=by
     rw[iw];exact H6 (wdT w 0)
    have qm:=H5 (kindL (wdT w 0)) (Acj _) w hw;rw[bw]at qm;refine gB qk F64 qm F63 ?_;refine Ak 4 (Cf lineZ) E vL ?_;exact gA
 ·have og:w=[]:=zZ q_;subst og;have dq:Ci [] row=(lineZ,22):=by rw[Ci,zG (.inl rfl)]
  rw[dq];refine El Γ hm 100 F26 ntmps26 E λF hF=>by
   refine T ?_;refine Ak 4 (Cf lineZ) E vL ?_;exact gA
end Go.Sy.YticmobkdaneelaaGreatDoor
