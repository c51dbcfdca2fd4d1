/-
  I28 Sy34 Sy35 Sy36 Sy37 Sy38 Sy39 Sy40 I29 I30: parts of a proof, joined by program.
-/
import Derived.Test.YtiijbikecbjdaaaGreatDoorXU8
import Derived.Test.YtiijbikecbjdaaaGreatDoorXU5
import Derived.Laws.LoneSync
import Derived.Test.YtiijbikecbjdaaaGreatDoorXU3
import Derived.Defers
import Derived.Tactics
import Derived.Tactics2
import Derived.Laws.Pointers
import Derived.RegionTactic
import Derived.RegionCalls
set_option linter.all false
set_option linter.unusedVariables false
set_option linter.unusedSimpArgs false
set_option linter.deprecated false
namespace Go.Sy.YtiijbikecbjdaaaGreatDoor
open Go.Proofs
attribute [local irreducible] Go.Sy.G Go.Sy.DR
set_option maxRecDepth 100000
set_option maxHeartbeats 4000000
theorem Aas (s:ByteArray):0≤kindL s∧kindL s≤9:=by
 rw[kindL]
 repeat' split
 all_goals decide
theorem If {k:Int} {w:List ByteArray} (h:manyB k w=true):(k=1∨k=6∨k=7→w.length=4)∧(k=3∨k=4∨k=8∨k=9→w.length=5)∧(k=5→w.length=3)∧(k=2→6≤w.length∧w.length≤7∧(wdT w 4=Es→w.length=7))∧k≠0:=by
 rw[manyB]at h
 by_cases h0:k=0
 ·rw[zE h0]at h;cases h
 rw[zD h0]at h
 by_cases h2:k=2
 ·rw[zE h2]at h
  by_cases h6:w.length<6
  ·rw[zE h6]at h;cases h
  rw[zD h6]at h
  refine⟨λ x=>by omega,λ x=>by omega,λ x=>by omega,λ _=>?_,h0⟩
  by_cases ca:wdT w 4=E6
  ·rw[zE ca]at h
   have:=zK h
   refine⟨by omega,by omega,λ x=>?_⟩
   rw[ca]at x
   exact yB x Ahz
  ·rw[zD ca]at h
   by_cases ctr:wdT w 4=Es
   ·rw[zE ctr]at h
    have:=zK h
    exact⟨by omega,by omega,λ _=>this⟩
   ·rw[zD ctr]at h
    have:=zK h
    exact⟨by omega,by omega,λ x=>yB x ctr⟩
 rw[zD h2]at h
 by_cases h3:k=3∨k=4∨k=8∨k=9
 ·rw[zE h3]at h
  have:=zK h
  exact⟨λ x=>by omega,λ _=>this,λ x=>by omega,λ x=>by omega,h0⟩
 rw[zD h3]at h
 by_cases h5:k=5
 ·rw[zE h5]at h
  have:=zK h
  exact⟨λ x=>by omega,λ x=>by omega,λ _=>this,λ x=>by omega,h0⟩
 rw[zD h5]at h
 have:=zK h
 exact⟨λ _=>this,λ x=>by omega,λ x=>by omega,λ x=>yB x h2,h0⟩
theorem Aoe (w:List ByteArray) (row:Int) (hw:w.length≤1000000) (hs:∀ s∈w,s.size≤40) (hne:0<w.length) (hk:kindL (wdT w 0)=1) (hmy:manyB 1 w=true) :
  Sp 41 [.sl 1 Ao w,Aa row] (.tup [A0 (Ce w row).1,Aa (Ce w row).2]):=cT F41 Tryz.ntmps41 λ F hF=>by
 have hn0:(0:Int).toNat<w.length:=hne
 have f0:((w.length:Int) == 0)=false:=by rw[zL];omega
 have hx0:w[(0:Int).toNat]'hn0=wdT w 0:=(C2 hne).symm
 have qk:Sp 92 [Ao (w[(0:Int).toNat]'hn0)] (Aa 1):=by
  have:=He (wdT w 0)
  rw[hk]at this
  rw[hx0];exact this
 have qm:=Hd 1 j_ w hw
 rw[hmy]at qm
 have hml:=If hmy
 have hsT:Ce w row=if Bm (Bz w row).2≠0 then (lineZ,Bm (Bz w row).2) else ((Bz w row).1,0):=by
  rw[Ce,zD]
  rintro (hh | hh)
  ·rw[hh]at hne;simp at hne
  ·rw[hk,hmy]at hh;cases hh
 have hfe:=Dd _ (Du w row)
 have hl:w.length=4:=hml.1 j_
 have q1:=Eo w 1 (0:Int) q_ hw hs
 obtain ⟨e1,he1⟩:∃ e,Ar (0:Int) (!(Ay (wdT w 1))) 20=e:=⟨_,rfl⟩
 rw[he1]at q1
 have q2:=T3 w 2 e1 0 65535 q_ hw
 obtain ⟨e2,he2⟩:∃ e,Ar e1 (!(numR (wdT w 2) 0 65535).2) 21=e:=⟨_,rfl⟩
 rw[he2]at q2
 have q3:=Aws w 3 e2 q_ hw hs
 obtain ⟨e3,he3⟩:∃ e,Ar e2 (macE (wdT w 3)) 21=e:=⟨_,rfl⟩
 rw[he3]at q3
 have hR:Bz w row=({ lineZ with row:=row,kind:=1,dev:=wdT w 1,num:=(numR (wdT w 2) 0 65535).1,mac:=(macR (wdT w 3)).1 },[((!(Ay (wdT w 1))),20),((!(numR (wdT w 2) 0 65535).2),21),((macE (wdT w 3)),21)]):=by
  unfold Bz
  simp only[hk]
  rfl
 rw[hR]at hsT hfe
 have hfe:Bm _=e3:=hfe.trans (by
  show Ar (Ar (Ar ((0:Int)) (!(Ay (wdT w 1))) 20) (!(numR (wdT w 2) 0 65535).2) 21) (macE (wdT w 3)) 21=_
  rw[he1,he2,he3])
 rw[hfe]at hsT
 rw[hsT]
 generalize e3=eN at *
 refine T ?_
 refine C qk F92 ?_
 refine C qm F91 ?_
 refine C qk F92 ?_
 refine Ai 9 (B8 { lineZ with row:=row,kind:=1 }) rfl vL ?_
 refine T ?_
 refine X (As [(0,31)] (At E E F93) q1 E W E V) ?_
 refine X (Ad [(0,31)] E F95 q2 E W E V) ?_
 refine X (Ad [(0,31)] E F96 q3 E W E V) ?_
 cases hz:(eN != 0)
 ·have hz0:eN=0:=by simpa using hz
  rw[zD (by rw[hz0];simp)]
  refine T ?_
  exact D
 ·have hz0:eN≠0:=by simpa using hz
  rw[zE hz0]
  refine T ?_
  refine Ai 4 (B8 lineZ) E vL ?_
  refine T ?_
  exact D
theorem Aoc (w:List ByteArray) (row:Int) (hw:w.length≤1000000) (hs:∀ s∈w,s.size≤40) (hne:0<w.length) (hk:kindL (wdT w 0)=3) (hmy:manyB 3 w=true) :
  Sp 41 [.sl 1 Ao w,Aa row] (.tup [A0 (Ce w row).1,Aa (Ce w row).2]):=cT F41 Tryz.ntmps41 λ F hF=>by
 have hn0:(0:Int).toNat<w.length:=hne
 have f0:((w.length:Int) == 0)=false:=by rw[zL];omega
 have hx0:w[(0:Int).toNat]'hn0=wdT w 0:=(C2 hne).symm
 have qk:Sp 92 [Ao (w[(0:Int).toNat]'hn0)] (Aa 3):=by
  have:=He (wdT w 0)
  rw[hk]at this
  rw[hx0];exact this
 have qm:=Hd 3 j_ w hw
 rw[hmy]at qm
 have hml:=If hmy
 have hsT:Ce w row=if Bm (Bz w row).2≠0 then (lineZ,Bm (Bz w row).2) else ((Bz w row).1,0):=by
  rw[Ce,zD]
  rintro (hh | hh)
  ·rw[hh]at hne;simp at hne
  ·rw[hk,hmy]at hh;cases hh
 have hfe:=Dd _ (Du w row)
 have hl:w.length=5:=hml.2.1 j_
 have q1:=Eo w 1 (0:Int) q_ hw hs
 obtain ⟨e1,he1⟩:∃ e,Ar (0:Int) (!(Ay (wdT w 1))) 20=e:=⟨_,rfl⟩
 rw[he1]at q1
 have q2:=Eo w 2 e1 q_ hw hs
 obtain ⟨e2,he2⟩:∃ e,Ar e1 (!(Ay (wdT w 2))) 20=e:=⟨_,rfl⟩
 rw[he2]at q2
 have q3:=Eo w 3 e2 q_ hw hs
 obtain ⟨e3,he3⟩:∃ e,Ar e2 (!(Ay (wdT w 3))) 20=e:=⟨_,rfl⟩
 rw[he3]at q3
 have q4:=Eo w 4 e3 q_ hw hs
 obtain ⟨e4,he4⟩:∃ e,Ar e3 (!(Ay (wdT w 4))) 20=e:=⟨_,rfl⟩
 rw[he4]at q4
 have hR:Bz w row=({ lineZ with row:=row,kind:=3,dev:=wdT w 1,port:=wdT w 2,peer:=wdT w 3,far:=wdT w 4 },[((!(Ay (wdT w 1))),20),((!(Ay (wdT w 2))),20),((!(Ay (wdT w 3))),20),((!(Ay (wdT w 4))),20)]):=by
  unfold Bz
  simp only[hk]
  rfl
 rw[hR]at hsT hfe
 have hfe:Bm _=e4:=hfe.trans (by
  show Ar (Ar (Ar (Ar ((0:Int)) (!(Ay (wdT w 1))) 20) (!(Ay (wdT w 2))) 20) (!(Ay (wdT w 3))) 20) (!(Ay (wdT w 4))) 20=_
  rw[he1,he2,he3,he4])
 rw[hfe]at hsT
 rw[hsT]
 generalize e4=eN at *
 refine T ?_
 refine C qk F92 ?_
 refine C qm F91 ?_
 refine C qk F92 ?_
 refine Ai 9 (B8 { lineZ with row:=row,kind:=3 }) rfl vL ?_
 refine T ?_
 refine X (As [(0,31)] (At E E F93) q1 E W E V) ?_
 refine X (As [(0,31)] (At E E F93) q2 E W E V) ?_
 refine X (As [(0,31)] (At E E F93) q3 E W E V) ?_
 refine X (As [(0,31)] (At E E F93) q4 E W E V) ?_
 cases hz:(eN != 0)
 ·have hz0:eN=0:=by simpa using hz
  rw[zD (by rw[hz0];simp)]
  refine T ?_
  exact D
 ·have hz0:eN≠0:=by simpa using hz
  rw[zE hz0]
  refine T ?_
  refine Ai 4 (B8 lineZ) E vL ?_
  refine T ?_
  exact D
theorem Aob (w:List ByteArray) (row:Int) (hw:w.length≤1000000) (hs:∀ s∈w,s.size≤40) (hne:0<w.length) (hk:kindL (wdT w 0)=4) (hmy:manyB 4 w=true) :
  Sp 41 [.sl 1 Ao w,Aa row] (.tup [A0 (Ce w row).1,Aa (Ce w row).2]):=cT F41 Tryz.ntmps41 λ F hF=>by
 have hn0:(0:Int).toNat<w.length:=hne
 have f0:((w.length:Int) == 0)=false:=by rw[zL];omega
 have hx0:w[(0:Int).toNat]'hn0=wdT w 0:=(C2 hne).symm
 have qk:Sp 92 [Ao (w[(0:Int).toNat]'hn0)] (Aa 4):=by
  have:=He (wdT w 0)
  rw[hk]at this
  rw[hx0];exact this
 have qm:=Hd 4 j_ w hw
 rw[hmy]at qm
 have hml:=If hmy
 have hsT:Ce w row=if Bm (Bz w row).2≠0 then (lineZ,Bm (Bz w row).2) else ((Bz w row).1,0):=by
  rw[Ce,zD]
  rintro (hh | hh)
  ·rw[hh]at hne;simp at hne
  ·rw[hk,hmy]at hh;cases hh
 have hfe:=Dd _ (Du w row)
 have hl:w.length=5:=hml.2.1 j_
 have q1:=Eo w 1 (0:Int) q_ hw hs
 obtain ⟨e1,he1⟩:∃ e,Ar (0:Int) (!(Ay (wdT w 1))) 20=e:=⟨_,rfl⟩
 rw[he1]at q1
 have q2:=W8 w 2 e1 q_ hw
 obtain ⟨e2,he2⟩:∃ e,Ar e1 (!(Cq (wdT w 2)).2) 21=e:=⟨_,rfl⟩
 rw[he2]at q2
 have q3:=Aws w 3 e2 q_ hw hs
 obtain ⟨e3,he3⟩:∃ e,Ar e2 (macE (wdT w 3)) 21=e:=⟨_,rfl⟩
 rw[he3]at q3
 have q4:=Eo w 4 e3 q_ hw hs
 obtain ⟨e4,he4⟩:∃ e,Ar e3 (!(Ay (wdT w 4))) 20=e:=⟨_,rfl⟩
 rw[he4]at q4
 have hR:Bz w row=({ lineZ with row:=row,kind:=4,dev:=wdT w 1,vlan:=(Cq (wdT w 2)).1,mac:=(macR (wdT w 3)).1,port:=wdT w 4 },[((!(Ay (wdT w 1))),20),((!(Cq (wdT w 2)).2),21),((macE (wdT w 3)),21),((!(Ay (wdT w 4))),20)]):=by
  unfold Bz
  simp only[hk]
  rfl
 rw[hR]at hsT hfe
 have hfe:Bm _=e4:=hfe.trans (by
  show Ar (Ar (Ar (Ar ((0:Int)) (!(Ay (wdT w 1))) 20) (!(Cq (wdT w 2)).2) 21) (macE (wdT w 3)) 21) (!(Ay (wdT w 4))) 20=_
  rw[he1,he2,he3,he4])
 rw[hfe]at hsT
 rw[hsT]
 generalize e4=eN at *
 refine T ?_
 refine C qk F92 ?_
 refine C qm F91 ?_
 refine C qk F92 ?_
 refine Ai 9 (B8 { lineZ with row:=row,kind:=4 }) rfl vL ?_
 refine T ?_
 refine X (As [(0,31)] (At E E F93) q1 E W E V) ?_
 refine X (As [(0,31)] (At E E F94) q2 E W E V) ?_
 refine X (Ad [(0,31)] E F96 q3 E W E V) ?_
 refine X (As [(0,31)] (At E E F93) q4 E W E V) ?_
 cases hz:(eN != 0)
 ·have hz0:eN=0:=by simpa using hz
  rw[zD (by rw[hz0];simp)]
  refine T ?_
  exact D
 ·have hz0:eN≠0:=by simpa using hz
  rw[zE hz0]
  refine T ?_
  refine Ai 4 (B8 lineZ) E vL ?_
  refine T ?_
  exact D
theorem An9 (w:List ByteArray) (row:Int) (hw:w.length≤1000000) (hs:∀ s∈w,s.size≤40) (hne:0<w.length) (hk:kindL (wdT w 0)=6) (hmy:manyB 6 w=true) :
  Sp 41 [.sl 1 Ao w,Aa row] (.tup [A0 (Ce w row).1,Aa (Ce w row).2]):=cT F41 Tryz.ntmps41 λ F hF=>by
 have hn0:(0:Int).toNat<w.length:=hne
 have f0:((w.length:Int) == 0)=false:=by rw[zL];omega
 have hx0:w[(0:Int).toNat]'hn0=wdT w 0:=(C2 hne).symm
 have qk:Sp 92 [Ao (w[(0:Int).toNat]'hn0)] (Aa 6):=by
  have:=He (wdT w 0)
  rw[hk]at this
  rw[hx0];exact this
 have qm:=Hd 6 j_ w hw
 rw[hmy]at qm
 have hml:=If hmy
 have hsT:Ce w row=if Bm (Bz w row).2≠0 then (lineZ,Bm (Bz w row).2) else ((Bz w row).1,0):=by
  rw[Ce,zD]
  rintro (hh | hh)
  ·rw[hh]at hne;simp at hne
  ·rw[hk,hmy]at hh;cases hh
 have hfe:=Dd _ (Du w row)
 have hl:w.length=4:=hml.1 j_
 have q1:=Eo w 1 (0:Int) q_ hw hs
 obtain ⟨e1,he1⟩:∃ e,Ar (0:Int) (!(Ay (wdT w 1))) 20=e:=⟨_,rfl⟩
 rw[he1]at q1
 have q2:=W8 w 2 e1 q_ hw
 obtain ⟨e2,he2⟩:∃ e,Ar e1 (!(Cq (wdT w 2)).2) 21=e:=⟨_,rfl⟩
 rw[he2]at q2
 have q3:=Awr w 3 e2 q_ hw
 obtain ⟨e3,he3⟩:∃ e,Ar e2 (!(Ot (wdT w 3)).2) 21=e:=⟨_,rfl⟩
 rw[he3]at q3
 have hR:Bz w row=({ lineZ with row:=row,kind:=6,dev:=wdT w 1,vlan:=(Cq (wdT w 2)).1,num:=(Ot (wdT w 3)).1 },[((!(Ay (wdT w 1))),20),((!(Cq (wdT w 2)).2),21),((!(Ot (wdT w 3)).2),21)]):=by
  unfold Bz
  simp only[hk]
  rfl
 rw[hR]at hsT hfe
 have hfe:Bm _=e3:=hfe.trans (by
  show Ar (Ar (Ar ((0:Int)) (!(Ay (wdT w 1))) 20) (!(Cq (wdT w 2)).2) 21) (!(Ot (wdT w 3)).2) 21=_
  rw[he1,he2,he3])
 rw[hfe]at hsT
 rw[hsT]
 generalize e3=eN at *
 refine T ?_
 refine C qk F92 ?_
 refine C qm F91 ?_
 refine C qk F92 ?_
 refine Ai 9 (B8 { lineZ with row:=row,kind:=6 }) rfl vL ?_
 refine T ?_
 refine X (As [(0,31)] (At E E F93) q1 E W E V) ?_
 refine X (As [(0,31)] (At E E F94) q2 E W E V) ?_
 refine X (Ad [(0,31)] E F101 q3 E W E V) ?_
 cases hz:(eN != 0)
 ·have hz0:eN=0:=by simpa using hz
  rw[zD (by rw[hz0];simp)]
  refine T ?_
  exact D
 ·have hz0:eN≠0:=by simpa using hz
  rw[zE hz0]
  refine T ?_
  refine Ai 4 (B8 lineZ) E vL ?_
  refine T ?_
  exact D
theorem An7 (w:List ByteArray) (row:Int) (hw:w.length≤1000000) (hs:∀ s∈w,s.size≤40) (hne:0<w.length) (hk:kindL (wdT w 0)=8) (hmy:manyB 8 w=true) :
  Sp 41 [.sl 1 Ao w,Aa row] (.tup [A0 (Ce w row).1,Aa (Ce w row).2]):=cT F41 Tryz.ntmps41 λ F hF=>by
 have hn0:(0:Int).toNat<w.length:=hne
 have f0:((w.length:Int) == 0)=false:=by rw[zL];omega
 have hx0:w[(0:Int).toNat]'hn0=wdT w 0:=(C2 hne).symm
 have qk:Sp 92 [Ao (w[(0:Int).toNat]'hn0)] (Aa 8):=by
  have:=He (wdT w 0)
  rw[hk]at this
  rw[hx0];exact this
 have qm:=Hd 8 j_ w hw
 rw[hmy]at qm
 have hml:=If hmy
 have hsT:Ce w row=if Bm (Bz w row).2≠0 then (lineZ,Bm (Bz w row).2) else ((Bz w row).1,0):=by
  rw[Ce,zD]
  rintro (hh | hh)
  ·rw[hh]at hne;simp at hne
  ·rw[hk,hmy]at hh;cases hh
 have hfe:=Dd _ (Du w row)
 have hl:w.length=5:=hml.2.1 j_
 have q1:=Eo w 1 (0:Int) q_ hw hs
 obtain ⟨e1,he1⟩:∃ e,Ar (0:Int) (!(Ay (wdT w 1))) 20=e:=⟨_,rfl⟩
 rw[he1]at q1
 have q2:=Eo w 2 e1 q_ hw hs
 obtain ⟨e2,he2⟩:∃ e,Ar e1 (!(Ay (wdT w 2))) 20=e:=⟨_,rfl⟩
 rw[he2]at q2
 have q3:=Ab1 w 3 e2 65535 q_ hw hs
 obtain ⟨e3,he3⟩:∃ e,Ar e2 (!(listR 65535 (wdT w 3)).2) 21=e:=⟨_,rfl⟩
 rw[he3]at q3
 have q4:=Ab1 w 4 e3 65535 q_ hw hs
 obtain ⟨e4,he4⟩:∃ e,Ar e3 (!(listR 65535 (wdT w 4)).2) 21=e:=⟨_,rfl⟩
 rw[he4]at q4
 have hR:Bz w row=({ lineZ with row:=row,kind:=8,dev:=wdT w 1,name:=wdT w 2,imports:=(listR 65535 (wdT w 3)).1,exports:=(listR 65535 (wdT w 4)).1 },[((!(Ay (wdT w 1))),20),((!(Ay (wdT w 2))),20),((!(listR 65535 (wdT w 3)).2),21),((!(listR 65535 (wdT w 4)).2),21)]):=by
  unfold Bz
  simp only[hk]
  rfl
 rw[hR]at hsT hfe
 have hfe:Bm _=e4:=hfe.trans (by
  show Ar (Ar (Ar (Ar ((0:Int)) (!(Ay (wdT w 1))) 20) (!(Ay (wdT w 2))) 20) (!(listR 65535 (wdT w 3)).2) 21) (!(listR 65535 (wdT w 4)).2) 21=_
  rw[he1,he2,he3,he4])
 rw[hfe]at hsT
 rw[hsT]
 generalize e4=eN at *
 refine T ?_
 refine C qk F92 ?_
 refine C qm F91 ?_
 refine C qk F92 ?_
 refine Ai 9 (B8 { lineZ with row:=row,kind:=8 }) rfl vL ?_
 refine T ?_
 refine X (As [(0,31)] (At E E F93) q1 E W E V) ?_
 refine X (As [(0,31)] (At E E F93) q2 E W E V) ?_
 refine X (Ad [(0,31)] E F103 q3 E W E V) ?_
 refine X (Ad [(0,31)] E F103 q4 E W E V) ?_
 cases hz:(eN != 0)
 ·have hz0:eN=0:=by simpa using hz
  rw[zD (by rw[hz0];simp)]
  refine T ?_
  exact D
 ·have hz0:eN≠0:=by simpa using hz
  rw[zE hz0]
  refine T ?_
  refine Ai 4 (B8 lineZ) E vL ?_
  refine T ?_
  exact D
theorem Aoa (w:List ByteArray) (row:Int) (hw:w.length≤1000000) (hs:∀ s∈w,s.size≤40) (hne:0<w.length) (hk:kindL (wdT w 0)=5) (hmy:manyB 5 w=true) :
  Sp 41 [.sl 1 Ao w,Aa row] (.tup [A0 (Ce w row).1,Aa (Ce w row).2]):=cT F41 Tryz.ntmps41 λ F hF=>by
 have hn0:(0:Int).toNat<w.length:=hne
 have f0:((w.length:Int) == 0)=false:=by rw[zL];omega
 have hx0:w[(0:Int).toNat]'hn0=wdT w 0:=(C2 hne).symm
 have qk:Sp 92 [Ao (w[(0:Int).toNat]'hn0)] (Aa 5):=by
  have:=He (wdT w 0)
  rw[hk]at this
  rw[hx0];exact this
 have qm:=Hd 5 j_ w hw
 rw[hmy]at qm
 have hml:=If hmy
 have hsT:Ce w row=if Bm (Bz w row).2≠0 then (lineZ,Bm (Bz w row).2) else ((Bz w row).1,0):=by
  rw[Ce,zD]
  rintro (hh | hh)
  ·rw[hh]at hne;simp at hne
  ·rw[hk,hmy]at hh;cases hh
 have hfe:=Dd _ (Du w row)
 have hl:w.length=3:=hml.2.2.1 rfl
 have q1:=Eo w 1 (0:Int) q_ hw hs
 obtain ⟨e1,he1⟩:∃ e,Ar (0:Int) (!(Ay (wdT w 1))) 20=e:=⟨_,rfl⟩
 rw[he1]at q1
 have qn:=Ma w 2 e1 q_ hw
 have hsz:(wdT w 2).size≤40:=by rw[C2 (by omega:2<w.length)];exact hs _ (zJ _)
 have qa:=Zz (wdT w 2) q_
 have q2:=Ip w 3 e1 (!((Dh (wdT w 2)).2 && decide ((Dh (wdT w 2)).1≠0))) 21
 obtain ⟨e2,he2⟩:∃ e,Ar e1 (!((Dh (wdT w 2)).2 && decide ((Dh (wdT w 2)).1≠0))) 21=e:=⟨_,rfl⟩
 rw[he2]at q2
 have hR:Bz w row=({ lineZ with row:=row,kind:=5,dev:=wdT w 1,addr:=(Dh (wdT w 2)).1 },[((!(Ay (wdT w 1))),20),((!((Dh (wdT w 2)).2 && decide ((Dh (wdT w 2)).1≠0))),21)]):=by
  unfold Bz
  simp only[hk]
  rfl
 rw[hR]at hsT hfe
 have hfe:Bm _=e2:=hfe.trans (by
  show Ar (Ar ((0:Int)) (!(Ay (wdT w 1))) 20) (!((Dh (wdT w 2)).2 && decide ((Dh (wdT w 2)).1≠0))) 21=_
  rw[he1,he2])
 rw[hfe]at hsT
 rw[hsT]
 generalize e2=eN at *
 clear hR hsT hfe he2
 generalize Dh (wdT w 2)=rt at *
 obtain ⟨av,ok⟩:=rt
 dsimp only at qa q2 ⊢
 cases ok
 ·have q2:Sq 97 [.ptr 0 0,Ab true,Aa 21] (rdO w 3 e1) (.tup []) (rdO w 3 eN):=q2
  refine T ?_
  refine C qk F92 ?_
  refine C qm F91 ?_
  refine C qk F92 ?_
  refine Ai 9 (B8 { lineZ with row:=row,kind:=5 }) rfl vL ?_
  refine T ?_
  refine X (As [(0,31)] (At E E F93) q1 E W E V) ?_
  refine X (Ad [(0,31)] E F100 qn E W E V) ?_
  refine C qa F99 ?_
  refine X (Ad [(0,31)] E F97 q2 E W E V) ?_
  cases hz:(eN != 0)
  ·have hz0:eN=0:=by simpa using hz
   rw[zD (by rw[hz0];simp)]
   refine T ?_
   exact D
  ·have hz0:eN≠0:=by simpa using hz
   rw[zE hz0]
   refine T ?_
   refine Ai 4 (B8 lineZ) E vL ?_
   refine T ?_
   exact D
 ·have hb:(!(true && decide (av≠0)))=(av == 0):=by
   by_cases h:av=0
   ·rw[h];rfl
   ·rw[zR h,zL.2 h];rfl
  rw[hb]at q2
  refine T ?_
  refine C qk F92 ?_
  refine C qm F91 ?_
  refine C qk F92 ?_
  refine Ai 9 (B8 { lineZ with row:=row,kind:=5 }) rfl vL ?_
  refine T ?_
  refine X (As [(0,31)] (At E E F93) q1 E W E V) ?_
  refine X (Ad [(0,31)] E F100 qn E W E V) ?_
  refine C qa F99 ?_
  refine X (Ad [(0,31)] E F97 q2 E W E V) ?_
  cases hz:(eN != 0)
  ·have hz0:eN=0:=by simpa using hz
   rw[zD (by rw[hz0];simp)]
   refine T ?_
   exact D
  ·have hz0:eN≠0:=by simpa using hz
   rw[zE hz0]
   refine T ?_
   refine Ai 4 (B8 lineZ) E vL ?_
   refine T ?_
   exact D
theorem An8 (w:List ByteArray) (row:Int) (hw:w.length≤1000000) (hs:∀ s∈w,s.size≤40) (hne:0<w.length) (hk:kindL (wdT w 0)=7) (hmy:manyB 7 w=true) :
  Sp 41 [.sl 1 Ao w,Aa row] (.tup [A0 (Ce w row).1,Aa (Ce w row).2]):=cT F41 Tryz.ntmps41 λ F hF=>by
 have hn0:(0:Int).toNat<w.length:=hne
 have f0:((w.length:Int) == 0)=false:=by rw[zL];omega
 have hx0:w[(0:Int).toNat]'hn0=wdT w 0:=(C2 hne).symm
 have qk:Sp 92 [Ao (w[(0:Int).toNat]'hn0)] (Aa 7):=by
  have:=He (wdT w 0)
  rw[hk]at this
  rw[hx0];exact this
 have qm:=Hd 7 j_ w hw
 rw[hmy]at qm
 have hml:=If hmy
 have hsT:Ce w row=if Bm (Bz w row).2≠0 then (lineZ,Bm (Bz w row).2) else ((Bz w row).1,0):=by
  rw[Ce,zD]
  rintro (hh | hh)
  ·rw[hh]at hne;simp at hne
  ·rw[hk,hmy]at hh;cases hh
 have hfe:=Dd _ (Du w row)
 have hl:w.length=4:=hml.1 j_
 have q1:=Eo w 1 (0:Int) q_ hw hs
 obtain ⟨e1,he1⟩:∃ e,Ar (0:Int) (!(Ay (wdT w 1))) 20=e:=⟨_,rfl⟩
 rw[he1]at q1
 have q2:=Awr w 2 e1 q_ hw
 obtain ⟨e2,he2⟩:∃ e,Ar e1 (!(Ot (wdT w 2)).2) 21=e:=⟨_,rfl⟩
 rw[he2]at q2
 have qn:=Ma w 3 e2 q_ hw
 have hsz:(wdT w 3).size≤40:=by rw[C2 (by omega:3<w.length)];exact hs _ (zJ _)
 have qa:=Afu (wdT w 3) q_
 have hpos:(Dr (wdT w 3)).2=true→0<(Dr (wdT w 3)).1.length:=λ h=>by
  have hp:=Ab2 h
  rw[Dr,Hh]at hp ⊢
  have:=(Oc _ _ _ _ hp List.Pairwise.nil j_).2.2.1
  rw[this,J0];simp
 have q3:=Ip w 4 e2 (!((Dr (wdT w 3)).2 && decide ((Dr (wdT w 3)).1.head? ≠ some 0))) 21
 obtain ⟨e3,he3⟩:∃ e,Ar e2 (!((Dr (wdT w 3)).2 && decide ((Dr (wdT w 3)).1.head? ≠ some 0))) 21=e:=⟨_,rfl⟩
 rw[he3]at q3
 have hR:Bz w row=({ lineZ with row:=row,kind:=7,dev:=wdT w 1,num:=(Ot (wdT w 2)).1,addrs:=(Dr (wdT w 3)).1 },[((!(Ay (wdT w 1))),20),((!(Ot (wdT w 2)).2),21),((!((Dr (wdT w 3)).2 && decide ((Dr (wdT w 3)).1.head? ≠ some 0))),21)]):=by
  unfold Bz
  simp only[hk]
  rfl
 rw[hR]at hsT hfe
 have hfe:Bm _=e3:=hfe.trans (by
  show Ar (Ar (Ar ((0:Int)) (!(Ay (wdT w 1))) 20) (!(Ot (wdT w 2)).2) 21) (!((Dr (wdT w 3)).2 && decide ((Dr (wdT w 3)).1.head? ≠ some 0))) 21=_
  rw[he1,he2,he3])
 rw[hfe]at hsT
 rw[hsT]
 generalize e3=eN at *
 clear hR hsT hfe he3
 generalize Dr (wdT w 3)=rt at *
 obtain ⟨av,ok⟩:=rt
 dsimp only at qa q3 hpos ⊢
 cases ok
 ·have q3:Sq 97 [.ptr 0 0,Ab true,Aa 21] (rdO w 4 e2) (.tup []) (rdO w 4 eN):=q3
  refine T ?_
  refine C qk F92 ?_
  refine C qm F91 ?_
  refine C qk F92 ?_
  refine Ai 9 (B8 { lineZ with row:=row,kind:=7 }) rfl vL ?_
  refine T ?_
  refine X (As [(0,31)] (At E E F93) q1 E W E V) ?_
  refine X (Ad [(0,31)] E F101 q2 E W E V) ?_
  refine X (Ad [(0,31)] E F100 qn E W E V) ?_
  refine C qa F102 ?_
  refine X (Ad [(0,31)] E F97 q3 E W E V) ?_
  cases hz:(eN != 0)
  ·have hz0:eN=0:=by simpa using hz
   rw[zD (by rw[hz0];simp)]
   refine T ?_
   exact D
  ·have hz0:eN≠0:=by simpa using hz
   rw[zE hz0]
   refine T ?_
   refine Ai 4 (B8 lineZ) E vL ?_
   refine T ?_
   exact D
 ·have h0:(0:Int).toNat<av.length:=hpos rfl
  have hb:(!(true && decide (av.head? ≠ some 0)))=(av[(0:Int).toNat]'h0 == 0):=by
   cases av with
   | nil=>exact yB h0 y_
   | cons a r =>
    show (!(true && decide (some a≠some 0)))=(a == 0)
    by_cases h:a=0
    ·rw[h];rfl
    ·rw[zL.2 h,zR (by simpa using h)];rfl
  rw[hb]at q3
  refine T ?_
  refine C qk F92 ?_
  refine C qm F91 ?_
  refine C qk F92 ?_
  refine Ai 9 (B8 { lineZ with row:=row,kind:=7 }) rfl vL ?_
  refine T ?_
  refine X (As [(0,31)] (At E E F93) q1 E W E V) ?_
  refine X (Ad [(0,31)] E F101 q2 E W E V) ?_
  refine X (Ad [(0,31)] E F100 qn E W E V) ?_
  refine C qa F102 ?_
  refine X (Ad [(0,31)] E F97 q3 E W E V) ?_
  cases hz:(eN != 0)
  ·have hz0:eN=0:=by simpa using hz
   rw[zD (by rw[hz0];simp)]
   refine T ?_
   exact D
  ·have hz0:eN≠0:=by simpa using hz
   rw[zE hz0]
   refine T ?_
   refine Ai 4 (B8 lineZ) E vL ?_
   refine T ?_
   exact D
theorem Ain (s:ByteArray):∃ m:Nat,(prefixR s).1.1=m∧m<4294967296:=by
 rw[prefixR]
 split
 ·exact⟨0,E,by decide⟩
 ·have h1:=Ko (cutT 47 s).1
  have h2:=Qs (cutT 47 s).1
  exact⟨(Dh (cutT 47 s).1).1.toNat,(xN h1).symm,by omega⟩
theorem An6 (w:List ByteArray) (row:Int) (hw:w.length≤1000000) (hs:∀ s∈w,s.size≤40) (hne:0<w.length) (hk:kindL (wdT w 0)=9) (hmy:manyB 9 w=true) :
  Sp 41 [.sl 1 Ao w,Aa row] (.tup [A0 (Ce w row).1,Aa (Ce w row).2]):=cT F41 Tryz.ntmps41 λ F hF=>by
 have hn0:(0:Int).toNat<w.length:=hne
 have f0:((w.length:Int) == 0)=false:=by rw[zL];omega
 have hx0:w[(0:Int).toNat]'hn0=wdT w 0:=(C2 hne).symm
 have qk:Sp 92 [Ao (w[(0:Int).toNat]'hn0)] (Aa 9):=by
  have:=He (wdT w 0)
  rw[hk]at this
  rw[hx0];exact this
 have qm:=Hd 9 j_ w hw
 rw[hmy]at qm
 have hml:=If hmy
 have hsT:Ce w row=if Bm (Bz w row).2≠0 then (lineZ,Bm (Bz w row).2) else ((Bz w row).1,0):=by
  rw[Ce,zD]
  rintro (hh | hh)
  ·rw[hh]at hne;simp at hne
  ·rw[hk,hmy]at hh;cases hh
 have hfe:=Dd _ (Du w row)
 have hl:w.length=5:=hml.2.1 j_
 have q1:=Eo w 1 (0:Int) q_ hw hs
 obtain ⟨e1,he1⟩:∃ e,Ar (0:Int) (!(Ay (wdT w 1))) 20=e:=⟨_,rfl⟩
 rw[he1]at q1
 have q2:=W8 w 2 e1 q_ hw
 obtain ⟨e2,he2⟩:∃ e,Ar e1 (!(Cq (wdT w 2)).2) 21=e:=⟨_,rfl⟩
 rw[he2]at q2
 have q3:=Eo w 3 e2 q_ hw hs
 obtain ⟨e3,he3⟩:∃ e,Ar e2 (!(Ay (wdT w 3))) 20=e:=⟨_,rfl⟩
 rw[he3]at q3
 have qn:=Ma w 4 e3 q_ hw
 have hsz:(wdT w 4).size≤40:=by rw[C2 (by omega:4<w.length)];exact hs _ (zJ _)
 have qa:=Anh (wdT w 4) q_
 have hrg:=Ain (wdT w 4)
 have q4:=Ip w 5 e3 (!((prefixR (wdT w 4)).2 && subnetB (prefixR (wdT w 4)).1.1 (prefixR (wdT w 4)).1.2)) 21
 obtain ⟨e4,he4⟩:∃ e,Ar e3 (!((prefixR (wdT w 4)).2 && subnetB (prefixR (wdT w 4)).1.1 (prefixR (wdT w 4)).1.2)) 21=e:=⟨_,rfl⟩
 rw[he4]at q4
 have hR:Bz w row=({ lineZ with row:=row,kind:=9,dev:=wdT w 1,vlan:=(Cq (wdT w 2)).1,name:=wdT w 3,addr:=(prefixR (wdT w 4)).1.1,bits:=(prefixR (wdT w 4)).1.2 },[((!(Ay (wdT w 1))),20),((!(Cq (wdT w 2)).2),21),((!(Ay (wdT w 3))),20),((!((prefixR (wdT w 4)).2 && subnetB (prefixR (wdT w 4)).1.1 (prefixR (wdT w 4)).1.2)),21)]):=by
  unfold Bz
  simp only[hk]
  rfl
 rw[hR]at hsT hfe
 have hfe:Bm _=e4:=hfe.trans (by
  show Ar (Ar (Ar (Ar ((0:Int)) (!(Ay (wdT w 1))) 20) (!(Cq (wdT w 2)).2) 21) (!(Ay (wdT w 3))) 20) (!((prefixR (wdT w 4)).2 && subnetB (prefixR (wdT w 4)).1.1 (prefixR (wdT w 4)).1.2)) 21=_
  rw[he1,he2,he3,he4])
 rw[hfe]at hsT
 rw[hsT]
 generalize e4=eN at *
 clear hR hsT hfe he4
 obtain ⟨m,hm1,hm2⟩:=hrg
 generalize prefixR (wdT w 4)=rt at *
 obtain ⟨⟨av,bv⟩,ok⟩:=rt
 dsimp only at qa q4 hm1 ⊢
 subst hm1
 have qs:=Z6 m bv hm2
 generalize subnetB (m:Int) bv=sb at *
 cases ok
 ·have q4:Sq 97 [.ptr 0 0,Ab true,Aa 21] (rdO w 5 e3) (.tup []) (rdO w 5 eN):=q4
  refine T ?_
  refine C qk F92 ?_
  refine C qm F91 ?_
  refine C qk F92 ?_
  refine Ai 9 (B8 { lineZ with row:=row,kind:=9 }) rfl vL ?_
  refine T ?_
  refine X (As [(0,31)] (At E E F93) q1 E W E V) ?_
  refine X (As [(0,31)] (At E E F94) q2 E W E V) ?_
  refine X (As [(0,31)] (At E E F93) q3 E W E V) ?_
  refine X (Ad [(0,31)] E F100 qn E W E V) ?_
  refine C qa F104 ?_
  refine X (Ad [(0,31)] E F97 q4 E W E V) ?_
  cases hz:(eN != 0)
  ·have hz0:eN=0:=by simpa using hz
   rw[zD (by rw[hz0];simp)]
   refine T ?_
   exact D
  ·have hz0:eN≠0:=by simpa using hz
   rw[zE hz0]
   refine T ?_
   refine Ai 4 (B8 lineZ) E vL ?_
   refine T ?_
   exact D
 ·have hb:(!(true && sb))=!sb:=rfl
  rw[hb]at q4
  refine T ?_
  refine C qk F92 ?_
  refine C qm F91 ?_
  refine C qk F92 ?_
  refine Ai 9 (B8 { lineZ with row:=row,kind:=9 }) rfl vL ?_
  refine T ?_
  refine X (As [(0,31)] (At E E F93) q1 E W E V) ?_
  refine X (As [(0,31)] (At E E F94) q2 E W E V) ?_
  refine X (As [(0,31)] (At E E F93) q3 E W E V) ?_
  refine X (Ad [(0,31)] E F100 qn E W E V) ?_
  refine C qa F104 ?_
  refine C qs F105 ?_
  refine X (Ad [(0,31)] E F97 q4 E W E V) ?_
  cases hz:(eN != 0)
  ·have hz0:eN=0:=by simpa using hz
   rw[zD (by rw[hz0];simp)]
   refine T ?_
   exact D
  ·have hz0:eN≠0:=by simpa using hz
   rw[zE hz0]
   refine T ?_
   refine Ai 4 (B8 lineZ) E vL ?_
   refine T ?_
   exact D
theorem Aod (w:List ByteArray) (row:Int) (hw:w.length≤1000000) (hs:∀ s∈w,s.size≤40) (hne:0<w.length) (hk:kindL (wdT w 0)=2) (hmy:manyB 2 w=true) :
  Sp 41 [.sl 1 Ao w,Aa row] (.tup [A0 (Ce w row).1,Aa (Ce w row).2]):=cT F41 Tryz.ntmps41 λ F hF=>by
 have hn0:(0:Int).toNat<w.length:=hne
 have f0:((w.length:Int) == 0)=false:=by rw[zL];omega
 have hx0:w[(0:Int).toNat]'hn0=wdT w 0:=(C2 hne).symm
 have qk:Sp 92 [Ao (w[(0:Int).toNat]'hn0)] (Aa 2):=by
  have:=He (wdT w 0)
  rw[hk]at this
  rw[hx0];exact this
 have qm:=Hd 2 j_ w hw
 rw[hmy]at qm
 have hml:=If hmy
 have hsT:Ce w row=if Bm (Bz w row).2≠0 then (lineZ,Bm (Bz w row).2) else ((Bz w row).1,0):=by
  rw[Ce,zD]
  rintro (hh | hh)
  ·rw[hh]at hne;simp at hne
  ·rw[hk,hmy]at hh;cases hh
 have hfe:=Dd _ (Du w row)
 have hl:6≤w.length∧w.length≤7∧(wdT w 4=Es→w.length=7):=hml.2.2.2.1 rfl
 have q1:=Eo w 1 (0:Int) q_ hw hs
 obtain ⟨e1,he1⟩:∃ e,Ar (0:Int) (!(Ay (wdT w 1))) 20=e:=⟨_,rfl⟩
 rw[he1]at q1
 have q2:=Eo w 2 e1 q_ hw hs
 obtain ⟨e2,he2⟩:∃ e,Ar e1 (!(Ay (wdT w 2))) 20=e:=⟨_,rfl⟩
 rw[he2]at q2
 have q3:=T3 w 3 e2 1 65535 q_ hw
 obtain ⟨e3,he3⟩:∃ e,Ar e2 (!(numR (wdT w 3) 1 65535).2) 21=e:=⟨_,rfl⟩
 rw[he3]at q3
 have q4:=Ip w 4 e3 (decide (wdT w 4≠E6) && decide (wdT w 4≠Es)) 20
 obtain ⟨e4,he4⟩:∃ e,Ar e3 (decide (wdT w 4≠E6) && decide (wdT w 4≠Es)) 20=e:=⟨_,rfl⟩
 rw[he4]at q4
 have qp:=Az5 w e4 { lineZ with row:=row,kind:=2,dev:=wdT w 1,port:=wdT w 2,cost:=(numR (wdT w 3) 1 65535).1 } hw hs q_ (λ x=>by
  have h6:w.length=6:=by
   have hm3:=hmy
   rw[manyB,zD j_,zE rfl,zD q_,zE x]at hm3
   exact zK hm3
  omega) (λ x=>by have:=hl.2.2 x;omega) ⟨rfl,rfl⟩
 have hR:Bz w row=({ lineZ with row:=row,kind:=2,dev:=wdT w 1,port:=wdT w 2,cost:=(numR (wdT w 3) 1 65535).1,vlan:=(Dv w).1,tagged:=(Dv w).2.1 },
   [((!(Ay (wdT w 1))),20),((!(Ay (wdT w 2))),20),((!(numR (wdT w 3) 1 65535).2),21),((decide (wdT w 4≠E6) && decide (wdT w 4≠Es)),20)]++(Dv w).2.2++[(!(membersB (Dv w).1 (Dv w).2.1),21)]):=by
  unfold Bz
  simp only[hk]
  rfl
 rw[hR]at hsT hfe
 have hfe:Bm _=Kk e4 ((Dv w).2.2++[(!(membersB (Dv w).1 (Dv w).2.1),21)]):=hfe.trans (by
  rw[Ue,Ue,Ue]
  congr 2
  show Ar (Ar (Ar (Ar ((0:Int)) (!(Ay (wdT w 1))) 20) (!(Ay (wdT w 2))) 20) (!(numR (wdT w 3) 1 65535).2) 21) (decide (wdT w 4≠E6) && decide (wdT w 4≠Es)) 20=_
  rw[he1,he2,he3,he4])
 rw[hfe]at hsT
 rw[hsT]
 clear hR hsT hfe he4
 dsimp only at qp ⊢
 generalize Kk e4 ((Dv w).2.2++[(!(membersB (Dv w).1 (Dv w).2.1),21)])=eN at *
 generalize Dv w=pr at *
 have hn4:(4:Int).toNat<w.length:=by show 4<w.length;omega
 have hx4:w[(4:Int).toNat]'hn4=wdT w 4:=(C2 q_).symm
 by_cases ca:wdT w 4=E6
 ·have g1:(!(w[(4:Int).toNat]'hn4 == (⟨#[97,99,99,101,115,115]⟩:ByteArray)))=false:=Aca (by rw[hx4];exact ca)
  have q4:Sq 97 [.ptr 0 0,Ab false,Aa 20] (rdO w 4 e3) (.tup []) (rdO w 4 e4):=by
   rw[zI (λ x=>x ca)]at q4;exact q4
  refine T ?_
  refine C qk F92 ?_
  refine C qm F91 ?_
  refine C qk F92 ?_
  refine Ai 9 (B8 { lineZ with row:=row,kind:=2 }) rfl vL ?_
  refine T ?_
  refine X (As [(0,31)] (At E E F93) q1 E W E V) ?_
  refine X (As [(0,31)] (At E E F93) q2 E W E V) ?_
  refine X (Ad [(0,31)] E F95 q3 E W E V) ?_
  refine X (Ad [(0,31)] E F97 q4 E W E V) ?_
  refine X (Ad [(0,31),(1,9)] E F98 qp E W E V) ?_
  cases hz:(eN != 0)
  ·have hz0:eN=0:=by simpa using hz
   rw[zD (by rw[hz0];simp)]
   refine T ?_
   exact D
  ·have hz0:eN≠0:=by simpa using hz
   rw[zE hz0]
   refine T ?_
   refine Ai 4 (B8 lineZ) E vL ?_
   refine T ?_
   exact D
 ·have g1:(!(w[(4:Int).toNat]'hn4 == (⟨#[97,99,99,101,115,115]⟩:ByteArray)))=true:=Aju (by rw[hx4];exact ca)
  have hb:(decide (wdT w 4≠E6) && decide (wdT w 4≠Es))=!(w[(4:Int).toNat]'hn4 == (⟨#[116,114,117,110,107]⟩:ByteArray)):=by
   rw[zR ca,zZ,hx4]
   show decide (wdT w 4≠Es)=!(wdT w 4 == Es)
   by_cases cr:wdT w 4=Es
   ·rw[Aca cr,zI (λ x:wdT w 4≠Es=>x cr)]
   ·rw[Aju cr,zR cr]
  rw[hb]at q4
  refine T ?_
  refine C qk F92 ?_
  refine C qm F91 ?_
  refine C qk F92 ?_
  refine Ai 9 (B8 { lineZ with row:=row,kind:=2 }) rfl vL ?_
  refine T ?_
  refine X (As [(0,31)] (At E E F93) q1 E W E V) ?_
  refine X (As [(0,31)] (At E E F93) q2 E W E V) ?_
  refine X (Ad [(0,31)] E F95 q3 E W E V) ?_
  refine X (Ad [(0,31)] E F97 q4 E W E V) ?_
  refine X (Ad [(0,31),(1,9)] E F98 qp E W E V) ?_
  cases hz:(eN != 0)
  ·have hz0:eN=0:=by simpa using hz
   rw[zD (by rw[hz0];simp)]
   refine T ?_
   exact D
  ·have hz0:eN≠0:=by simpa using hz
   rw[zE hz0]
   refine T ?_
   refine Ai 4 (B8 lineZ) E vL ?_
   refine T ?_
   exact D
theorem Asy (w:List ByteArray) (row:Int) (hw:w.length≤1000000) (hs:∀ s∈w,s.size≤40):Sp 41 [.sl 1 Ao w,Aa row] (.tup [A0 (Ce w row).1,Aa (Ce w row).2]):=by
 by_cases hne:0<w.length
 ·cases hmy:manyB (kindL (wdT w 0)) w with
  | true =>
   have hr:=Aas (wdT w 0)
   have h0:=(If hmy).2.2.2.2
   rcases (by omega:kindL (wdT w 0)=1∨kindL (wdT w 0)=2∨kindL (wdT w 0)=3∨kindL (wdT w 0)=4∨kindL (wdT w 0)=5∨kindL (wdT w 0)=6∨kindL (wdT w 0)=7∨kindL (wdT w 0)=8∨kindL (wdT w 0)=9) with h | h | h | h | h | h | h | h | h
   ·exact Aoe w row hw hs hne h (by rw[h]at hmy;exact hmy)
   ·exact Aod w row hw hs hne h (by rw[h]at hmy;exact hmy)
   ·exact Aoc w row hw hs hne h (by rw[h]at hmy;exact hmy)
   ·exact Aob w row hw hs hne h (by rw[h]at hmy;exact hmy)
   ·exact Aoa w row hw hs hne h (by rw[h]at hmy;exact hmy)
   ·exact An9 w row hw hs hne h (by rw[h]at hmy;exact hmy)
   ·exact An8 w row hw hs hne h (by rw[h]at hmy;exact hmy)
   ·exact An7 w row hw hs hne h (by rw[h]at hmy;exact hmy)
   ·exact An6 w row hw hs hne h (by rw[h]at hmy;exact hmy)
  | false =>
   have hsT:Ce w row=(lineZ,22):=by rw[Ce,zE (.inr hmy)]
   rw[hsT]
   refine Oj Γ hm 100 F41 Tryz.ntmps41 E λ F hF=>by
    have hn0:(0:Int).toNat<w.length:=hne
    have f0:((w.length:Int) == 0)=false:=by rw[zL];omega
    have hx0:w[(0:Int).toNat]'hn0=wdT w 0:=(C2 hne).symm
    have qk:Sp 92 [Ao (w[(0:Int).toNat]'hn0)] (Aa (kindL (wdT w 0))):=by
     rw[hx0];exact He (wdT w 0)
    have qm:=Hd (kindL (wdT w 0)) (Aas _) w hw
    rw[hmy]at qm
    refine T ?_
    refine C qk F92 ?_
    refine C qm F91 ?_
    refine Ai 4 (B8 lineZ) E vL ?_
    refine T ?_
    exact D
 ·have hw0:w=[]:=zU q_
  subst hw0
  have hsT:Ce [] row=(lineZ,22):=by rw[Ce,zE (.inl rfl)]
  rw[hsT]
  refine Oj Γ hm 100 F41 Tryz.ntmps41 E λ F hF=>by
   refine T ?_
   refine Ai 4 (B8 lineZ) E vL ?_
   refine T ?_
   exact D
end Go.Sy.YtiijbikecbjdaaaGreatDoor
namespace Go.Sy
theorem Anl {C:Cx} {kk:List KI} {s:SS} (q:Nat) (r:List Nat) {sz:Nat} {α:Type} {e:α→SV} {l:List α} (h:s.h q=.row sz e l) (hl:l≠[]) (hr:∀ i∈r,s.σ i=.osl q)
  (hg:∀ b cap,l.length≤cap→G C kk ⟨freezeσ s.σ (.val (.slice (some ⟨b,0,none⟩) l.length cap)) r,upd s.h q (.pin b l.length cap sz e l)⟩):G C kk s:=λ κ a w hs=>by
 have hob:=hs.obj q
 rw[h]at hob
 rcases hob with ⟨_,h1⟩ | hrow
 ·exact yB h1 hl
 obtain ⟨b,cap,cs,T,fr,e1,e2,e3,e4,e5,e6⟩:=hrow
 refine hg b cap e5 κ a w ⟨hs.defers,hs.size,hs.inv,hs.ctx,λ i=>?_,λ j=>?_⟩
 ·refine freezeσ_ok r _ i (hs.slot i) (λ hi=>?_)
  have:=hs.slot i
  rw[hr i hi]at this
  simp only[Rd,e1]at this
  simp only[Rd]
  exact this
 ·show ObOK κ w j (upd s.h q _ j)
  by_cases hj:j=q
  ·subst hj;rw[Bt];exact⟨e1,b,cap,cs,T,fr,e1,e2,e3,e4,e5,e6⟩
  ·rw[Ck _ _ hj];exact hs.obj j
theorem Yw {C:Cx} {kk:List KI} {s:SS} (q d:Nat) (r:List Nat) (m:Nat) {b n cap sz:Nat} {α:Type} {e:α→SV} {l:List α} (h:s.h q=.pin b n cap sz e l) (hd:s.h d=.fresh) (hm:m≤l.length)
  (hr:∀ i∈r,s.σ i=.val (.slice (some ⟨b,0,none⟩) m cap)) (hg:G C kk ⟨freezeσ s.σ (.osl d) r,upd (upd s.h q .non) d (.row sz e (l.take m))⟩):G C kk s:=λ κ a w hs=>by
 have hob:=hs.obj q
 rw[h]at hob
 have hnew:κ d=.new:=by have:=hs.obj d;rwa [hd]at this
 obtain ⟨e0,b',cap',cs,T,fr,e1,e2,e3,e4,e5,e6⟩:=hob
 rw[e0]at e1
 cases e1
 have hln:l.length≤n:=by
  by_cases h0:l.length=0
  ·omega
  ·have:=(e6 (l.length-1) _ ⟨by omega,rfl⟩).1
   omega
 obtain ⟨st,inv⟩:=M0 (n':=m) (w':=w) hs.inv e0 hnew rfl rfl rfl rfl (λ _ _=>rfl)
 have hlt:(l.take m).length=m:=by rw[zX];omega
 refine hg _ a w ⟨hs.defers,hs.size,inv,hs.ctx.step inv st,λ j=>?_,λ j=>?_⟩
 ·refine freezeσ_ok r _ j (Rd.step st _ _ (hs.slot j)) (λ hj=>?_)
  have:=hs.slot j
  rw[hr j hj]at this
  simp only[Rd]at this
  simp[Rd,Aw,this]
 ·show ObOK _ w j (upd (upd s.h q .non) d _ j)
  by_cases hj:j=d
  ·subst hj;rw[Bt]
   refine .inr ⟨b,cap,cs,T,fr,by rw[Aw,hlt],e2,e3,e4,by omega,λ i x hx=>?_⟩
   obtain ⟨hi,rfl⟩:=hx
   obtain ⟨_,u,q2,q3⟩:=e6 i (e l[i]) ⟨by omega,rfl⟩
   refine⟨hi,u,?_,q3⟩
   rw[xS]
   exact RdD.keep st.keeps _ _ q2
  ·rw[Ck _ _ hj]
   by_cases hj2:j=q
   ·subst hj2;rw[Bt];trivial
   ·rw[Ck _ _ hj2];exact ObOK.step st (λ e=>e.elim hj2 hj) _ (hs.obj j)
theorem C4 {P:Program} (Γ:Ty P) {o:Oper} {s:SS} {t:TypeId} {ti:TI} {et:TypeId} {sz eb b n cap lo hi:Nat} {ez:List Value} {x:Operand} {lx hx:Option Operand}
  (h:o.op=.slice t x lx hx none) (ht:Γ.get t=some ti) (hk:ti.k=.slice et sz eb ez) (hxe:ev s x=.val (.slice (some ⟨b,0,none⟩) n cap)) (hlo:BoundIs s lx 0 lo) (hhi:BoundIs s hx n hi) (h1:lo≤hi) (h2:hi≤cap) :
  Good P o s ⟨.val (.slice (some (if cap=lo then ⟨b,0,none⟩ else ⟨b,lo * sz,none⟩)) (hi-lo) (cap-lo)),[],[]⟩ :=
 Good.pure λ κ a w _ hr _=>by
  have r1:=hr x (by simp[h,Op.operands])
  rw[hxe]at r1
  obtain ⟨hu,i,zv,q1,q2,q3,q4,q5⟩:=Ch Γ ht hk
  have b1:=hlo.val (a:=a) (λ y hy=>hr y (by simp[h,Op.operands,hy]))
  have b2:=hhi.val (a:=a) (λ y hy=>hr y (by simp[h,Op.operands,hy]))
  have hb:=Il (P:=P) w (len:=n) (cap:=cap) b1 b2 h1 h2
  refine⟨.slice (some (if cap=lo then ⟨b,0,none⟩ else ⟨b,lo * sz,none⟩)) (hi-lo) (cap-lo),?_,by simp only[Rd]⟩
  by_cases hc:cap=lo
  ·subst hc
   simp[execOp,h,r1.val,Instr.sliceAt,Instr.slice,run_underlying hu,hb,sizeOf,typeInfo,q1]
  ·simp[execOp,h,r1.val,Instr.sliceAt,Instr.slice,run_underlying hu,hb,sizeOf,typeInfo,q1,q2,hc,Addr.add_lit]
theorem Af0 {P:Program} (Γ:Ty P) {o:Oper} {s:SS} {t:TypeId} {ti:TI} {et:TypeId} {sz eb b n cap lo hi mm:Nat} {ez:List Value} {x:Operand} {lx hx mx:Operand} {k1 k2 k3:IntKind}
  (h:o.op=.slice t x (some lx) (some hx) (some mx)) (ht:Γ.get t=some ti) (hk:ti.k=.slice et sz eb ez) (hxe:ev s x=.val (.slice (some ⟨b,0,none⟩) n cap)) (hlo:ev s lx=.val (.int k1 lo)) (hhi:ev s hx=.val (.int k2 hi)) (hmx:ev s mx=.val (.int k3 mm))
  (h1:lo≤hi) (h2:hi≤mm) (h3:mm≤cap):Good P o s ⟨.top,[],[]⟩ :=
 Good.pure λ κ a w _ hr _=>by
  have r1:=hr x (by simp[h,Op.operands])
  have r2:=hr lx (by simp[h,Op.operands])
  have r3:=hr hx (by simp[h,Op.operands])
  have r4:=hr mx (by simp[h,Op.operands])
  rw[hxe]at r1
  rw[hlo]at r2
  rw[hhi]at r3
  rw[hmx]at r4
  obtain ⟨hu,i,zv,q1,q2,q3,q4,q5⟩:=Ch Γ ht hk
  have hb:(Instr.sliceBounds true n cap (some (a.eval lx)) (some (a.eval hx)) (some (a.eval mx))).run P w=.ok (lo,hi,mm) w:=by
   rw[r2.val,r3.val,r4.val]
   simp[Instr.sliceBounds,Instr.sliceBound,asIntOf,h1,h2,h3]
  refine⟨.slice (some (if mm=lo then ⟨b,0,none⟩ else ⟨b,lo * sz,none⟩)) (hi-lo) (mm-lo),?_,by simp only[Rd]⟩
  by_cases hc:mm=lo
  ·subst hc
   simp[execOp,h,r1.val,Instr.sliceAt,Instr.slice,run_underlying hu,hb,sizeOf,typeInfo,q1]
  ·simp[execOp,h,r1.val,Instr.sliceAt,Instr.slice,run_underlying hu,hb,sizeOf,typeInfo,q1,q2,hc,Addr.add_lit]
theorem Se {κ:Ka} {w w':World} {k b n cap:Nat} (hi:Inv κ w) (hk:κ k=.row b n cap) (hos:w'.os=w.os) (ht:w'.tape=w.tape) (ho:w'.output=w.output)
  (hs:w'.heap.size=w.heap.size) (hb:∀ i,i≠b→w'.heap[i]? = w.heap[i]?):Step (λ j=>j=k) κ w κ w'∧Inv κ w':=by
 have hkb:(κ k).block? = some b:=by rw[hk];rfl
 refine⟨⟨by omega,hos,ht,ho,E,λ c hm=>hb c (λ e=>hi.apart k b hkb (e ▸ hm)),λ c _ hn=>hb c (λ e=>hn (.inl ⟨k,e ▸ hkb⟩)),λ j c hj hjc=>hb c (λ e=>hj ?_),λ _ _=>rfl,λ _ _=>.inr (.inl E),λ _ h=>.inl h⟩,
  ⟨hi.inj,λ j c h=>by rw[hs];exact hi.bnd j c h,hi.apart,λ c h=>by rw[hs];exact hi.mbnd c h⟩⟩
 subst e
 exact hi.inj j k _ hjc hkb
theorem Akt {cs:List Value} {sz n:Nat} (h:∀ i,i<n→∃ u:Value,u.cells.size=sz∧Ones u.cells.toList∧∀ j,j<sz→cs[i * sz+j]? = u.cells[j]?) {p:Nat} (hp:p<n * sz) {v:Value} (hv:cs[p]? = some v):v.oneCell'=true:=by
 have h0:0<sz:=by
  rcases vU sz with rfl | h
  ·simp at hp
  ·exact h
 obtain ⟨u,h1,h2,h3⟩:=h (p / sz) (Nat.div_lt_of_lt_mul (by rw[vH];exact hp))
 have h4:=h3 (p % sz) (tG _ h0)
 rw[vH,vR,hv]at h4
 obtain ⟨hl,he⟩:=wP.1 h4.symm
 refine h2 v ?_
 rw[← he]
 exact Array.getElem_mem_toList hl
theorem Abv {P:Program} (Γ:Ty P) {o:Oper} {s:SS} (q:Nat) {t:TypeId} {ti:TI} {et:TypeId} {sz eb b n cap i j:Nat} {ez:List Value} {x y:Operand} {α:Type} {e:α→SV} {l:List α} {B:Option Addr} {c:Nat}
  (h:o.op=.call ⟨.builtin .append,#[x,y],#[t,t]⟩) (ht:Γ.get t=some ti) (hk:ti.k=.slice et sz eb ez) (hx:ev s x=.val (.slice (some ⟨b,0,none⟩) i cap))
  (hy:ev s y=.val (.slice B (n-j) c)) (hB:B=some (if cap=j then ⟨b,0,none⟩ else ⟨b,j * sz,none⟩)) (hob:s.h q=.pin b n cap sz e l) (hl:l.length=n) (hij:i≤j) (hj:j≤n) :
  Good P o s ⟨.val (.slice (some ⟨b,0,none⟩) (i+(n-j)) cap),[],[(q,.pin b n cap sz e (l.take i++l.drop j))]⟩:=by
 intro κ a w hinv hr ho N Q hN
 have r1:=hr x (by simp[h,Op.operands,Call.operands])
 have r2:=hr y (by simp[h,Op.operands,Call.operands])
 rw[hx]at r1
 rw[hy]at r2
 subst hB
 have hq:=ho q (.inr (by simp[Up.ws]))
 rw[hob]at hq
 obtain ⟨e0,b',cap',cs,T,fr,e1,e2,e3,e4,e5,e6⟩:=hq
 rw[e0]at e1
 cases e1
 obtain ⟨hu,ii,zv,q1,q2,q3,q4,q5⟩:=Ch Γ ht hk
 have hall:∀ i,i<n→∃ u:Value,u.cells.size=sz∧Ones u.cells.toList∧∀ j,j<sz→cs[i * sz+j]? = u.cells[j]?:=λ i hi=>by
  obtain ⟨_,u,_,u2⟩:=e6 i (e l[i]) ⟨by omega,rfl⟩
  exact⟨u,u2⟩
 obtain ⟨news,hnews⟩:∃ news,news=(cs.drop (j * sz)).take ((n-j) * sz):=⟨_,rfl⟩
 have hmul:(n-j) * sz+j * sz=n * sz:=by rw[← yZ];congr 1;omega
 have hnc:n * sz≤cap * sz:=yR sz e5
 have hijs:i * sz≤j * sz:=yR sz hij
 have hnl:news.length=(n-j) * sz:=by rw[hnews,zX,yM];omega
 have hget:∀ p,p<(n-j) * sz→news[p]? = cs[j * sz+p]?:=λ p hp=>by
  rw[hnews,vJ,zE hp,tU]
 have hones:Ones news:=λ v hv=>by
  obtain ⟨p,hp,he⟩:=vA hv
  have h1:news[p]? = some v:=by rw[zO hp,he]
  rw[hnl]at hp
  rw[hget p hp]at h1
  exact Akt hall q_ h1
 obtain ⟨w',f1,f2,f3,f4,f5,f6,f7⟩:=C3 P b (i * sz) T fr news 0 cs w e2 e3 q_ hones
 obtain ⟨st,inv⟩:=Se hinv e0 f3 f4 f5 f6 f7
 have hroom:i+(n-j)≤cap:=by omega
 have hcell:∀ p v,cs[p]? = some v→w.cell? ⟨b,p,none⟩=some v:=λ p v hp=>by
  simp[World.cell?,e2,hp]
 have hc:(Builtin.firstCells sz (n-j) (.slice (some (if cap=j then ⟨b,0,none⟩ else ⟨b,j * sz,none⟩)) (n-j) c)).run P w=.ok news.toArray w:=by
  by_cases hcj:cap=j
  ·have h0:n-j=0:=by omega
   rw[zE hcj,h0]
   have h1:news=[]:=by rw[h0]at hnl;simpa using hnl
   rw[h1]
   exact run_firstCells_some (P:=P) w sz 0 ⟨b,0,none⟩ 0 c [] y_ (λ j v hj=>by simp at hj)
  ·rw[zD hcj]
   refine run_firstCells_some (P:=P) w sz (n-j) ⟨b,j * sz,none⟩ (n-j) c news hnl (λ p v hp=>?_)
   rw[Addr.add_lit]
   have hlt:p<(n-j) * sz:=by
    rw[← hnl];exact(tP.1 hp).1
   rw[hget p hlt]at hp
   exact hcell _ _ hp
 have hrun:(execOp a.eval o).run P w=.ok (.value (.slice (some ⟨b,0,none⟩) (i+(n-j)) cap)) w':=by
  simp[execOp,h,resolve,invoke,builtin,Builtin.append_,r1.val,r2.val,run_underlying hu,sizeOf,typeInfo,q1,q2,Builtin.lenOf,hroom,hc,Addr.add_lit,f1]
 simp only[Oper.wp,hrun,Oper.upon]
 refine hN _ κ w' (st.weaken (λ k hk=>by subst hk;simp[Up.ws])) inv (by simp only[Rd]) (λ p hp=>?_)
 simp only[yD]at hp
 subst hp
 refine⟨e0,b,cap,_,T,fr,e0,f2,by rw[Cb];exact e3,by rw[Cb];exact e4,e5,?_⟩
 rintro k z ⟨hk0,rfl⟩
 have hset:=Lb cs news (i * sz+0)
 have hlen:(l.take i++l.drop j).length=i+(n-j):=by rw[yE,zX,yM];omega
 rw[hlen]at hk0
 by_cases hki:k<i
 ·obtain ⟨_,u,u1,u2,u3,u4⟩:=e6 k (e l[k]) ⟨by omega,rfl⟩
  have:(k+1) * sz≤i * sz:=yR sz q_
  rw[yZ,xY]at this
  refine⟨by omega,u,?_,u2,u3,λ p hp=>?_⟩
  ·rw[xI (by rw[zX];omega),xS]
   exact RdD.keep st.keeps _ _ u1
  ·rw[hset _ q_,zD q_,u4 p hp]
 ·obtain ⟨_,u,u1,u2,u3,u4⟩:=e6 (j+(k-i)) (e l[j+(k-i)]) ⟨by omega,rfl⟩
  have hks:k * sz=i * sz+(k-i) * sz:=by rw[← yZ];congr 1;omega
  have hjs:(j+(k-i)) * sz=j * sz+(k-i) * sz:=by rw[← yZ]
  have:(k-i+1) * sz≤(n-j) * sz:=yR sz q_
  rw[yZ,xY]at this
  refine⟨by omega,u,?_,u2,u3,λ p hp=>?_⟩
  ·rw[xX (by rw[zX];omega),vC]
   have hidx:j+(k-(l.take i).length)=j+(k-i):=by rw[zX];omega
   simp only[hidx]
   exact RdD.keep st.keeps _ _ u1
  ·rw[hset _ q_,zE q_,← u4 p hp,hjs]
   rw[show k * sz+p-(i * sz+0)=(k-i) * sz+p by omega,hget _ q_]
   congr 1
   omega
theorem Lu {P:Program} (Γ:Ty P) {o:Oper} {s:SS} (q:Nat) {t:TypeId} {ti:TI} {et:TypeId} {sz eb b n cap k m c:Nat} {ez:List Value} {x:Operand} {α:Type} {e:α→SV} {l:List α} {B:Option Addr}
  (h:o.op=.call ⟨.builtin .clear,#[x],#[t]⟩) (ht:Γ.get t=some ti) (hk:ti.k=.slice et sz eb ez) (hez:ez.length=sz) (hz1:∀ v∈ez,v.oneCell'=true) (hx:ev s x=.val (.slice B m c)) (hB:B=some (if cap=k then ⟨b,0,none⟩ else ⟨b,k * sz,none⟩))
  (hob:s.h q=.pin b n cap sz e l) (hkl:k≤l.length) (hm:k+m≤cap) :
  Good P o s ⟨.tup [],[],[(q,.pin b n cap sz e (l.take k))]⟩:=by
 intro κ a w hinv hr ho N Q hN
 have r1:=hr x (by simp[h,Op.operands,Call.operands])
 rw[hx]at r1
 subst hB
 have hq:=ho q (.inr (by simp[Up.ws]))
 rw[hob]at hq
 obtain ⟨e0,b',cap',cs,T,fr,e1,e2,e3,e4,e5,e6⟩:=hq
 rw[e0]at e1
 cases e1
 obtain ⟨hu,ii,zv,q1,q2,q3,q4,q5⟩:=Ch Γ ht hk
 have hzs:zv.cells.size=sz:=by rw[← hez,← q5];simp
 have hlt:(l.take k).length=k:=by rw[zX];omega
 by_cases hm0:m=0
 ·subst hm0
  have hrun:(execOp a.eval o).run P w=.ok (.value (.tuple #[])) w:=by
   simp[execOp,h,resolve,invoke,builtin,Builtin.clear_,r1.val,run_underlying hu]
  simp only[Oper.wp,hrun,Oper.upon]
  refine hN _ κ w (Step.refl _ κ w) hinv (by simp[Rd,RdL]) (λ p hp=>?_)
  simp only[yD]at hp
  subst hp
  refine⟨e0,b,cap,cs,T,fr,e0,e2,e3,e4,e5,?_⟩
  rintro p z ⟨hp0,rfl⟩
  rw[xS]
  exact e6 p (e l[p]) ⟨by omega,E⟩
 obtain ⟨m,rfl⟩:∃ p,m=p+1:=⟨m-1,by omega⟩
 rw[zD q_]at r1
 obtain ⟨news,hnews⟩:∃ news,news=(Builtin.zeroCells zv.cells (m+1)).toList:=⟨_,rfl⟩
 have hnl:news.length=(m+1) * sz:=by rw[hnews,wO,U7,hzs]
 have hones:Ones news:=λ v hv=>by
  rw[hnews,Array.mem_toList_iff]at hv
  refine hz1 v ?_
  rw[← q5]
  simp only[Builtin.zeroCells,Array.mem_map,Array.mem_range]at hv
  obtain ⟨p,hp,rfl⟩:=hv
  have h0:0<zv.cells.size:=by
   rcases vU zv.cells.size with h | h
   ·rw[h]at hp;simp at hp
   ·exact h
  have hlt2:p % zv.cells.size<zv.cells.size:=tG _ h0
  rw[getElem!_pos zv.cells _ hlt2]
  exact Array.getElem_mem_toList hlt2
 have hmul:k * sz+(m+1) * sz≤cap * sz:=by rw[← yZ];exact yR sz hm
 obtain ⟨w',f1,f2,f3,f4,f5,f6,f7⟩:=C3 P b (k * sz) T fr news 0 cs w e2 e3 q_ hones
 obtain ⟨st,inv⟩:=Se hinv e0 f3 f4 f5 f6 f7
 have hrun:(execOp a.eval o).run P w=.ok (.value (.tuple #[])) w':=by
  simp[execOp,h,resolve,invoke,builtin,Builtin.clear_,r1.val,run_underlying hu,zeroValue,typeInfo,q1,q4,← hnews,f1]
 simp only[Oper.wp,hrun,Oper.upon]
 refine hN _ κ w' (st.weaken (λ k hk=>by subst hk;simp[Up.ws])) inv (by simp[Rd,RdL]) (λ p hp=>?_)
 simp only[yD]at hp
 subst hp
 refine⟨e0,b,cap,_,T,fr,e0,f2,by rw[Cb];exact e3,by rw[Cb];exact e4,e5,?_⟩
 rintro p z ⟨hp0,rfl⟩
 have hset:=Lb cs news (k * sz+0)
 obtain ⟨h0,u,u1,u2,u3,u4⟩:=e6 p (e l[p]) ⟨by omega,rfl⟩
 have:(p+1) * sz≤k * sz:=yR sz q_
 rw[yZ,xY]at this
 refine⟨h0,u,?_,u2,u3,λ j hj=>?_⟩
 ·rw[xS]
  exact RdD.keep st.keeps _ _ u1
 ·have hcl:k * sz≤cs.length:=by omega
  rw[hset _ q_,zD q_,u4 j hj]
theorem G_dat {C:Cx} {kk:List KI} {s:SS} (i q:Nat) {sz:Nat} {α:Type} {e:α→SV} {l:List α} (h:s.σ i=.sl sz e l) (hl:l≠[])
  (hg:∀ b off cap,l.length≤cap→G C kk ⟨upd s.σ i (.val (.slice (some ⟨b,off,none⟩) l.length cap)),upd s.h q (.dat (.slice (some ⟨b,off,none⟩) l.length cap) sz e l)⟩):G C kk s:=λ κ a w hs=>by
 have h1:=hs.slot i
 rw[h]at h1
 have h1':=h1
 simp only[Rd,RdD]at h1
 rcases h1 with ⟨h2,_⟩ | ⟨b,off,cap,h2,h3,_⟩
 ·exact yB h2 hl
 ·refine hg b off cap h3 κ a w ⟨hs.defers,hs.size,hs.inv,hs.ctx,λ j=>?_,λ j=>?_⟩
  ·show Rd κ w (upd s.σ i (.val (.slice (some ⟨b,off,none⟩) l.length cap)) j) _
   by_cases hj:j=i
   ·subst hj;rw[Bt];simp only[Rd];exact h2
   ·rw[Ck _ _ hj];exact hs.slot j
  ·show ObOK κ w j (upd s.h q (.dat (.slice (some ⟨b,off,none⟩) l.length cap) sz e l) j)
   by_cases hj:j=q
   ·subst hj;rw[Bt];rw[h2]at h1';exact h1'
   ·rw[Ck _ _ hj];exact hs.obj j
theorem Af1 {P:Program} (Γ:Ty P) {o:Oper} {s:SS} {t:TypeId} {ti:TI} {et:TypeId} {sz eb b off n cap hi:Nat} {ez:List Value} {x hx mx:Operand} {k2 k3:IntKind}
  (h:o.op=.slice t x none (some hx) (some mx)) (ht:Γ.get t=some ti) (hk:ti.k=.slice et sz eb ez) (hxe:ev s x=.val (.slice (some ⟨b,off,none⟩) n cap)) (hhi:ev s hx=.val (.int k2 hi)) (hmx:ev s mx=.val (.int k3 hi))
  (h3:hi≤cap):Good P o s ⟨.val (.slice (some ⟨b,off,none⟩) hi hi),[],[]⟩ :=
 Good.pure λ κ a w _ hr _=>by
  have r1:=hr x (by simp[h,Op.operands])
  have r3:=hr hx (by simp[h,Op.operands])
  have r4:=hr mx (by simp[h,Op.operands])
  rw[hxe]at r1
  rw[hhi]at r3
  rw[hmx]at r4
  obtain ⟨hu,i,zv,q1,q2,q3,q4,q5⟩:=Ch Γ ht hk
  have hb:(Instr.sliceBounds true n cap none (some (a.eval hx)) (some (a.eval mx))).run P w=.ok (0,hi,hi) w:=by
   rw[r3.val,r4.val]
   simp[Instr.sliceBounds,Instr.sliceBound,asIntOf,h3]
  refine⟨.slice (some ⟨b,off,none⟩) hi hi,?_,by simp only[Rd]⟩
  by_cases hc:hi=0
  ·subst hc
   simp[execOp,h,r1.val,Instr.sliceAt,Instr.slice,run_underlying hu,hb,sizeOf,typeInfo,q1]
  ·simp[execOp,h,r1.val,Instr.sliceAt,Instr.slice,run_underlying hu,hb,sizeOf,typeInfo,q1,q2,hc,Addr.add_lit]
theorem Af5 {P:Program} (Γ:Ty P) {o:Oper} {s:SS} (q:Nat) {t:TypeId} {ti:TI} {et:TypeId} {sz eb b off n cap:Nat} {ez:List Value} {x y:Operand} {α:Type} {e:α→SV} {l l':List α}
  (h:o.op=.call ⟨.builtin .append,#[x,y],#[t,t]⟩) (ht:Γ.get t=some ti) (hk:ti.k=.slice et sz eb ez) (hez:ez.length=sz) (hx:ev s x=.val (.slice (some ⟨b,off,none⟩) n n))
  (hq:s.h q=.dat (.slice (some ⟨b,off,none⟩) l.length cap) sz e l) (hn:n≤l.length) (hy:ev s y=.sl sz e l') (hbytes:(n+l'.length) * eb≤140737488355328) (h63:n+l'.length≤9223372036854775807) :
  Good P o s ⟨.sl sz e (l.take n++l'),[q],[]⟩:=by
 intro κ a w hinv hr ho N Q hN
 have r1:=hr x (by simp[h,Op.operands,Call.operands])
 have r2:=hr y (by simp[h,Op.operands,Call.operands])
 rw[hx]at r1
 rw[hy]at r2
 have hq1:=ho q (.inl y_)
 rw[hq]at hq1
 have hq1:Rd κ w (.sl sz e l) (.slice (some ⟨b,off,none⟩) l.length cap):=hq1
 obtain ⟨hu,ii,zv,q1,q2,q3,q4,q5⟩:=Ch Γ ht hk
 have hzs:zv.cells.size=sz:=by rw[← hez,← q5];simp
 have htl:(l.take n).length=n:=by rw[zX];omega
 have hbase:Rd κ w (.sl sz e (l.take n)) (.slice (some ⟨b,off,none⟩) n n):=by
  simp only[Rd,RdD]at hq1 ⊢
  rcases hq1 with ⟨h0,_⟩ | ⟨b2,off2,cap2,h2,h3,h4,h5,h6⟩
  ·have hn0:n=0:=by rw[h0]at hn;simpa using hn
   subst hn0
   exact .inl ⟨by simp,_,_,E⟩
  ·cases h2
   refine .inr ⟨b,off,n,by rw[htl],by rw[htl];exact yC _,h4,h5,λ i hi=>?_⟩
   obtain ⟨u,h7,h8⟩:=h6 i q_
   exact⟨u,by rw[xS];exact h7,h8⟩
 have hrb:=hbase.src
 have hru:=r2.src
 rw[htl]at hrb
 obtain ⟨m,hm⟩:∃ m,l'.length=m:=⟨_,rfl⟩
 rw[hm]at hru hbytes h63
 generalize hve:a.eval y=u at *
 obtain ⟨ad,c,news,hu2,hnl,hn1,hnc,hng⟩:∃ (a:Option Addr) (c:Nat) (news:List Value),u=.slice a m c∧news.length=m * sz∧Ones news∧(∀ W:World,(∀ p:Addr,p.block<w.heap.size→W.cell? p=w.cell? p)→(Builtin.firstCells sz m u).run P W=.ok news.toArray W) ∧
   (∀ j x,rowF e l' j x→j<m∧∃ q:Value,RdD (Own κ) w x q∧q.cells.size=sz∧Ones q.cells.toList∧∀ l,l<sz→news[j * sz+l]? = q.cells[l]?):=by
  rcases hru with ⟨rfl,hno,a,c,rfl⟩ | ⟨b,o,c,news,rfl,h1,h2,h3,h4⟩
  ·refine⟨a,c,[],E,by simp,by simp[Ones],λ W _=>?_,λ j x h=>yB h (hno j x)⟩
   cases a<;>simp[Builtin.firstCells,loadCells,loadCellsFrom]
  ·refine⟨some ⟨b,o,none⟩,c,news,E,h1,h2,λ W hW=>?_,λ j x hx=>h4 j x hx⟩
   exact run_firstCells_some (P:=P) W sz m ⟨b,o,none⟩ m c news h1 (λ j q hj=>by
    rw[Addr.add_lit]
    have h5:=h3 j q hj
    rw[hW _ (by exact World.block_lt_of_cell? w _ h5),h5])
 subst hu2
 by_cases hm0:m=0
 ·subst hm0
  have hl':l'=[]:=zU hm
  subst hl'
  have hc:=hnc w (λ _ _=>rfl)
  have hnn:news=[]:=by simpa using hnl
  subst hnn
  have hrun:(execOp a.eval o).run P w=.ok (.value (.slice (some ⟨b,off,none⟩) n n)) w:=by
   simp[execOp,h,resolve,invoke,builtin,Builtin.append_,r1.val,hve,run_underlying hu,sizeOf,typeInfo,q1,q2,Builtin.lenOf,hc,storeCells]
  simp only[Oper.wp,hrun,Oper.upon]
  refine hN _ κ w (Step.refl _ κ w) hinv ?_ (λ p hp=>by cases hp)
  rw[xK]
  exact hbase
 obtain ⟨olds,hol,hof,hfo⟩:∃ olds:List Value,olds.length=n * sz∧(∀ j x,rowF e (l.take n) j x→j<n→∃ q:Value,RdD (Own κ) w x q∧q.cells.size=sz∧Ones q.cells.toList∧∀ l,l<sz→olds[j * sz+l]? = q.cells[l]?) ∧
   (Builtin.firstCells sz n (.slice (some ⟨b,off,none⟩) n n)).run P w.drew=.ok olds.toArray w.drew:=by
  rcases hrb with ⟨rfl,hno,_⟩ | ⟨b2,o2,c2,olds,he,g1,g2,g3,g4⟩
  ·exact⟨[],by simp,λ j x _ hj=>yB hj q_,run_firstCells_some (P:=P) w.drew sz 0 ⟨b,off,none⟩ 0 0 [] y_ (λ j v hj=>by simp at hj)⟩
  ·cases he
   exact⟨olds,g1,λ j x hx _=>(g4 j x hx).2,run_firstCells_some (P:=P) w.drew sz n ⟨b,off,none⟩ n n olds g1 (λ j v hj=>by
    have:=g3 j v hj
    rw[Addr.add_lit];simpa using this)⟩
 have hcap:n+m≤grownCap w (n+m) n et:=grownCap_ge w (n+m) n et
 have h48:¬ (281474976710656<Builtin.nextslicecap (n+m) n * ii.bytes):=by
  have:=growslice_fits (need:=n+m) (old:=n) (bytes:=ii.bytes) q_ (by rw[q3];exact hbytes)
  omega
 have h63':¬ (9223372036854775807<(n:Int)+(m:Int)):=by omega
 have hroom:¬ n+m≤n:=by omega
 have hc:=hnc w.drew (λ _ _=>rfl)
 obtain ⟨w',hw'⟩:∃ w',w.drew.alloc (.cells (olds.toArray++news.toArray++Builtin.zeroCells zv.cells (grownCap w (n+m) n et-(n+m))) et)=w':=⟨_,rfl⟩
 have hrun:(execOp a.eval o).run P w=.ok (.value (.slice (some ⟨w.heap.size,0,none⟩) (n+m) (grownCap w (n+m) n et))) w':=by
  rw[← hw']
  simp[execOp,h,resolve,invoke,builtin,Builtin.append_,r1.val,hve,run_underlying hu,sizeOf,typeInfo,zeroValue,q4,q1,q2,Builtin.lenOf,h63',h48,Question.forced,hfo,hc,newRow,grownCap]
  rw[zD hroom]
  have ea:∀ Z:Array Value,olds.toArray++(news.toArray++Z)=(olds++news).toArray++Z:=λ Z=>by apply Array.ext';simp
  rw[ea]
 have g0:Grew w w':=by rw[← hw'];exact(Grew.drew w).trans (Grew.alloc _ _)
 obtain ⟨st,inv⟩:=Zc hinv g0
 have hblk:w'.heap[w.heap.size]? = some (.cells (olds++news++(Builtin.zeroCells zv.cells (grownCap w (n+m) n et-(n+m))).toList).toArray et):=by
  rw[← hw']
  have:(w.drew.alloc (.cells (olds.toArray++news.toArray++Builtin.zeroCells zv.cells (grownCap w (n+m) n et-(n+m))) et)).heap[w.heap.size]? = some (.cells (olds.toArray++news.toArray++Builtin.zeroCells zv.cells (grownCap w (n+m) n et-(n+m))) et):=heap_alloc_new w.drew _
  rw[this]
  congr 2
  apply Array.ext'
  simp
 have hsz:w.heap.size<w'.heap.size:=by rw[← hw'];simp
 simp only[Oper.wp,hrun,Oper.upon]
 refine hN _ κ w' (st.weaken (λ _ h=>h.elim)) inv ?_ (λ p hp=>by cases hp)
 simp only[Rd,RdD]
 have hlen:(l.take n++l').length=n+m:=by rw[yE,htl,hm]
 refine .inr ⟨w.heap.size,0,grownCap w (n+m) n et,by rw[hlen],by rw[hlen];exact hcap,?_,hsz,λ j hj=>?_⟩
 ·rintro (⟨k,hk⟩ | hk)
  ·exact Nat.lt_irrefl _ (hinv.bnd k _ hk)
  ·exact Nat.lt_irrefl _ (hinv.mbnd _ hk)
 ·rw[hlen]at hj
  by_cases hjn:j<n
  ·obtain ⟨qv,g1,g2,g3,g4⟩:=hof j (e (l.take n)[j]) ⟨by omega,rfl⟩ hjn
   refine⟨qv,by rw[xI q_];exact RdD.keep st.keeps _ _ g1,g2,g3,λ p hp=>?_⟩
   have:(j+1) * sz≤n * sz:=yR sz q_
   rw[yZ,xY]at this
   rw[cell_of_row w' _ _ _ et (0,0) hblk,uH,xQ,xW q_,wD]
   exact g4 p hp
  ·obtain ⟨_,qv,g1,g2,g3,g4⟩:=hng (j-n) (e (l'[j-n]'q_)) ⟨by omega,rfl⟩
   refine⟨qv,?_,g2,g3,λ p hp=>?_⟩
   ·rw[xX q_]
    simp only[htl]
    exact RdD.keep st.keeps _ _ g1
   ·have e1:j * sz=n * sz+(j-n) * sz:=by rw[← yZ];congr 1;omega
    have:(j-n+1) * sz≤m * sz:=yR sz q_
    rw[yZ,xY]at this
    rw[cell_of_row w' _ _ _ et (0,0) hblk,uH,xQ,wB q_,xW q_,← g4 p hp]
    congr 1
    omega
theorem Aav {P:Program} {o:Oper} {s:SS} (q:Nat) {sz:Nat} {α:Type} {e:α→SV} {l:List α} {v:Value} {x:Operand} (h:o.op=.move x∨o.op=.assign x) (hx:ev s x=.val v) (hq:s.h q=.dat v sz e l):Good P o s ⟨.sl sz e l,[q],[]⟩ :=
 Good.pure λ κ a w _ hr ho=>by
  have hq1:=ho q y_
  rw[hq]at hq1
  have hr1:=hr x (by rcases h with h | h<;>simp[h,Op.operands])
  rw[hx]at hr1
  refine⟨a.eval x,?_,?_⟩
  ·rcases h with h | h<;>simp[execOp,h]
  ·rw[hr1.val];exact hq1
theorem Aeh {f g:Nat→Option (Nat × Nat)}:∀ (ps:List (Nat × Value)) (cs:Array Value),(∀ p∈ps,f p.1=g p.1)→Instr.fill f cs ps=Instr.fill g cs ps
 | [],cs,_=>rfl
 | (i,v)::ps,cs,h=>by
  have h1:=h (i,v) y_
  simp only[Instr.fill]
  dsimp only at h1
  rw[h1]
  cases g i with
  | none=>rfl
  | some os =>
   dsimp only
   split
   ·rfl
   ·exact Aeh ps _ (λ p hp=>h p (by simp[hp]))
theorem Tg {P:Program} (Γ:Ty P) {o:Oper} {s:SS} {t et:TypeId} {ti:TI} {len esz:Nat} {ps:List (Nat × Operand)} {out:List SV} (h:o.op=.build t ps.toArray) (ht:Γ.get t=some ti) (hk:ti.k=.array et len esz)
  (h1:Aal ti.zero=true) (hps:(ps.all λ p=>Nat.blt p.1 len)=true) (hf:Aei ((List.range len).map λ i=>(i * esz,esz)) (ti.zero.map .val) (ps.map λ p=>(p.1,ev s p.2))=some out):Good P o s ⟨.agg out,[],[]⟩ :=
 Good.pure λ κ a w _ hr _=>by
  obtain ⟨d,info,z,k1,k2,k3,k4,k5,k6⟩:=Γ.ok t ti ht
  obtain ⟨hu,i,q1,q2⟩:=Tq Γ ht hk
  have hops:∀ p∈ps,Rd κ w (ev s p.2) (a.eval p.2):=λ p hp=>hr p.2 (by
   simp only[h,Op.operands]
   simp only[List.mem_toArray,yV]
   exact⟨p,hp,E⟩)
  obtain ⟨r,r1,r2,r3⟩:=Ajg (κ:=κ) (w:=w) (a:=a) ps _ out z.cells (by rw[k6];exact Yu _) (by rw[k6];exact S3 h1) hops hf
  refine⟨.agg r,?_,?_⟩
  ·have hcg:=Aeh (f:=λ i=>some (i * esz,esz)) (g:=λ i=>((List.range len).map λ i=>(i * esz,esz))[i]?) (ps.map λ p=>(p.1,a.eval p.2)) z.cells (λ p hp=>by
    obtain ⟨x,hx,rfl⟩:=yV.1 hp
    have hlt:x.1<len:=xP (yT.1 hps x hx)
    dsimp only
    rw[uA,vQ hlt]
    rfl)
   simp only[execOp,h,Sem.run_bind,Instr.build,zeroValue,typeInfo,run_program,Result.andThen_ok,k3,k5,Sem.run_pure,run_underlying hu,sizeOf,q1,q2,List.map_toArray]
   rw[hcg,r1]
   simp
  ·simp only[Rd]
   exact⟨r.toList,by simp,r3,r2⟩
mutual
def rnb (k d:Nat):SV→SV
 | .ptr j o=>bif Nat.beq j k then .ptr d o else .ptr j o
 | .agg l=>.agg (Ac2 k d l)
 | .tup l=>.tup (Ac2 k d l)
 | .ifc t y=>.ifc t (rnb k d y)
 | .clo f g l=>.clo f (Ac2 k d g) (Ac2 k d l)
 | y=>y
def Ac2 (k d:Nat):List SV→List SV
 | []=>[]
 | y::l=>rnb k d y::Ac2 k d l
end
mutual
theorem Aot {κ κ':Ka} {w:World} {K:Nat→Prop} {k d:Nat} (st:Step K κ w κ' w) (hx:∀ o v,Rd κ w (.ptr k o) v→Rd κ' w (.ptr d o) v):∀ (y:SV) (v:Value),Rd κ w y v→Rd κ' w (rnb k d y) v
 | .ptr j o,v,h=>by
  unfold rnb
  by_cases hk:j=k
  ·subst hk;rw[show Nat.beq j j=true from tA j];exact hx o v h
  ·rw[show Nat.beq j k=false from by cases hb:Nat.beq j k with | false=>rfl | true=>exact yB (yH hb) hk];exact Rd.step st _ _ h
 | .agg l,v,h=>by
  simp only[Rd]at h
  unfold rnb
  simp only[Rd]
  obtain ⟨cs,h1,h2,h3⟩:=h
  exact⟨cs,h1,h2,O1 st hx l cs h3⟩
 | .tup l,v,h=>by
  simp only[Rd]at h
  unfold rnb
  simp only[Rd]
  obtain ⟨cs,h1,h3⟩:=h
  exact⟨cs,h1,O1 st hx l cs h3⟩
 | .ifc t y,v,h=>by
  simp only[Rd]at h
  unfold rnb
  simp only[Rd]
  obtain ⟨u,h1,h3⟩:=h
  exact⟨u,h1,Aot st hx y u h3⟩
 | .clo f g l,v,h=>by
  simp only[Rd]at h
  unfold rnb
  simp only[Rd]
  obtain ⟨fs,cs,h1,h2,h3⟩:=h
  exact⟨fs,cs,h1,O1 st hx g fs h2,O1 st hx l cs h3⟩
 | .top,v,h=>by unfold rnb;exact Rd.step st _ _ h
 | .val u,v,h=>by unfold rnb;exact Rd.step st _ _ h
 | .sl sz e l,v,h=>by unfold rnb;exact Rd.step st _ _ h
 | .ref sz z o,v,h=>by unfold rnb;exact Rd.step st _ _ h
 | .rpt k sz i o,v,h=>by unfold rnb;exact Rd.step st _ _ h
 | .osl k,v,h=>by unfold rnb;exact Rd.step st _ _ h
theorem O1 {κ κ':Ka} {w:World} {K:Nat→Prop} {k d:Nat} (st:Step K κ w κ' w) (hx:∀ o v,Rd κ w (.ptr k o) v→Rd κ' w (.ptr d o) v):∀ (l:List SV) (vs:List Value),RdL κ w l vs→RdL κ' w (Ac2 k d l) vs
 | [],vs,h=>by
  unfold Ac2
  simpa [RdL] using h
 | y::l,vs,h=>by
  simp only[RdL]at h
  unfold Ac2
  simp only[RdL]
  obtain ⟨v,r,h1,h2,h3⟩:=h
  exact⟨v,r,h1,Aot st hx y v h2,O1 st hx l r h3⟩
end
def rnbO (k d:Nat):Ob→Ob
 | .box l=>.box (Ac2 k d l)
 | o=>o
theorem Aog {κ:Ka} {w:World} {k d b:Nat} (hi:Inv κ w) (hk:κ k=.blk b) (hd:κ d=.new) :
  Step (λ j=>j=k∨j=d) κ w (Dt (Dt κ k .dead) d (.blk b)) w∧Inv (Dt (Dt κ k .dead) d (.blk b)) w:=by
 have hkd:k≠d:=λ e=>by subst e;rw[hk]at hd;cases hd
 have hkb:(κ k).block? = some b:=by rw[hk];rfl
 have key:∀ j c,((Dt (Dt κ k .dead) d (.blk b)) j).block? = some c→(j=d∧c=b)∨(j≠d∧j≠k∧(κ j).block? = some c):=by
  intro j c h
  by_cases hj:j=d
  ·subst hj;rw[Aw]at h;exact .inl ⟨rfl,by simpa [Ent.block?] using h.symm⟩
  ·rw[B4 _ _ hj]at h
   by_cases hj2:j=k
   ·subst hj2;rw[Aw]at h;cases h
   ·rw[B4 _ _ hj2]at h;exact .inr ⟨hj,hj2,h⟩
 refine⟨⟨yC _,E,E,E,E,λ _ _=>rfl,λ _ _ _=>rfl,λ _ _ _ _=>rfl,λ j hj=>?_,?_,?_⟩,⟨?_,?_,?_,λ c h=>hi.mbnd c h⟩⟩
 ·rw[B4 _ _ (λ e=>hj (.inr e)),B4 _ _ (λ e=>hj (.inl e))]
 ·rintro j (rfl | rfl)
  ·exact .inr (.inr (by rw[B4 _ _ hkd,Aw]))
  ·exact .inl hd
 ·rintro c (⟨j,hj⟩ | hj)
  ·rcases key j c hj with ⟨_,rfl⟩ | ⟨_,_,h⟩
   ·exact .inl (.inl ⟨k,hkb⟩)
   ·exact .inl (.inl ⟨j,h⟩)
  ·exact .inl (.inr hj)
 ·intro i j c h1 h2
  rcases key i c h1 with ⟨a1,a2⟩ | ⟨a1,a2,a3⟩<;>rcases key j c h2 with ⟨b1,b2⟩ | ⟨b1,b2,b3⟩
  ·exact a1.trans b1.symm
  ·subst a2;exact yB (hi.inj j k _ b3 hkb) b2
  ·subst b2;exact yB (hi.inj i k _ a3 hkb) a2
  ·exact hi.inj i j c a3 b3
 ·intro j c h
  rcases key j c h with ⟨_,rfl⟩ | ⟨_,_,h⟩
  ·exact hi.bnd k _ hkb
  ·exact hi.bnd j c h
 ·intro j c h
  rcases key j c h with ⟨_,rfl⟩ | ⟨_,_,h⟩
  ·exact hi.apart k _ hkb
  ·exact hi.apart j c h
theorem K9 {C:Cx} {kk:List KI} {s:SS} (k d:Nat) {l:List SV} (h:s.h k=.box l) (hd:s.h d=.fresh) (hkd:k≠d)
  (hg:G C kk ⟨λ i=>rnb k d (s.σ i),upd (λ j=>bif Nat.beq j k then .non else rnbO k d (s.h j)) d (.box (Ac2 k d l))⟩):G C kk s:=λ κ a w hs=>by
 have hob:=hs.obj k
 rw[h]at hob
 have hnew:κ d=.new:=by have:=hs.obj d;rwa [hd]at this
 obtain ⟨b,cs,T,fr,e1,e2,e3,e4,e5⟩:=hob
 obtain ⟨st,inv⟩:=Aog hs.inv e1 hnew
 have hne:∀ j,j≠k→j≠d→(Dt (Dt κ k .dead) d (.blk b)) j=κ j:=λ j h1 h2=>by rw[B4 _ _ h2,B4 _ _ h1]
 have hv:∀ o v,Rd κ w (.ptr k o) v→Rd (Dt (Dt κ k .dead) d (.blk b)) w (.ptr d o) v:=λ o v hv=>by
  simp only[Rd,e1]at hv
  simp only[Rd,Aw]
  exact hv
 refine hg _ a w ⟨hs.defers,hs.size,inv,hs.ctx.step inv st,λ j=>Aot st hv _ _ (hs.slot j),λ j=>?_⟩
 show ObOK _ w j (upd (λ j=>bif Nat.beq j k then .non else rnbO k d (s.h j)) d (.box (Ac2 k d l)) j)
 by_cases hj:j=d
 ·subst hj
  rw[Bt]
  exact⟨b,cs,T,fr,Aw _ _ _,e2,e3,e4,O1 st hv l cs e5⟩
 ·rw[Ck _ _ hj]
  by_cases hj2:j=k
  ·subst hj2;rw[show Nat.beq j j=true from tA j];trivial
  ·rw[show Nat.beq j k=false from by cases hb:Nat.beq j k with | false=>rfl | true=>exact yB (yH hb) hj2]
   have hb:=ObOK.step st (λ e=>e.elim hj2 hj) _ (hs.obj j)
   have h0:=hs.obj j
   show ObOK _ w j (rnbO k d (s.h j))
   cases hh:s.h j with
   | box m =>
    rw[hh]at h0 hb
    obtain ⟨b2,cs2,T2,fr2,f1,f2,f3,f4,f5⟩:=h0
    exact⟨b2,cs2,T2,fr2,(hne j hj2 hj).trans f1,f2,f3,f4,O1 st hv m cs2 f5⟩
   | fresh=>rw[hh]at hb;exact hb
   | non=>rw[hh]at hb;exact hb
   | row sz' e' l'=>rw[hh]at hb;exact hb
   | lit sz' svs=>rw[hh]at hb;exact hb
   | glob sz' x' g'=>rw[hh]at hb;exact hb
   | pin b' n' cap' sz' e' l'=>rw[hh]at hb;exact hb
   | dat v' sz' e' l'=>rw[hh]at hb;exact hb
   | rown sz' e' l' i' cl'=>rw[hh]at hb;exact hb
   | tbox T' m'=>rw[hh]at hb;exact hb
theorem VwL.get {s:SS} {V:List Nat}:∀ {l m:List SV} (_:VwL s V l m) {i:Nat} {y:SV},Hi m i=some y→∃ x,Hi l i=some x∧Vw s V x y
 | _,_,.nil,i,y,h=>by cases i<;>simp[Hi]at h
 | _,_,.cons (x:=x) h0 hs,0,y,h=>by
  simp only[Hi,Option.some.injEq]at h
  subst h
  exact⟨x,E,h0⟩
 | _,_,.cons h0 hs,i+1,y,h=>VwL.get hs (i:=i) h
theorem VwL.len {s:SS} {V:List Nat}:∀ {l m:List SV} (_:VwL s V l m),m.length=l.length
 | _,_,.nil=>rfl
 | _,_,.cons _ hs=>by simp[VwL.len hs]
theorem Ahq:∀ {l:List SV} {i:Nat} {x:SV},Oi l=true→Hi l i=some x→x.data=true
 | [],i,x,_,h=>by cases i<;>simp[Hi]at h
 | y::l,0,x,hd,h=>by
  simp only[Hi,Option.some.injEq]at h
  subst h
  simp only[Oi,zH]at hd
  exact hd.1
 | y::l,i+1,x,hd,h=>by
  simp only[Oi,zH]at hd
  exact Ahq hd.2 (i:=i) h
theorem Azi {C:Cx} {k:List KI} {s:SS} (d:Nat) {sz:Nat} {svs:List SV} (svs':List SV) (h:s.h d=.lit sz svs) (hv:VwL s [] svs svs') (hd:Oi svs'=true) (hg:G C k ⟨s.σ,upd s.h d (.lit sz svs')⟩):G C k s:=λ κ a w hs=>by
 refine hg κ a w ⟨hs.defers,hs.size,hs.inv,hs.ctx,hs.slot,λ j=>?_⟩
 show ObOK κ w j (upd s.h d (.lit sz svs') j)
 by_cases hj:j=d
 ·subst hj
  rw[Bt]
  have hob:=hs.obj j
  rw[h]at hob
  have hlen:=hv.len
  obtain ⟨b,cap,cs,T,fr,e1,e2,e3,e4,e5,e6⟩:=hob
  refine⟨b,cap,cs,T,fr,by rw[hlen];exact e1,e2,e3,e4,by omega,λ i x hx=>?_⟩
  obtain ⟨y,hy,hvw⟩:=hv.get hx
  obtain ⟨f1,u,f2,f3⟩:=e6 i y hy
  exact⟨by omega,u,Rd.data _ _ (Ahq hd hx) (hvw.rd hs.inv (λ n hn=>by cases hn) f2.toRd),f3⟩
 ·rw[Ck _ _ hj];exact hs.obj j
theorem RdL.setI {κ:Ka} {w:World} {x:SV} {v:Value} (hx:Rd κ w x v):∀ {l:List SV} {cs:List Value} (i:Nat),RdL κ w l cs→RdL κ w (l.set i x) (cs.set i v)
 | [],cs,i,h=>by simp only[RdL]at h;subst h;simp[RdL]
 | y::l,cs,0,h=>by
  simp only[RdL]at h
  obtain ⟨u,r,rfl,h1,h2⟩:=h
  simp only[tB,RdL]
  exact⟨v,r,E,hx,h2⟩
 | y::l,cs,i+1,h=>by
  simp only[RdL]at h
  obtain ⟨u,r,rfl,h1,h2⟩:=h
  simp only[List.set_cons_succ,RdL]
  exact⟨u,_,E,h1,h2.setI hx i⟩
theorem Dk {κ:Ka} {w:World} {k:Nat} {l:List SV} (hi:Inv κ w) (h:ObOK κ w k (.box l)) {off:Nat} {x:SV} {v:Value} (_hx:x.plain=true) (hv:∀ κ w,Rd κ w x v) (h1:v.oneCell'=true) :
  ∃ b,κ k=.blk b∧(∀ j y,Hi l j=some y→∃ u,w.cell? ⟨b,j,none⟩=some u∧Rd κ w y u)∧(∀ j,j<l.length→w.frozen? ⟨b,j,none⟩=false) ∧
   Step (·=k) κ w κ (w.setCell ⟨b,off,none⟩ v)∧Inv κ (w.setCell ⟨b,off,none⟩ v)∧ObOK κ (w.setCell ⟨b,off,none⟩ v) k (.box (l.set off x)):=by
 obtain ⟨b,cs,T,fr,e1,e2,e3,e4,e5⟩:=h
 have hsame:(w.setCell ⟨b,off,none⟩ v).heap[b]? = some (.cells (cs.set off v).toArray T fr):=by
  simp[World.setCell,tE,e2]
 have hoth:∀ j,j≠b→(w.setCell ⟨b,off,none⟩ v).heap[j]? = w.heap[j]?:=λ j hj=>heap_setCell_other w ⟨b,off,none⟩ j v hj
 obtain ⟨st,inv⟩:=La (w':=w.setCell ⟨b,off,none⟩ v) hi (k:=k) (b:=b) (by rw[e1];rfl) rfl rfl rfl y_ hoth
 have hlen:=e5.length
 refine⟨b,e1,λ j y hy=>?_,λ j hj=>?_,st,inv,b,_,T,fr,e1,hsame,by rw[yW];exact e3,?_,(RdL.step st _ _ e5).setI (hv _ _) off⟩
 ·obtain ⟨u,hu,hr⟩:=e5.get hy
  exact⟨u,by rw[cell_of_row w b j cs.toArray T fr e2,uH];exact hu,hr⟩
 ·obtain ⟨lo,hi'⟩:=fr
  simp only[World.frozen?,e2]
  rcases e3 with h | h
  ·simp only at h;subst h;simp
  ·simp only at h;simp;omega
 ·intro c hc
  rcases uJ hc with h | h
  ·exact e4 c h
  ·rw[h];exact h1
theorem Ve {P:Program} {o:Oper} {s:SS} {f:FuncId} {ik:IntKind} {ts:Array TypeId} {x:Operand} {k off:Nat} {l:List SV} {v:Int}
  (hf:∀ (a:Addr) (x:Int) (w:World),w.cell? a=some (.int ik x)→(callFunc f #[.pointer (some a)]).run P w=.ok (.value (.int ik x)) w)
  (h:o.op=.call ⟨.value (.func f),#[x],ts⟩) (hx:ev s x=.ptr k off) (hk:s.h k=.box l) (hy:Hi l off=some (.val (.int ik v))):Good P o s ⟨.val (.int ik v),[k],[]⟩ :=
 Good.pure λ κ a w hi hr ho=>by
  have h1:=hr x (by simp[h,Op.operands,Call.operands])
  rw[hx]at h1
  have h2:=ho k y_
  rw[hk]at h2
  obtain ⟨b,cs,T,fr,e1,e2,e3,e4,e5⟩:=h2
  simp only[Rd,e1]at h1
  obtain ⟨u,hu,hr2⟩:=e5.get hy
  have hc:w.cell? ⟨b,off,none⟩=some (.int ik v):=by rw[cell_of_row w b off cs.toArray T fr e2,uH,hu,hr2.val]
  have hrun:=hf ⟨b,off,none⟩ v w hc
  refine⟨.int ik v,?_,by simp only[Rd]⟩
  have hev:a.eval (.func f)=.func (.func f) #[] #[]:=rfl
  simp[execOp,h,resolve,hev,Deferred.ofValue,invoke,h1,hrun]
theorem Aja {P:Program} {o:Oper} {s:SS} {f:FuncId} {ts:Array TypeId} {x y:Operand} {k off:Nat} {l:List SV} {v d:Int}
  (hf:∀ (a:Addr) (x y:Int) (w:World),w.cell? a=some (.int .i64 x)→w.frozen? a=false→(callFunc f #[.pointer (some a),.int .i64 y]).run P w=.ok (.value (.int .i64 (IntKind.i64.wrap (x+y)))) (w.setCell a (.int .i64 (IntKind.i64.wrap (x+y)))))
  (h:o.op=.call ⟨.value (.func f),#[x,y],ts⟩) (hx:ev s x=.ptr k off) (hy:ev s y=.val (.int .i64 d)) (hk:s.h k=.box l) (hl:Hi l off=some (.val (.int .i64 v))) (hv:IntKind.i64.wrap (v+d)=v+d) :
  Good P o s ⟨.val (.int .i64 (v+d)),[],[(k,.box (l.set off (.val (.int .i64 (v+d)))))]⟩:=by
 intro κ a w hi hr ho N Q hN
 have h1:=hr x (by simp[h,Op.operands,Call.operands])
 have h2:=hr y (by simp[h,Op.operands,Call.operands])
 rw[hx]at h1
 rw[hy]at h2
 have h3:=ho k (.inr (by simp[Up.ws]))
 rw[hk]at h3
 obtain ⟨b,e1,c1,c2,st,inv,ob⟩:=Dk (off:=off) (x:=.val (.int .i64 (v+d))) (v:=.int .i64 (v+d)) hi h3 rfl (λ _ _=>by simp only[Rd]) rfl
 simp only[Rd,e1]at h1
 obtain ⟨u,hu,hr2⟩:=c1 off _ hl
 rw[hr2.val]at hu
 have hrun:=hf ⟨b,off,none⟩ v d w hu (c2 off (Ab4 hl))
 rw[hv]at hrun
 have hrun2:(execOp a.eval o).run P w=.ok (.value (.int .i64 (v+d))) (w.setCell ⟨b,off,none⟩ (.int .i64 (v+d))):=by
  have hev:a.eval (.func f)=.func (.func f) #[] #[]:=rfl
  simp[execOp,h,resolve,hev,Deferred.ofValue,invoke,h1,h2.val,hrun]
 simp only[Oper.wp,hrun2,Oper.upon]
 refine hN _ κ _ (st.weaken (by simp[Up.ws])) inv (by simp only[Rd]) (λ p hp=>?_)
 simp only[yD]at hp
 subst hp
 exact ob
theorem Vf {P:Program} (Γ:Ty P) {o:Oper} {s:SS} (q:Nat) {t:TypeId} {ti:TI} {et:TypeId} {eb b n cap lo k c1 c2:Nat} {ez:List Value} {x y:Operand} {α:Type} {e:α→SV} {l:List α} {B B2:Option Addr}
  (h:o.op=.call ⟨.builtin .copy,#[x,y],#[t,t]⟩) (ht:Γ.get t=some ti) (hk:ti.k=.slice et 1 eb ez) (hx:ev s x=.val (.slice B (n-lo) c1)) (hB:B=some ⟨b,lo,none⟩) (hy:ev s y=.val (.slice B2 k c2)) (hB2:B2=some ⟨b,0,none⟩)
  (hq:s.h q=.pin b n cap 1 e l) (hl:l.length=n) (hk2:k≤n) (hpos:0<min k (n-lo)) :
  Good P o s ⟨.val (.int .i64 (min k (n-lo):Nat)),[],[(q,.pin b n cap 1 e (l.take lo++l.take (min k (n-lo))++l.drop (lo+min k (n-lo))))]⟩:=by
 intro κ a w hinv hr ho N Q hN
 have r1:=hr x (by simp[h,Op.operands,Call.operands])
 have r2:=hr y (by simp[h,Op.operands,Call.operands])
 rw[hx]at r1
 rw[hy]at r2
 subst hB
 subst hB2
 have hob:=ho q (.inr (by simp[Up.ws]))
 rw[hq]at hob
 obtain ⟨e0,b',cap',cs,T,fr,e1,e2,e3,e4,e5,e6⟩:=hob
 rw[e0]at e1
 cases e1
 obtain ⟨hu,ii,zv,q1,q2,q3,q4,q5⟩:=Ch Γ ht hk
 obtain ⟨mn,hmn⟩:∃ mn,min k (n-lo)=mn:=⟨_,rfl⟩
 rw[hmn]at hpos hN
 have hnc:n≤cs.length:=by omega
 have hall:∀ i,i<n→∃ u:Value,u.cells.size=1∧Ones u.cells.toList∧∀ j,j<1→cs[i * 1+j]? = u.cells[j]?:=λ i hi=>by
  obtain ⟨_,u,_,u2⟩:=e6 i (e l[i]) ⟨by omega,rfl⟩
  exact⟨u,u2⟩
 obtain ⟨news,hnews⟩:∃ news,news=cs.take mn:=⟨_,rfl⟩
 have hnl:news.length=mn:=by rw[hnews,zX];omega
 have hget:∀ p,p<mn→news[p]? = cs[p]?:=λ p hp=>by rw[hnews,vJ,zE hp]
 have hones:Ones news:=λ v hv=>by
  obtain ⟨p,hp,he⟩:=vA hv
  have h1:news[p]? = some v:=by rw[zO hp,he]
  rw[hnl]at hp
  rw[hget p hp]at h1
  exact Akt (n:=n) hall q_ h1
 obtain ⟨w',f1,f2,f3,f4,f5,f6,f7⟩:=C3 P b lo T fr news 0 cs w e2 e3 q_ hones
 obtain ⟨st,inv⟩:=Se hinv e0 f3 f4 f5 f6 f7
 have hcell:∀ p v,cs[p]? = some v→w.cell? ⟨b,p,none⟩=some v:=λ p v hp=>by simp[World.cell?,e2,hp]
 have hc:=Aht (P:=P) w w' t t o.type et ⟨b,lo,none⟩ ⟨b,0,none⟩ (n-lo) c1 k c2 news hu q1 q2 (by rw[hnl,hmn]) (λ j v hv=>by
  rw[Addr.add_lit]
  have hlt:j<mn:=by rw[← hnl];exact(tP.1 hv).1
  rw[hget j hlt]at hv
  rw[wD]
  exact hcell _ _ hv) f1
 rw[hnl]at hc
 have hrun:(execOp a.eval o).run P w=.ok (.value (.int .i64 (mn:Nat))) w':=by
  simp[execOp,h,resolve,invoke,builtin,r1.val,r2.val,hc]
 simp only[Oper.wp,hrun,Oper.upon]
 refine hN _ κ w' (st.weaken (λ k hk=>by subst hk;simp[Up.ws])) inv (by simp only[Rd]) (λ p hp=>?_)
 simp only[yD]at hp
 subst hp
 refine⟨e0,b,cap,_,T,fr,e0,f2,by rw[Cb];exact e3,by rw[Cb];exact e4,e5,?_⟩
 rintro i z ⟨hi0,rfl⟩
 have hset:=Lb cs news (lo+0)
 have hlen:(l.take lo++l.take mn++l.drop (lo+mn)).length=n:=by
  simp only[yE,zX,yM];omega
 rw[hlen]at hi0
 have src:∀ j (hj:j<l.length),∃ u:Value,RdD (Own κ) w (e l[j]) u∧u.cells.size=1∧Ones u.cells.toList∧∀ p,p<1→cs[j * 1+p]? = u.cells[p]?:=λ j hj=>(e6 j (e l[j]) ⟨hj,rfl⟩).2
 by_cases hi1:i<lo
 ·obtain ⟨u,u1,u2,u3,u4⟩:=src i q_
  refine⟨hi0,u,?_,u2,u3,λ p hp=>?_⟩
  ·have:(l.take lo++l.take mn++l.drop (lo+mn))[i]'(by rw[hlen];exact hi0)=l[i]'q_:=by
    rw[xI (by simp only[yE,zX];omega),xI (by simp only[zX];omega),xS]
   rw[this]
   exact RdD.keep st.keeps _ _ u1
  ·rw[hset _ q_,zD q_,u4 p hp]
 ·by_cases hi2:i<lo+mn
  ·obtain ⟨u,u1,u2,u3,u4⟩:=src (i-lo) q_
   refine⟨hi0,u,?_,u2,u3,λ p hp=>?_⟩
   ·have:(l.take lo++l.take mn++l.drop (lo+mn))[i]'(by rw[hlen];exact hi0)=l[i-lo]'q_:=by
     rw[xI (by simp only[yE,zX];omega),xX (by simp only[zX];omega),xS]
     congr 1
     simp only[zX];omega
    rw[this]
    exact RdD.keep st.keeps _ _ u1
   ·rw[hset _ q_,zE q_,hget _ q_,← u4 p hp]
    congr 1
    omega
  ·obtain ⟨u,u1,u2,u3,u4⟩:=src i q_
   refine⟨hi0,u,?_,u2,u3,λ p hp=>?_⟩
   ·have:(l.take lo++l.take mn++l.drop (lo+mn))[i]'(by rw[hlen];exact hi0)=l[i]'q_:=by
     rw[xX (by simp only[yE,zX];omega),vC]
     congr 1
     simp only[yE,zX];omega
    rw[this]
    exact RdD.keep st.keeps _ _ u1
   ·rw[hset _ q_,zD q_,u4 p hp]
theorem Ctx.onward {F:Fr} {κ κ2:Ka} {w w2:World} {ds:List Deferred} (c:Ctx F κ w) (c2:Ctx ⟨w,κ,ds⟩ κ2 w2):Ctx F κ2 w2 where
 size:=wJ c.size c2.size
 os:=c2.os.trans c.os
 tape:=c2.tape.trans c.tape
 output:=c2.output.trans c.output
 M:=c2.M.trans c.M
 old b hb h:=by
  refine(c2.old b (yS hb c.size) (λ k hk=>?_)).trans (c.old b hb h)
  rcases c.own k b hk with h1 | ⟨j,h1⟩
  ·exact yB hb (Nat.not_lt.2 h1)
  ·exact h j h1
 own k b hk:=by
  rcases c2.own k b hk with h | ⟨j,h⟩
  ·exact .inl (wJ c.size h)
  ·exact c.own j b h
 nam k hk:=by
  have hn:∀ x,κ k=x→x≠.new→κ2 k=x∨κ2 k=.dead:=λ x hx hne=>by
   have h:κ2 k=κ k∨κ2 k=.dead:=c2.nam k (by show κ k≠.new;rw[hx];exact hne)
   rw[hx]at h
   exact h
  rcases c.nam k hk with h | h
  ·exact hn _ h hk
  ·rcases hn _ h (by intro e;cases e) with h2 | h2
   ·exact .inr h2
   ·exact .inr h2
def Asd (P:Program) (fn:Func) (F:Fr) (R:SV) (H':Obs):Exit→Act→World→Prop :=
 bodyPostD P fn λ e w'=>∃ v κ',e=.returned v∧Ctx F κ' w'∧Inv κ' w'∧Rd κ' w' R v∧H'.ok κ' w'
theorem Aoi {P:Program} (Γ:Ty P) {f:FuncId} {fn:Func} {c:Code} {A:List SV} {H:Obs} {R:SV} {H':Obs} (hf:P.funcs[f]? = some fn) (hb:fn.body=some c) {n:Nat} (hn':fn.ntmps=n) (hn:A.length≤n)
  (h:∀ (F:Fr) (hF:∀ k,F.k0 k≠.new→k∈H.keys),F.ds=[]→G ⟨P,Γ,F,n,Asd P fn F R H',H.keys,hF⟩ [.code c] ⟨argσ A,mkh H⟩):Spec P f A H R H':=by
 subst hn'
 intro κ w vs hi hnew hA hH
 refine calls_of_wp_defers hf hb ?_
 have hlen:=hA.length
 refine h ⟨w,κ,[]⟩ hnew E κ _ w ⟨E,?_,hi,Ctx.refl κ w,?_,?_⟩
 ·simp;omega
 ·intro i
  have:=hA.getD (fn.ntmps-vs.length) i
  have he:(vs.toArray++Array.replicate (fn.ntmps-vs.length) undef)=(vs++List.replicate (fn.ntmps-vs.length) undef).toArray:=by simp
  show Rd κ w _ ((vs.toArray++Array.replicate (fn.ntmps-vs.toArray.size) undef).getD i undef)
  rw[uL,he]
  simpa using this
 ·intro k
  exact Apj hH (λ hk=>Classical.byContradiction λ hne=>hk (hnew k hne))
theorem Auv {P:Program} (Γ:TyE P) (hm:P.follows .mixedOrders=true) (N:Nat) {f:FuncId} {fn:Func} {c:Code} {A:List SV} {H:Obs} {R:SV} {H':Obs} (hF:Fun P f fn c) {n:Nat} (hn':fn.ntmps=n) (hn:Al4 A n=true)
  (h:∀ (F:Fr) (hF:∀ k,F.k0 k≠.new→k∈H.keys),F.ds=[]→L6 ⟨P,Γ.toTy,F,n,Asd P fn F R H',H.keys,hF⟩ Γ N [.code c] ⟨argσ A,mkh H⟩):Sy.Spec P f A H R H' :=
 Aoi Γ.toTy hF.1 hF.2 hn' (Adr hn) λ F hF h0=>run Γ hm N (h F hF h0)
theorem A1h {C:Cx} {k:List KI} {s:SS} {all:Array Oper} {o:Oper} {rest:List Oper} {x:Operand} {ts:Array TypeId} {g:FuncId} {cap:List SV} (h:o.op=.defer ⟨.value x,#[],ts⟩) (hx:ev s x=.clo (.func g) [] cap) (hd:o.dst=none)
  (hw:D6 C.n all o s=some true) (h0:C.F.ds=[]) (bn:List Nat) (hbn:∀ j,j∉bn→s.h j=.fresh)
  (hg:∀ (F:Fr) (hF:∀ j,F.k0 j≠.new→j∈bn) (cv:List Value),F.ds=[⟨.fn (.func g) cv.toArray,#[]⟩]→RdL F.k0 F.w0 cap cv→(∀ κ w,Ctx F κ w→Ctx C.F κ w)→G ⟨C.P,C.Γ,F,C.n,C.B,bn,hF⟩ (.ops all rest::k) s):G C (.ops all (o::rest)::k) s:=by
 intro κ a w hs
 refine wpList_step λ K hK=>?_
 rw[zE (Tx hs (Eb hw).2 (Eb hw).1)]
 have hr:=hs.ev x
 rw[hx]at hr
 simp only[Rd]at hr
 obtain ⟨fs,cs,hv,hfs,hcs⟩:=hr
 simp only[RdL]at hfs
 subst hfs
 have hF:∀ j,κ j≠.new→j∈bn:=λ j hj=>Classical.byContradiction λ hn=>hj (by
  have:=hs.obj j
  rw[hbn j hn]at this
  exact this)
 have hrun:(execOp a.eval o).run C.P w=.ok (.defer ⟨.fn (.func g) cs.toArray,#[]⟩) w:=by
  simp[execOp,h,resolve,Deferred.ofValue,hv]
 show o.upon C.P a K _ ((execOp a.eval o).run C.P w)
 rw[hrun,Oper.upon_defer,hd]
 refine hK _ _ (hg ⟨w,κ,[⟨.fn (.func g) cs.toArray,#[]⟩]⟩ hF cs rfl hcs (λ κ2 w2 c2=>hs.ctx.onward c2) κ { a with defers:=_::a.defers } w ⟨?_,hs.size,hs.inv,?_,hs.slot,hs.obj⟩)
 ·show _::a.defers=_
  rw[hs.defers,h0]
 ·have:=Ctx.refl κ w
  exact⟨this.size,this.os,this.tape,this.output,this.M,this.old,this.own,this.nam⟩
end Go.Sy
namespace Go.Sy.YtiijbikecbjdaaaGreatDoor
open Go.Proofs
attribute [local irreducible] Go.Sy.G Go.Sy.DR
set_option maxRecDepth 100000
set_option maxHeartbeats 4000000
theorem Afk (ae al:Addr) (e:Int) (x:Value) (u:FrameMode) (w:World) (he:w.cell? ae=some (.int .i64 e)) (hl:w.cell? al=some x) (hz:w.frozen? al=false) :
  CallsD Tryz.prog 40 #[.pointer (some ae),.pointer (some al)] u w λ r u' w'=>u'=u∧(r=.returned (.tuple #[])∧w'=if e=0 then w else w.setCell al (.slice none 0 0)):=by
 by_cases h:e=0
 ·subst h
  go_enter_d Tryz.func40,Tryz.ntmps40
  go_wp2
  go_end0
  exact⟨E,by simp⟩
 ·rw[zD h]
  go_enter_d Tryz.func40,Tryz.ntmps40
  go_wp2
  go_end0
  exact⟨E,E⟩
theorem Awu {κ0' κ:Ka} {w0 w:World} {k:Nat} {v:Value} {l:List SV} (h0:Rd κ0' w0 (.ptr k 0) v) (hn:κ0' k≠.new→κ k=κ0' k∨κ k=.dead) (ho:ObOK κ w k (.box l)):∃ b,κ k=.blk b∧v=.pointer (some ⟨b,0,none⟩):=by
 obtain ⟨b,cs,T,fr,e1,_⟩:=ho
 refine⟨b,e1,?_⟩
 have hne:κ0' k≠.new:=λ e=>by simp only[Rd,e]at h0
 rcases hn hne with h | h
 ·rw[e1]at h
  simp only[Rd,← h]at h0
  exact h0
 ·rw[e1]at h;cases h
theorem Azw {F F2:Fr} {n:Nat} {bn:List Nat} {hbn:∀ k,F2.k0 k≠.new→k∈bn} {k:List KI} {s:SS} {L:List LineM} {row e:Int} {cv:List Value} (hd:F2.ds=[⟨.fn (.func 40) cv.toArray,#[]⟩])
  (hcv:RdL F2.k0 F2.w0 [.ptr 4 0,.ptr 2 0] cv) (hctx:∀ κ w,Ctx F2 κ w→Ctx F κ w) (h2:s.h 2=.box [.sl 17 A0 L]) (h4:s.h 4=.box [Aa e]) (h3:s.σ 3=Aa row) (p2:s.σ 2=.ptr 2 0) (p4:s.σ 4=.ptr 4 0) :
  G ⟨Tryz.prog,Γ.toTy,F2,n,Asd Tryz.prog Tryz.f19 F (.tup [.sl 17 A0 (if e=0 then L else []),Aa row,Aa e]) [],bn,hbn⟩ (.code .ret::k) s:=by
 refine A1u λ κ a w hs=>?_
 have o2:=hs.obj 2
 rw[h2]at o2
 have o4:=hs.obj 4
 rw[h4]at o4
 simp only[RdL]at hcv
 obtain ⟨v4,r4,rfl,hv4,v2,r2,rfl,hv2,rfl⟩:=hcv
 obtain ⟨b4,k4,rfl⟩:=Awu hv4 (hs.ctx.nam 4) o4
 obtain ⟨b2,k2,rfl⟩:=Awu hv2 (hs.ctx.nam 2) o2
 obtain ⟨b2',e1,c1,c2,st1,inv1,ob1⟩:=Dk (off:=0) (x:=.val (.slice none 0 0)) (v:=.slice none 0 0) hs.inv o2 rfl (λ κ w=>by simp only[Rd]) rfl
 have ob1:ObOK κ (w.setCell ⟨b2',0,none⟩ (.slice none 0 0)) 2 (.box [.sl 17 A0 []]):=by
  obtain ⟨b,cs,T,fr,f1,f2,f3,f4,f5⟩:=ob1
  refine⟨b,cs,T,fr,f1,f2,f3,f4,?_⟩
  have f5:RdL κ _ [.val (.slice none 0 0)] cs:=f5
  simp only[RdL,Rd]at f5 ⊢
  obtain ⟨v,r,rfl,rfl,rfl⟩:=f5
  exact⟨_,_,E,by simp[RdD],E⟩
 rw[k2]at e1
 cases e1
 obtain ⟨b4',e4,d1,_,_,_,_⟩:=Dk (off:=0) (x:=Aa e) (v:=.int .i64 e) hs.inv o4 rfl (λ κ w=>by simp[Rd,Aa]) rfl
 rw[k4]at e4
 cases e4
 obtain ⟨u4,hu4,hr4⟩:=d1 0 (Aa e) rfl
 have hu4':u4=.int .i64 e:=by simpa [Aa,Rd] using hr4
 subst hu4'
 obtain ⟨u2,hu2,_⟩:=c1 0 _ rfl
 show Leaves Tryz.prog Tryz.f19 a.tmps _ a.defers .returning w
 rw[hs.defers,hd]
 refine leaves_cons (f:=40) (args:=#[.pointer (some ⟨b4,0,none⟩),.pointer (some ⟨b2,0,none⟩)]) y_ (by simp[go_sem]) ?_
 refine(Afk ⟨b4,0,none⟩ ⟨b2,0,none⟩ e u2 .returning w hu4 hu2 (c2 0 y_)).mono ?_
 rintro r u' w'' ⟨rfl,rfl,rfl⟩
 by_cases he:e=0
 ·rw[zE he,zE he]
  obtain ⟨v,g1,g2⟩:=Sr (P:=Tryz.prog) (Γ:=Γ.toTy) hs (fn:=Tryz.f19) (xs:=[.sl 17 A0 L,Aa row,Aa e]) rfl (.cons (.cell p2 h2 rfl rfl) (.cons (h3 ▸ .tmp) (.cons (.cell p4 h4 rfl rfl) .nil)))
  exact⟨v,g1,v,κ,rfl,hctx _ _ hs.ctx,hs.inv,g2,λ p hp=>by cases hp⟩
 ·rw[zD he,zD he]
  have hs2:St F2 n ⟨s.σ,upd s.h 2 (.box [.sl 17 A0 []])⟩ κ a (w.setCell ⟨b2,0,none⟩ (.slice none 0 0)):=⟨hs.defers,hs.size,inv1,hs.ctx.step inv1 st1,λ i=>Rd.step st1 _ _ (hs.slot i),λ j=>by
   show ObOK κ _ j (upd s.h 2 _ j)
   by_cases hj:j=2
   ·subst hj;exact ob1
   ·have:upd s.h 2 (.box [.sl 17 A0 []]) j=s.h j:=by
     simp only[upd]
     have:Nat.beq j 2=false:=by
      cases hb:Nat.beq j 2
      ·rfl
      ·exact yB (yH hb) hj
     rw[this];rfl
    rw[this]
    exact ObOK.step st1 (show ¬ j=2 from hj) _ (hs.obj j)⟩
  obtain ⟨v,g1,g2⟩:=Sr (P:=Tryz.prog) (Γ:=Γ.toTy) hs2 (fn:=Tryz.f19) (xs:=[.sl 17 A0 [],Aa row,Aa e]) rfl (.cons (.cell p2 rfl rfl rfl) (.cons (h3 ▸ .tmp) (.cons (.cell p4 h4 rfl rfl) .nil)))
  exact⟨v,g1,v,κ,rfl,hctx _ _ hs2.ctx,inv1,g2,λ p hp=>by cases hp⟩
theorem Ws {F F2:Fr} {n:Nat} {bn:List Nat} {hbn:∀ k,F2.k0 k≠.new→k∈bn} {k:List KI} {s:SS} {L L':List LineM} {row e:Int} {cv:List Value} (hd:F2.ds=[⟨.fn (.func 40) cv.toArray,#[]⟩])
  (hcv:RdL F2.k0 F2.w0 [.ptr 4 0,.ptr 2 0] cv) (hctx:∀ κ w,Ctx F2 κ w→Ctx F κ w) (hL:(if e=0 then L else [])=L') (h2:s.h 2=.box [.sl 17 A0 L]) (h4:s.h 4=.box [Aa e]) (h3:s.σ 3=Aa row) (p2:s.σ 2=.ptr 2 0) (p4:s.σ 4=.ptr 4 0) :
  G ⟨Tryz.prog,Γ.toTy,F2,n,Asd Tryz.prog Tryz.f19 F (.tup [.sl 17 A0 L',Aa row,Aa e]) [],bn,hbn⟩ (.code .ret::k) s:=by
 subst hL
 exact Azw hd hcv hctx h2 h4 h3 p2 p4
theorem Si:∀ (l cur:List UInt8),∀ s∈Eu cur l,s.size≤cur.length+l.length
 | [],cur,s,hs=>by
  rw[Eu]at hs
  split at hs
  ·cases hs
  ·simp at hs;rw[hs,Hr];simp
 | c::l,cur,s,hs=>by
  rw[Eu]at hs
  split at hs
  ·rcases yI.1 hs with hs | hs
   ·rw[hs,Hr];simp
   ·have:=Si l [] s hs
    simp at this ⊢;omega
  ·have:=Si l (cur++[c]) s hs
   simp at this ⊢;omega
theorem L9 (b:List UInt8):(rowsT b).1.length≤400∧∀ s∈(rowsT b).1,s.size≤20000:=by
 rw[rowsT]
 split
 ·exact⟨by simp,λ s hs=>by cases hs⟩
 ·rename_i h1
  split
  ·exact⟨by simp,λ s hs=>by cases hs⟩
  ·rename_i h2
   refine⟨by dsimp only;omega,λ s hs=>?_⟩
   have:=Si b [] s hs
   simp at this;omega
theorem Oo (r:ByteArray) (hr:r.size≤20000):(wordsT r).1.length≤20001∧∀ s∈(wordsT r).1,s.size≤40:=by
 have hl:=L7 r.data.toList []
 have hrs:r.data.toList.length=r.size:=rfl
 rw[wordsT]
 split
 ·rename_i h
  refine⟨by dsimp only;omega,λ s hs=>?_⟩
  rw[yT]at h
  have:=h s hs
  simp only[wordB,zH,zQ]at this
  exact this.1.2
 ·exact⟨by simp,λ s hs=>by cases hs⟩
theorem Aso (b:List UInt8) (hb:b.length≤1000000):Sp 19 [.sl 1 Ah b] (.tup [.sl 17 A0 (textT b).1,Aa (textT b).2.1,Aa (textT b).2.2]):=Auv Γ hm 100 F19 Tryz.ntmps19 rfl λ F hF h0=>by
 have q1:=Agz b hb
 have hres:=textT.eq_1 b
 have hsm:=L9 b
 generalize textT b=res at *
 generalize rowsT b=rt at *
 obtain ⟨rows,e0⟩:=rt
 dsimp only at hres hsm q1
 refine T ?_
 refine A1h E E E E h0 [2,4] (λ j hj=>?_) ?_
 ·simp only[yI,xG,vM,uU]at hj
  have n2:Nat.beq j 2=false:=by
   cases hb:Nat.beq j 2
   ·rfl
   ·exact yB (yH hb) hj.1
  have n4:Nat.beq j 4=false:=by
   cases hb:Nat.beq j 4
   ·rfl
   ·exact yB (yH hb) hj.2
  simp[SS.upd,Q6,upd,mkh,n2,n4]
 intro F2 hF2 cv hd hcv hctx
 refine T ?_
 refine C q1 F21 ?_
 cases hz:(e0 != 0)
 rotate_left
 ·have he:e0≠0:=by simpa using hz
  rw[zE he]at hres
  subst hres
  refine T ?_
  refine Ai 2 [.sl 17 A0 []] E (.cons .nil .nil) ?_
  exact Ws (L:=[]) hd hcv hctx y_ E E E E E
 have he0:e0=0:=by simpa using hz
 rw[zD (by simp[he0])]at hres
 subst he0
 obtain ⟨hlen,hsz⟩:=hsm
 refine T ?_
 refine On 2 0 1000 17 A0 E E E E ?_
 refine B6 (λ x:Nat × List LineM=>res=Kr x.1 (rows.drop x.1) x.2∧x.1≤rows.length∧x.2.length≤x.1) (λ x=>[(2,.ptr 2 0),(4,.ptr 4 0),(20,.sl 1 Ao rows),(21,Aa rows.length),(22,Aa x.1)]) (λ x=>[(2,.box [.osl 1000]),(4,.box [Aa 0]),(1000,.row 17 A0 x.2)]) (λ x=>rows.length-x.1) (0,[]) [] ⟨hres,by simp,by simp⟩ U ?_
 rintro ⟨j,out⟩ ⟨hI,hj,hol⟩
 dsimp only at hI hj hol ⊢
 refine T ?_
 constructor<;>intro h
 ·have hlt:j<rows.length:=qA h
  have hlt0:((j:Nat):Int).toNat<rows.length:=hlt
  have hr:(rows[((j:Nat):Int).toNat]'hlt0).size≤20000:=hsz _ (zJ _)
  have hdr:rows.drop j=rows[((j:Nat):Int).toNat]'hlt0::rows.drop (j+1):=yJ hlt
  rw[hdr,Kr]at hI
  clear h
  have q2:=Adq (rows[((j:Nat):Int).toNat]'hlt0) q_
  have hws:=Oo (rows[((j:Nat):Int).toNat]'hlt0) hr
  generalize wordsT (rows[((j:Nat):Int).toNat]'hlt0)=wt at *
  obtain ⟨ws,we⟩:=wt
  dsimp only at hI hws q2
  cases hz:(we != 0)
  rotate_left
  ·have he:we≠0:=by simpa using hz
   rw[zE he]at hI
   subst hI
   refine T ?_
   refine C q2 F22 ?_
   refine Ai 2 [.sl 17 A0 []] E (.cons .nil .nil) ?_
   exact Ws (L:=[]) hd hcv hctx y_ E E E E E
  have he:we=0:=by simpa using hz
  rw[zD (by simp[he])]at hI
  by_cases hw0:ws.length=0
  ·rw[zE (zU hw0)]at hI
   have f0:((ws.length:Int) == 0)=true:=by rw[hw0];rfl
   refine T ?_
   refine C q2 F22 ?_
   exact Av (j+1,out) [] ⟨hI,hlt,by dsimp only;omega⟩ (by dsimp only;omega) U
  ·rw[zD (λ e=>hw0 (by rw[e];rfl))]at hI
   have f0:((ws.length:Int) == 0)=false:=by rw[zL];omega
   have q3:=Asy ws ((j:Int)+1) q_ hws.2
   generalize Ce ws ((j:Int)+1)=st at *
   obtain ⟨l,se⟩:=st
   dsimp only at hI q3
   cases hz2:(se != 0)
   rotate_left
   ·have he2:se≠0:=by simpa using hz2
    rw[zE he2]at hI
    subst hI
    refine T ?_
    refine C q2 F22 ?_
    refine C q3 F41 ?_
    refine Ag 1000 E ?_
    exact Ws (L:=out) hd hcv hctx (zD he2) E E E E E
   ·have he2:se=0:=by simpa using hz2
    rw[zD (by simp[he2])]at hI
    refine T ?_
    refine C q2 F22 ?_
    refine C q3 F41 ?_
    refine X (Ae Γ.toTy 56 E E E E E (.row E) (.lit (e:=A0) (l:=[l]) E E) y_ (by simp;omega) (by simp;omega)) ?_
    exact Av (j+1,out++[l]) [(1000,56)] ⟨hI,hlt,by simp;omega⟩ (by dsimp only;omega) U
 ·have hje:j=rows.length:=qB h
  subst hje
  rw[wH,Kr]at hI
  subst hI
  clear h
  refine T ?_
  refine Ag 1000 E ?_
  exact Ws (L:=out) hd hcv hctx (zE E) E E E E E
end Go.Sy.YtiijbikecbjdaaaGreatDoor
