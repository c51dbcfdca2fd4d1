/-
  I28 Sy34 Sy35 Sy36 Sy37 Sy38 Sy39 Sy40 I29 I30 I36 I39 I38 I40 I42 J31: parts of a proof, joined by program.
-/
import Derived.Test.YtgblchnfjbkipaaGreatDoorXF5
import Derived.Test.YtgblchnfjbkipaaGreatDoorXF3
import Derived.Laws.LoneSync
import Derived.Test.YtgblchnfjbkipaaGreatDoorXF2
import Derived.Defers
import Derived.Tactics
import Derived.Tactics2
import Derived.Laws.Pointers
import Derived.RegionTactic
import Derived.RegionCalls
import Derived.Test.YtgblchnfjbkipaaGreatDoorXF4
import Derived.Test.YtgblchnfjbkipaaGreatDoorRows
import Derived.ProofKit
import Derived.Test.YtgblchnfjbkipaaGreatDoorCards
namespace Go.Sy.YtgblchnfjbkipaaGreatDoor
open Go.Proofs
attribute [local irreducible] Go.Sy.G Go.Sy.DR
set_option maxRecDepth 100000
set_option maxHeartbeats 4000000
theorem L7 (s:ByteArray):0≤kindL s∧kindL s≤9:=by
 rw[kindL]
 repeat' split
 all_goals decide
theorem Db {k:Int} {w:List ByteArray} (h:manyB k w=true):(k=1∨k=6∨k=7→w.length=4)∧(k=3∨k=4∨k=8∨k=9→w.length=5)∧(k=5→w.length=3)∧(k=2→6≤w.length∧w.length≤7∧(wdT w 4=trunkT→w.length=7))∧k≠0:=by
 rw[manyB]at h
 by_cases h0:k=0
 ·rw[if_pos h0]at h;cases h
 rw[if_neg h0]at h
 by_cases h2:k=2
 ·rw[if_pos h2]at h
  by_cases h6:w.length<6
  ·rw[if_pos h6]at h;cases h
  rw[if_neg h6]at h
  refine⟨fun x=>by omega,fun x=>by omega,fun x=>by omega,fun _=>?_,h0⟩
  by_cases ca:wdT w 4=accessT
  ·rw[if_pos ca]at h
   have:=of_decide_eq_true h
   refine⟨by omega,by omega,fun x=>?_⟩
   rw[ca]at x
   exact absurd x Sk
  ·rw[if_neg ca]at h
   by_cases ctr:wdT w 4=trunkT
   ·rw[if_pos ctr]at h
    have:=of_decide_eq_true h
    exact⟨by omega,by omega,fun _=>this⟩
   ·rw[if_neg ctr]at h
    have:=of_decide_eq_true h
    exact⟨by omega,by omega,fun x=>absurd x ctr⟩
 rw[if_neg h2]at h
 by_cases h3:k=3∨k=4∨k=8∨k=9
 ·rw[if_pos h3]at h
  have:=of_decide_eq_true h
  exact⟨fun x=>by omega,fun _=>this,fun x=>by omega,fun x=>by omega,h0⟩
 rw[if_neg h3]at h
 by_cases h5:k=5
 ·rw[if_pos h5]at h
  have:=of_decide_eq_true h
  exact⟨fun x=>by omega,fun x=>by omega,fun _=>this,fun x=>by omega,h0⟩
 rw[if_neg h5]at h
 have:=of_decide_eq_true h
 exact⟨fun _=>this,fun x=>by omega,fun x=>by omega,fun x=>absurd x h2,h0⟩
theorem Wq (w:List ByteArray) (row:Int) (hw:w.length≤1000000) (hs:∀ s∈w,s.size≤40) (hne:0<w.length) (hk:kindL (wdT w 0)=1) (hmy:manyB 1 w=true) :
  Sy.Spec Tryz.prog 111 [.sl 1 Ac w,Aa row] [] (.tup [Ab (A2 w row).1,Aa (A2 w row).2]) []:=cT F111 Tryz.ntmps111 fun F hF=>by
 have hn0:(0:Int).toNat<w.length:=hne
 have f0:((w.length:Int) == 0)=false:=by rw[beq_eq_false_iff_ne];omega
 have hx0:w[(0:Int).toNat]'hn0=wdT w 0:=(Bm hne).symm
 have qk:Sy.Spec Tryz.prog 180 [Ac (w[(0:Int).toNat]'hn0)] [] (Aa 1) []:=by
  have:=Cn (wdT w 0)
  rw[hk]at this
  rw[hx0];exact this
 have qm:=Cm 1 qc w hw
 rw[hmy]at qm
 have hml:=Db hmy
 have hsT:A2 w row=if Ar (Ay w row).2≠0 then (lineZ,Ar (Ay w row).2) else ((Ay w row).1,0):=by
  rw[A2,if_neg]
  rintro (hh | hh)
  ·rw[hh]at hne;simp at hne
  ·rw[hk,hmy]at hh;cases hh
 have hfe:=Bi _ (B1 w row)
 have hl:w.length=4:=hml.1 qc
 have q1:=B8 w 1 (0:Int) j_ hw hs
 obtain ⟨e1,he1⟩:∃ e,Ae (0:Int) (!(Ak (wdT w 1))) 20=e:=⟨_,rfl⟩
 rw[he1]at q1
 have q2:=Iv w 2 e1 0 65535 j_ hw
 obtain ⟨e2,he2⟩:∃ e,Ae e1 (!(numR (wdT w 2) 0 65535).2) 21=e:=⟨_,rfl⟩
 rw[he2]at q2
 have q3:=Aai w 3 e2 j_ hw hs
 obtain ⟨e3,he3⟩:∃ e,Ae e2 (macE (wdT w 3)) 21=e:=⟨_,rfl⟩
 rw[he3]at q3
 have hR:Ay w row=({ lineZ with row:=row,kind:=1,dev:=wdT w 1,num:=(numR (wdT w 2) 0 65535).1,mac:=(macR (wdT w 3)).1 },[((!(Ak (wdT w 1))),20),((!(numR (wdT w 2) 0 65535).2),21),((macE (wdT w 3)),21)]):=by
  unfold Ay
  simp only[hk]
  rfl
 rw[hR]at hsT hfe
 have hfe:Ar _=e3:=hfe.trans (by
  show Ae (Ae (Ae ((0:Int)) (!(Ak (wdT w 1))) 20) (!(numR (wdT w 2) 0 65535).2) 21) (macE (wdT w 3)) 21=_
  rw[he1,he2,he3])
 rw[hfe]at hsT
 rw[hsT]
 generalize e3=eN at *
 refine T ?_
 refine C qk F180 ?_
 refine C qm F179 ?_
 refine C qk F180 ?_
 refine Am 9 (Av { lineZ with row:=row,kind:=1 }) rfl (.cons (.refl _) (.cons (.refl _) (.cons (.refl _) (.cons (.refl _) (.cons (.refl _) (.cons (.refl _) (.cons (.refl _) (.cons (.refl _) (.cons (.refl _) (.cons (.refl _) (.cons (.refl _) (.cons (.refl _) (.cons (.refl _) (.cons .nil (.cons .nil (.cons .nil (.cons .nil .nil))))))))))))))))) ?_
 refine T ?_
 refine X (Ah [(0,31)] (Aj q_ q_ F181) q1 q_ W q_ V) ?_
 refine X (Ad [(0,31)] q_ F183 q2 q_ W q_ V) ?_
 refine X (Ad [(0,31)] q_ F184 q3 q_ W q_ V) ?_
 cases hz:(eN != 0)
 ·have hz0:eN=0:=by simpa using hz
  rw[if_neg (by rw[hz0];simp)]
  refine T ?_
  exact D
 ·have hz0:eN≠0:=by simpa using hz
  rw[if_pos hz0]
  refine T ?_
  refine Am 4 (Av lineZ) q_ (.cons (.refl _) (.cons (.refl _) (.cons (.refl _) (.cons (.refl _) (.cons (.refl _) (.cons (.refl _) (.cons (.refl _) (.cons (.refl _) (.cons (.refl _) (.cons (.refl _) (.cons (.refl _) (.cons (.refl _) (.cons (.refl _) (.cons .nil (.cons .nil (.cons .nil (.cons .nil .nil))))))))))))))))) ?_
  refine T ?_
  exact D
theorem Wo (w:List ByteArray) (row:Int) (hw:w.length≤1000000) (hs:∀ s∈w,s.size≤40) (hne:0<w.length) (hk:kindL (wdT w 0)=3) (hmy:manyB 3 w=true) :
  Sy.Spec Tryz.prog 111 [.sl 1 Ac w,Aa row] [] (.tup [Ab (A2 w row).1,Aa (A2 w row).2]) []:=cT F111 Tryz.ntmps111 fun F hF=>by
 have hn0:(0:Int).toNat<w.length:=hne
 have f0:((w.length:Int) == 0)=false:=by rw[beq_eq_false_iff_ne];omega
 have hx0:w[(0:Int).toNat]'hn0=wdT w 0:=(Bm hne).symm
 have qk:Sy.Spec Tryz.prog 180 [Ac (w[(0:Int).toNat]'hn0)] [] (Aa 3) []:=by
  have:=Cn (wdT w 0)
  rw[hk]at this
  rw[hx0];exact this
 have qm:=Cm 3 qc w hw
 rw[hmy]at qm
 have hml:=Db hmy
 have hsT:A2 w row=if Ar (Ay w row).2≠0 then (lineZ,Ar (Ay w row).2) else ((Ay w row).1,0):=by
  rw[A2,if_neg]
  rintro (hh | hh)
  ·rw[hh]at hne;simp at hne
  ·rw[hk,hmy]at hh;cases hh
 have hfe:=Bi _ (B1 w row)
 have hl:w.length=5:=hml.2.1 qc
 have q1:=B8 w 1 (0:Int) j_ hw hs
 obtain ⟨e1,he1⟩:∃ e,Ae (0:Int) (!(Ak (wdT w 1))) 20=e:=⟨_,rfl⟩
 rw[he1]at q1
 have q2:=B8 w 2 e1 j_ hw hs
 obtain ⟨e2,he2⟩:∃ e,Ae e1 (!(Ak (wdT w 2))) 20=e:=⟨_,rfl⟩
 rw[he2]at q2
 have q3:=B8 w 3 e2 j_ hw hs
 obtain ⟨e3,he3⟩:∃ e,Ae e2 (!(Ak (wdT w 3))) 20=e:=⟨_,rfl⟩
 rw[he3]at q3
 have q4:=B8 w 4 e3 j_ hw hs
 obtain ⟨e4,he4⟩:∃ e,Ae e3 (!(Ak (wdT w 4))) 20=e:=⟨_,rfl⟩
 rw[he4]at q4
 have hR:Ay w row=({ lineZ with row:=row,kind:=3,dev:=wdT w 1,port:=wdT w 2,peer:=wdT w 3,far:=wdT w 4 },[((!(Ak (wdT w 1))),20),((!(Ak (wdT w 2))),20),((!(Ak (wdT w 3))),20),((!(Ak (wdT w 4))),20)]):=by
  unfold Ay
  simp only[hk]
  rfl
 rw[hR]at hsT hfe
 have hfe:Ar _=e4:=hfe.trans (by
  show Ae (Ae (Ae (Ae ((0:Int)) (!(Ak (wdT w 1))) 20) (!(Ak (wdT w 2))) 20) (!(Ak (wdT w 3))) 20) (!(Ak (wdT w 4))) 20=_
  rw[he1,he2,he3,he4])
 rw[hfe]at hsT
 rw[hsT]
 generalize e4=eN at *
 refine T ?_
 refine C qk F180 ?_
 refine C qm F179 ?_
 refine C qk F180 ?_
 refine Am 9 (Av { lineZ with row:=row,kind:=3 }) rfl (.cons (.refl _) (.cons (.refl _) (.cons (.refl _) (.cons (.refl _) (.cons (.refl _) (.cons (.refl _) (.cons (.refl _) (.cons (.refl _) (.cons (.refl _) (.cons (.refl _) (.cons (.refl _) (.cons (.refl _) (.cons (.refl _) (.cons .nil (.cons .nil (.cons .nil (.cons .nil .nil))))))))))))))))) ?_
 refine T ?_
 refine X (Ah [(0,31)] (Aj q_ q_ F181) q1 q_ W q_ V) ?_
 refine X (Ah [(0,31)] (Aj q_ q_ F181) q2 q_ W q_ V) ?_
 refine X (Ah [(0,31)] (Aj q_ q_ F181) q3 q_ W q_ V) ?_
 refine X (Ah [(0,31)] (Aj q_ q_ F181) q4 q_ W q_ V) ?_
 cases hz:(eN != 0)
 ·have hz0:eN=0:=by simpa using hz
  rw[if_neg (by rw[hz0];simp)]
  refine T ?_
  exact D
 ·have hz0:eN≠0:=by simpa using hz
  rw[if_pos hz0]
  refine T ?_
  refine Am 4 (Av lineZ) q_ (.cons (.refl _) (.cons (.refl _) (.cons (.refl _) (.cons (.refl _) (.cons (.refl _) (.cons (.refl _) (.cons (.refl _) (.cons (.refl _) (.cons (.refl _) (.cons (.refl _) (.cons (.refl _) (.cons (.refl _) (.cons (.refl _) (.cons .nil (.cons .nil (.cons .nil (.cons .nil .nil))))))))))))))))) ?_
  refine T ?_
  exact D
theorem Wn (w:List ByteArray) (row:Int) (hw:w.length≤1000000) (hs:∀ s∈w,s.size≤40) (hne:0<w.length) (hk:kindL (wdT w 0)=4) (hmy:manyB 4 w=true) :
  Sy.Spec Tryz.prog 111 [.sl 1 Ac w,Aa row] [] (.tup [Ab (A2 w row).1,Aa (A2 w row).2]) []:=cT F111 Tryz.ntmps111 fun F hF=>by
 have hn0:(0:Int).toNat<w.length:=hne
 have f0:((w.length:Int) == 0)=false:=by rw[beq_eq_false_iff_ne];omega
 have hx0:w[(0:Int).toNat]'hn0=wdT w 0:=(Bm hne).symm
 have qk:Sy.Spec Tryz.prog 180 [Ac (w[(0:Int).toNat]'hn0)] [] (Aa 4) []:=by
  have:=Cn (wdT w 0)
  rw[hk]at this
  rw[hx0];exact this
 have qm:=Cm 4 qc w hw
 rw[hmy]at qm
 have hml:=Db hmy
 have hsT:A2 w row=if Ar (Ay w row).2≠0 then (lineZ,Ar (Ay w row).2) else ((Ay w row).1,0):=by
  rw[A2,if_neg]
  rintro (hh | hh)
  ·rw[hh]at hne;simp at hne
  ·rw[hk,hmy]at hh;cases hh
 have hfe:=Bi _ (B1 w row)
 have hl:w.length=5:=hml.2.1 qc
 have q1:=B8 w 1 (0:Int) j_ hw hs
 obtain ⟨e1,he1⟩:∃ e,Ae (0:Int) (!(Ak (wdT w 1))) 20=e:=⟨_,rfl⟩
 rw[he1]at q1
 have q2:=Kh w 2 e1 j_ hw
 obtain ⟨e2,he2⟩:∃ e,Ae e1 (!(Bg (wdT w 2)).2) 21=e:=⟨_,rfl⟩
 rw[he2]at q2
 have q3:=Aai w 3 e2 j_ hw hs
 obtain ⟨e3,he3⟩:∃ e,Ae e2 (macE (wdT w 3)) 21=e:=⟨_,rfl⟩
 rw[he3]at q3
 have q4:=B8 w 4 e3 j_ hw hs
 obtain ⟨e4,he4⟩:∃ e,Ae e3 (!(Ak (wdT w 4))) 20=e:=⟨_,rfl⟩
 rw[he4]at q4
 have hR:Ay w row=({ lineZ with row:=row,kind:=4,dev:=wdT w 1,vlan:=(Bg (wdT w 2)).1,mac:=(macR (wdT w 3)).1,port:=wdT w 4 },[((!(Ak (wdT w 1))),20),((!(Bg (wdT w 2)).2),21),((macE (wdT w 3)),21),((!(Ak (wdT w 4))),20)]):=by
  unfold Ay
  simp only[hk]
  rfl
 rw[hR]at hsT hfe
 have hfe:Ar _=e4:=hfe.trans (by
  show Ae (Ae (Ae (Ae ((0:Int)) (!(Ak (wdT w 1))) 20) (!(Bg (wdT w 2)).2) 21) (macE (wdT w 3)) 21) (!(Ak (wdT w 4))) 20=_
  rw[he1,he2,he3,he4])
 rw[hfe]at hsT
 rw[hsT]
 generalize e4=eN at *
 refine T ?_
 refine C qk F180 ?_
 refine C qm F179 ?_
 refine C qk F180 ?_
 refine Am 9 (Av { lineZ with row:=row,kind:=4 }) rfl (.cons (.refl _) (.cons (.refl _) (.cons (.refl _) (.cons (.refl _) (.cons (.refl _) (.cons (.refl _) (.cons (.refl _) (.cons (.refl _) (.cons (.refl _) (.cons (.refl _) (.cons (.refl _) (.cons (.refl _) (.cons (.refl _) (.cons .nil (.cons .nil (.cons .nil (.cons .nil .nil))))))))))))))))) ?_
 refine T ?_
 refine X (Ah [(0,31)] (Aj q_ q_ F181) q1 q_ W q_ V) ?_
 refine X (Ah [(0,31)] (Aj q_ q_ F182) q2 q_ W q_ V) ?_
 refine X (Ad [(0,31)] q_ F184 q3 q_ W q_ V) ?_
 refine X (Ah [(0,31)] (Aj q_ q_ F181) q4 q_ W q_ V) ?_
 cases hz:(eN != 0)
 ·have hz0:eN=0:=by simpa using hz
  rw[if_neg (by rw[hz0];simp)]
  refine T ?_
  exact D
 ·have hz0:eN≠0:=by simpa using hz
  rw[if_pos hz0]
  refine T ?_
  refine Am 4 (Av lineZ) q_ (.cons (.refl _) (.cons (.refl _) (.cons (.refl _) (.cons (.refl _) (.cons (.refl _) (.cons (.refl _) (.cons (.refl _) (.cons (.refl _) (.cons (.refl _) (.cons (.refl _) (.cons (.refl _) (.cons (.refl _) (.cons (.refl _) (.cons .nil (.cons .nil (.cons .nil (.cons .nil .nil))))))))))))))))) ?_
  refine T ?_
  exact D
theorem Wl (w:List ByteArray) (row:Int) (hw:w.length≤1000000) (hs:∀ s∈w,s.size≤40) (hne:0<w.length) (hk:kindL (wdT w 0)=6) (hmy:manyB 6 w=true) :
  Sy.Spec Tryz.prog 111 [.sl 1 Ac w,Aa row] [] (.tup [Ab (A2 w row).1,Aa (A2 w row).2]) []:=cT F111 Tryz.ntmps111 fun F hF=>by
 have hn0:(0:Int).toNat<w.length:=hne
 have f0:((w.length:Int) == 0)=false:=by rw[beq_eq_false_iff_ne];omega
 have hx0:w[(0:Int).toNat]'hn0=wdT w 0:=(Bm hne).symm
 have qk:Sy.Spec Tryz.prog 180 [Ac (w[(0:Int).toNat]'hn0)] [] (Aa 6) []:=by
  have:=Cn (wdT w 0)
  rw[hk]at this
  rw[hx0];exact this
 have qm:=Cm 6 qc w hw
 rw[hmy]at qm
 have hml:=Db hmy
 have hsT:A2 w row=if Ar (Ay w row).2≠0 then (lineZ,Ar (Ay w row).2) else ((Ay w row).1,0):=by
  rw[A2,if_neg]
  rintro (hh | hh)
  ·rw[hh]at hne;simp at hne
  ·rw[hk,hmy]at hh;cases hh
 have hfe:=Bi _ (B1 w row)
 have hl:w.length=4:=hml.1 qc
 have q1:=B8 w 1 (0:Int) j_ hw hs
 obtain ⟨e1,he1⟩:∃ e,Ae (0:Int) (!(Ak (wdT w 1))) 20=e:=⟨_,rfl⟩
 rw[he1]at q1
 have q2:=Kh w 2 e1 j_ hw
 obtain ⟨e2,he2⟩:∃ e,Ae e1 (!(Bg (wdT w 2)).2) 21=e:=⟨_,rfl⟩
 rw[he2]at q2
 have q3:=Aah w 3 e2 j_ hw
 obtain ⟨e3,he3⟩:∃ e,Ae e2 (!(Jm (wdT w 3)).2) 21=e:=⟨_,rfl⟩
 rw[he3]at q3
 have hR:Ay w row=({ lineZ with row:=row,kind:=6,dev:=wdT w 1,vlan:=(Bg (wdT w 2)).1,num:=(Jm (wdT w 3)).1 },[((!(Ak (wdT w 1))),20),((!(Bg (wdT w 2)).2),21),((!(Jm (wdT w 3)).2),21)]):=by
  unfold Ay
  simp only[hk]
  rfl
 rw[hR]at hsT hfe
 have hfe:Ar _=e3:=hfe.trans (by
  show Ae (Ae (Ae ((0:Int)) (!(Ak (wdT w 1))) 20) (!(Bg (wdT w 2)).2) 21) (!(Jm (wdT w 3)).2) 21=_
  rw[he1,he2,he3])
 rw[hfe]at hsT
 rw[hsT]
 generalize e3=eN at *
 refine T ?_
 refine C qk F180 ?_
 refine C qm F179 ?_
 refine C qk F180 ?_
 refine Am 9 (Av { lineZ with row:=row,kind:=6 }) rfl (.cons (.refl _) (.cons (.refl _) (.cons (.refl _) (.cons (.refl _) (.cons (.refl _) (.cons (.refl _) (.cons (.refl _) (.cons (.refl _) (.cons (.refl _) (.cons (.refl _) (.cons (.refl _) (.cons (.refl _) (.cons (.refl _) (.cons .nil (.cons .nil (.cons .nil (.cons .nil .nil))))))))))))))))) ?_
 refine T ?_
 refine X (Ah [(0,31)] (Aj q_ q_ F181) q1 q_ W q_ V) ?_
 refine X (Ah [(0,31)] (Aj q_ q_ F182) q2 q_ W q_ V) ?_
 refine X (Ad [(0,31)] q_ F189 q3 q_ W q_ V) ?_
 cases hz:(eN != 0)
 ·have hz0:eN=0:=by simpa using hz
  rw[if_neg (by rw[hz0];simp)]
  refine T ?_
  exact D
 ·have hz0:eN≠0:=by simpa using hz
  rw[if_pos hz0]
  refine T ?_
  refine Am 4 (Av lineZ) q_ (.cons (.refl _) (.cons (.refl _) (.cons (.refl _) (.cons (.refl _) (.cons (.refl _) (.cons (.refl _) (.cons (.refl _) (.cons (.refl _) (.cons (.refl _) (.cons (.refl _) (.cons (.refl _) (.cons (.refl _) (.cons (.refl _) (.cons .nil (.cons .nil (.cons .nil (.cons .nil .nil))))))))))))))))) ?_
  refine T ?_
  exact D
theorem Wj (w:List ByteArray) (row:Int) (hw:w.length≤1000000) (hs:∀ s∈w,s.size≤40) (hne:0<w.length) (hk:kindL (wdT w 0)=8) (hmy:manyB 8 w=true) :
  Sy.Spec Tryz.prog 111 [.sl 1 Ac w,Aa row] [] (.tup [Ab (A2 w row).1,Aa (A2 w row).2]) []:=cT F111 Tryz.ntmps111 fun F hF=>by
 have hn0:(0:Int).toNat<w.length:=hne
 have f0:((w.length:Int) == 0)=false:=by rw[beq_eq_false_iff_ne];omega
 have hx0:w[(0:Int).toNat]'hn0=wdT w 0:=(Bm hne).symm
 have qk:Sy.Spec Tryz.prog 180 [Ac (w[(0:Int).toNat]'hn0)] [] (Aa 8) []:=by
  have:=Cn (wdT w 0)
  rw[hk]at this
  rw[hx0];exact this
 have qm:=Cm 8 qc w hw
 rw[hmy]at qm
 have hml:=Db hmy
 have hsT:A2 w row=if Ar (Ay w row).2≠0 then (lineZ,Ar (Ay w row).2) else ((Ay w row).1,0):=by
  rw[A2,if_neg]
  rintro (hh | hh)
  ·rw[hh]at hne;simp at hne
  ·rw[hk,hmy]at hh;cases hh
 have hfe:=Bi _ (B1 w row)
 have hl:w.length=5:=hml.2.1 qc
 have q1:=B8 w 1 (0:Int) j_ hw hs
 obtain ⟨e1,he1⟩:∃ e,Ae (0:Int) (!(Ak (wdT w 1))) 20=e:=⟨_,rfl⟩
 rw[he1]at q1
 have q2:=B8 w 2 e1 j_ hw hs
 obtain ⟨e2,he2⟩:∃ e,Ae e1 (!(Ak (wdT w 2))) 20=e:=⟨_,rfl⟩
 rw[he2]at q2
 have q3:=Mu w 3 e2 65535 j_ hw hs
 obtain ⟨e3,he3⟩:∃ e,Ae e2 (!(listR 65535 (wdT w 3)).2) 21=e:=⟨_,rfl⟩
 rw[he3]at q3
 have q4:=Mu w 4 e3 65535 j_ hw hs
 obtain ⟨e4,he4⟩:∃ e,Ae e3 (!(listR 65535 (wdT w 4)).2) 21=e:=⟨_,rfl⟩
 rw[he4]at q4
 have hR:Ay w row=({ lineZ with row:=row,kind:=8,dev:=wdT w 1,name:=wdT w 2,imports:=(listR 65535 (wdT w 3)).1,exports:=(listR 65535 (wdT w 4)).1 },[((!(Ak (wdT w 1))),20),((!(Ak (wdT w 2))),20),((!(listR 65535 (wdT w 3)).2),21),((!(listR 65535 (wdT w 4)).2),21)]):=by
  unfold Ay
  simp only[hk]
  rfl
 rw[hR]at hsT hfe
 have hfe:Ar _=e4:=hfe.trans (by
  show Ae (Ae (Ae (Ae ((0:Int)) (!(Ak (wdT w 1))) 20) (!(Ak (wdT w 2))) 20) (!(listR 65535 (wdT w 3)).2) 21) (!(listR 65535 (wdT w 4)).2) 21=_
  rw[he1,he2,he3,he4])
 rw[hfe]at hsT
 rw[hsT]
 generalize e4=eN at *
 refine T ?_
 refine C qk F180 ?_
 refine C qm F179 ?_
 refine C qk F180 ?_
 refine Am 9 (Av { lineZ with row:=row,kind:=8 }) rfl (.cons (.refl _) (.cons (.refl _) (.cons (.refl _) (.cons (.refl _) (.cons (.refl _) (.cons (.refl _) (.cons (.refl _) (.cons (.refl _) (.cons (.refl _) (.cons (.refl _) (.cons (.refl _) (.cons (.refl _) (.cons (.refl _) (.cons .nil (.cons .nil (.cons .nil (.cons .nil .nil))))))))))))))))) ?_
 refine T ?_
 refine X (Ah [(0,31)] (Aj q_ q_ F181) q1 q_ W q_ V) ?_
 refine X (Ah [(0,31)] (Aj q_ q_ F181) q2 q_ W q_ V) ?_
 refine X (Ad [(0,31)] q_ F191 q3 q_ W q_ V) ?_
 refine X (Ad [(0,31)] q_ F191 q4 q_ W q_ V) ?_
 cases hz:(eN != 0)
 ·have hz0:eN=0:=by simpa using hz
  rw[if_neg (by rw[hz0];simp)]
  refine T ?_
  exact D
 ·have hz0:eN≠0:=by simpa using hz
  rw[if_pos hz0]
  refine T ?_
  refine Am 4 (Av lineZ) q_ (.cons (.refl _) (.cons (.refl _) (.cons (.refl _) (.cons (.refl _) (.cons (.refl _) (.cons (.refl _) (.cons (.refl _) (.cons (.refl _) (.cons (.refl _) (.cons (.refl _) (.cons (.refl _) (.cons (.refl _) (.cons (.refl _) (.cons .nil (.cons .nil (.cons .nil (.cons .nil .nil))))))))))))))))) ?_
  refine T ?_
  exact D
theorem Wm (w:List ByteArray) (row:Int) (hw:w.length≤1000000) (hs:∀ s∈w,s.size≤40) (hne:0<w.length) (hk:kindL (wdT w 0)=5) (hmy:manyB 5 w=true) :
  Sy.Spec Tryz.prog 111 [.sl 1 Ac w,Aa row] [] (.tup [Ab (A2 w row).1,Aa (A2 w row).2]) []:=cT F111 Tryz.ntmps111 fun F hF=>by
 have hn0:(0:Int).toNat<w.length:=hne
 have f0:((w.length:Int) == 0)=false:=by rw[beq_eq_false_iff_ne];omega
 have hx0:w[(0:Int).toNat]'hn0=wdT w 0:=(Bm hne).symm
 have qk:Sy.Spec Tryz.prog 180 [Ac (w[(0:Int).toNat]'hn0)] [] (Aa 5) []:=by
  have:=Cn (wdT w 0)
  rw[hk]at this
  rw[hx0];exact this
 have qm:=Cm 5 qc w hw
 rw[hmy]at qm
 have hml:=Db hmy
 have hsT:A2 w row=if Ar (Ay w row).2≠0 then (lineZ,Ar (Ay w row).2) else ((Ay w row).1,0):=by
  rw[A2,if_neg]
  rintro (hh | hh)
  ·rw[hh]at hne;simp at hne
  ·rw[hk,hmy]at hh;cases hh
 have hfe:=Bi _ (B1 w row)
 have hl:w.length=3:=hml.2.2.1 rfl
 have q1:=B8 w 1 (0:Int) j_ hw hs
 obtain ⟨e1,he1⟩:∃ e,Ae (0:Int) (!(Ak (wdT w 1))) 20=e:=⟨_,rfl⟩
 rw[he1]at q1
 have qn:=E3 w 2 e1 j_ hw
 have hsz:(wdT w 2).size≤40:=by rw[Bm (by omega:2<w.length)];exact hs _ (List.getElem_mem _)
 have qa:=Lo (wdT w 2) j_
 have q2:=Dd w 3 e1 (!((Bn (wdT w 2)).2 && decide ((Bn (wdT w 2)).1≠0))) 21
 obtain ⟨e2,he2⟩:∃ e,Ae e1 (!((Bn (wdT w 2)).2 && decide ((Bn (wdT w 2)).1≠0))) 21=e:=⟨_,rfl⟩
 rw[he2]at q2
 have hR:Ay w row=({ lineZ with row:=row,kind:=5,dev:=wdT w 1,addr:=(Bn (wdT w 2)).1 },[((!(Ak (wdT w 1))),20),((!((Bn (wdT w 2)).2 && decide ((Bn (wdT w 2)).1≠0))),21)]):=by
  unfold Ay
  simp only[hk]
  rfl
 rw[hR]at hsT hfe
 have hfe:Ar _=e2:=hfe.trans (by
  show Ae (Ae ((0:Int)) (!(Ak (wdT w 1))) 20) (!((Bn (wdT w 2)).2 && decide ((Bn (wdT w 2)).1≠0))) 21=_
  rw[he1,he2])
 rw[hfe]at hsT
 rw[hsT]
 generalize e2=eN at *
 clear hR hsT hfe he2
 generalize Bn (wdT w 2)=rt at *
 obtain ⟨av,ok⟩:=rt
 dsimp only at qa q2 ⊢
 cases ok
 ·have q2:Sy.Spec Tryz.prog 185 [.ptr 0 0,Af true,Aa 21] (rdO w 3 e1) (.tup []) (rdO w 3 eN):=q2
  refine T ?_
  refine C qk F180 ?_
  refine C qm F179 ?_
  refine C qk F180 ?_
  refine Am 9 (Av { lineZ with row:=row,kind:=5 }) rfl (.cons (.refl _) (.cons (.refl _) (.cons (.refl _) (.cons (.refl _) (.cons (.refl _) (.cons (.refl _) (.cons (.refl _) (.cons (.refl _) (.cons (.refl _) (.cons (.refl _) (.cons (.refl _) (.cons (.refl _) (.cons (.refl _) (.cons .nil (.cons .nil (.cons .nil (.cons .nil .nil))))))))))))))))) ?_
  refine T ?_
  refine X (Ah [(0,31)] (Aj q_ q_ F181) q1 q_ W q_ V) ?_
  refine X (Ad [(0,31)] q_ F188 qn q_ W q_ V) ?_
  refine C qa F187 ?_
  refine X (Ad [(0,31)] q_ F185 q2 q_ W q_ V) ?_
  cases hz:(eN != 0)
  ·have hz0:eN=0:=by simpa using hz
   rw[if_neg (by rw[hz0];simp)]
   refine T ?_
   exact D
  ·have hz0:eN≠0:=by simpa using hz
   rw[if_pos hz0]
   refine T ?_
   refine Am 4 (Av lineZ) q_ (.cons (.refl _) (.cons (.refl _) (.cons (.refl _) (.cons (.refl _) (.cons (.refl _) (.cons (.refl _) (.cons (.refl _) (.cons (.refl _) (.cons (.refl _) (.cons (.refl _) (.cons (.refl _) (.cons (.refl _) (.cons (.refl _) (.cons .nil (.cons .nil (.cons .nil (.cons .nil .nil))))))))))))))))) ?_
   refine T ?_
   exact D
 ·have hb:(!(true && decide (av≠0)))=(av == 0):=by
   by_cases h:av=0
   ·rw[h];rfl
   ·rw[decide_eq_true h,beq_eq_false_iff_ne.2 h];rfl
  rw[hb]at q2
  refine T ?_
  refine C qk F180 ?_
  refine C qm F179 ?_
  refine C qk F180 ?_
  refine Am 9 (Av { lineZ with row:=row,kind:=5 }) rfl (.cons (.refl _) (.cons (.refl _) (.cons (.refl _) (.cons (.refl _) (.cons (.refl _) (.cons (.refl _) (.cons (.refl _) (.cons (.refl _) (.cons (.refl _) (.cons (.refl _) (.cons (.refl _) (.cons (.refl _) (.cons (.refl _) (.cons .nil (.cons .nil (.cons .nil (.cons .nil .nil))))))))))))))))) ?_
  refine T ?_
  refine X (Ah [(0,31)] (Aj q_ q_ F181) q1 q_ W q_ V) ?_
  refine X (Ad [(0,31)] q_ F188 qn q_ W q_ V) ?_
  refine C qa F187 ?_
  refine X (Ad [(0,31)] q_ F185 q2 q_ W q_ V) ?_
  cases hz:(eN != 0)
  ·have hz0:eN=0:=by simpa using hz
   rw[if_neg (by rw[hz0];simp)]
   refine T ?_
   exact D
  ·have hz0:eN≠0:=by simpa using hz
   rw[if_pos hz0]
   refine T ?_
   refine Am 4 (Av lineZ) q_ (.cons (.refl _) (.cons (.refl _) (.cons (.refl _) (.cons (.refl _) (.cons (.refl _) (.cons (.refl _) (.cons (.refl _) (.cons (.refl _) (.cons (.refl _) (.cons (.refl _) (.cons (.refl _) (.cons (.refl _) (.cons (.refl _) (.cons .nil (.cons .nil (.cons .nil (.cons .nil .nil))))))))))))))))) ?_
   refine T ?_
   exact D
theorem Wk (w:List ByteArray) (row:Int) (hw:w.length≤1000000) (hs:∀ s∈w,s.size≤40) (hne:0<w.length) (hk:kindL (wdT w 0)=7) (hmy:manyB 7 w=true) :
  Sy.Spec Tryz.prog 111 [.sl 1 Ac w,Aa row] [] (.tup [Ab (A2 w row).1,Aa (A2 w row).2]) []:=cT F111 Tryz.ntmps111 fun F hF=>by
 have hn0:(0:Int).toNat<w.length:=hne
 have f0:((w.length:Int) == 0)=false:=by rw[beq_eq_false_iff_ne];omega
 have hx0:w[(0:Int).toNat]'hn0=wdT w 0:=(Bm hne).symm
 have qk:Sy.Spec Tryz.prog 180 [Ac (w[(0:Int).toNat]'hn0)] [] (Aa 7) []:=by
  have:=Cn (wdT w 0)
  rw[hk]at this
  rw[hx0];exact this
 have qm:=Cm 7 qc w hw
 rw[hmy]at qm
 have hml:=Db hmy
 have hsT:A2 w row=if Ar (Ay w row).2≠0 then (lineZ,Ar (Ay w row).2) else ((Ay w row).1,0):=by
  rw[A2,if_neg]
  rintro (hh | hh)
  ·rw[hh]at hne;simp at hne
  ·rw[hk,hmy]at hh;cases hh
 have hfe:=Bi _ (B1 w row)
 have hl:w.length=4:=hml.1 qc
 have q1:=B8 w 1 (0:Int) j_ hw hs
 obtain ⟨e1,he1⟩:∃ e,Ae (0:Int) (!(Ak (wdT w 1))) 20=e:=⟨_,rfl⟩
 rw[he1]at q1
 have q2:=Aah w 2 e1 j_ hw
 obtain ⟨e2,he2⟩:∃ e,Ae e1 (!(Jm (wdT w 2)).2) 21=e:=⟨_,rfl⟩
 rw[he2]at q2
 have qn:=E3 w 3 e2 j_ hw
 have hsz:(wdT w 3).size≤40:=by rw[Bm (by omega:3<w.length)];exact hs _ (List.getElem_mem _)
 have qa:=Qi (wdT w 3) j_
 have hpos:(Cg (wdT w 3)).2=true→0<(Cg (wdT w 3)).1.length:=fun h=>by
  have hp:=Ab0 h
  rw[Cg,C3]at hp ⊢
  have:=(Ox _ _ _ _ hp List.Pairwise.nil qc).2.2.1
  rw[this,I9];simp
 have q3:=Dd w 4 e2 (!((Cg (wdT w 3)).2 && decide ((Cg (wdT w 3)).1.head? ≠ some 0))) 21
 obtain ⟨e3,he3⟩:∃ e,Ae e2 (!((Cg (wdT w 3)).2 && decide ((Cg (wdT w 3)).1.head? ≠ some 0))) 21=e:=⟨_,rfl⟩
 rw[he3]at q3
 have hR:Ay w row=({ lineZ with row:=row,kind:=7,dev:=wdT w 1,num:=(Jm (wdT w 2)).1,addrs:=(Cg (wdT w 3)).1 },[((!(Ak (wdT w 1))),20),((!(Jm (wdT w 2)).2),21),((!((Cg (wdT w 3)).2 && decide ((Cg (wdT w 3)).1.head? ≠ some 0))),21)]):=by
  unfold Ay
  simp only[hk]
  rfl
 rw[hR]at hsT hfe
 have hfe:Ar _=e3:=hfe.trans (by
  show Ae (Ae (Ae ((0:Int)) (!(Ak (wdT w 1))) 20) (!(Jm (wdT w 2)).2) 21) (!((Cg (wdT w 3)).2 && decide ((Cg (wdT w 3)).1.head? ≠ some 0))) 21=_
  rw[he1,he2,he3])
 rw[hfe]at hsT
 rw[hsT]
 generalize e3=eN at *
 clear hR hsT hfe he3
 generalize Cg (wdT w 3)=rt at *
 obtain ⟨av,ok⟩:=rt
 dsimp only at qa q3 hpos ⊢
 cases ok
 ·have q3:Sy.Spec Tryz.prog 185 [.ptr 0 0,Af true,Aa 21] (rdO w 4 e2) (.tup []) (rdO w 4 eN):=q3
  refine T ?_
  refine C qk F180 ?_
  refine C qm F179 ?_
  refine C qk F180 ?_
  refine Am 9 (Av { lineZ with row:=row,kind:=7 }) rfl (.cons (.refl _) (.cons (.refl _) (.cons (.refl _) (.cons (.refl _) (.cons (.refl _) (.cons (.refl _) (.cons (.refl _) (.cons (.refl _) (.cons (.refl _) (.cons (.refl _) (.cons (.refl _) (.cons (.refl _) (.cons (.refl _) (.cons .nil (.cons .nil (.cons .nil (.cons .nil .nil))))))))))))))))) ?_
  refine T ?_
  refine X (Ah [(0,31)] (Aj q_ q_ F181) q1 q_ W q_ V) ?_
  refine X (Ad [(0,31)] q_ F189 q2 q_ W q_ V) ?_
  refine X (Ad [(0,31)] q_ F188 qn q_ W q_ V) ?_
  refine C qa F190 ?_
  refine X (Ad [(0,31)] q_ F185 q3 q_ W q_ V) ?_
  cases hz:(eN != 0)
  ·have hz0:eN=0:=by simpa using hz
   rw[if_neg (by rw[hz0];simp)]
   refine T ?_
   exact D
  ·have hz0:eN≠0:=by simpa using hz
   rw[if_pos hz0]
   refine T ?_
   refine Am 4 (Av lineZ) q_ (.cons (.refl _) (.cons (.refl _) (.cons (.refl _) (.cons (.refl _) (.cons (.refl _) (.cons (.refl _) (.cons (.refl _) (.cons (.refl _) (.cons (.refl _) (.cons (.refl _) (.cons (.refl _) (.cons (.refl _) (.cons (.refl _) (.cons .nil (.cons .nil (.cons .nil (.cons .nil .nil))))))))))))))))) ?_
   refine T ?_
   exact D
 ·have h0:(0:Int).toNat<av.length:=hpos rfl
  have hb:(!(true && decide (av.head? ≠ some 0)))=(av[(0:Int).toNat]'h0 == 0):=by
   cases av with
   | nil=>exact absurd h0 qd
   | cons a r =>
    show (!(true && decide (some a≠some 0)))=(a == 0)
    by_cases h:a=0
    ·rw[h];rfl
    ·rw[beq_eq_false_iff_ne.2 h,decide_eq_true (by simpa using h)];rfl
  rw[hb]at q3
  refine T ?_
  refine C qk F180 ?_
  refine C qm F179 ?_
  refine C qk F180 ?_
  refine Am 9 (Av { lineZ with row:=row,kind:=7 }) rfl (.cons (.refl _) (.cons (.refl _) (.cons (.refl _) (.cons (.refl _) (.cons (.refl _) (.cons (.refl _) (.cons (.refl _) (.cons (.refl _) (.cons (.refl _) (.cons (.refl _) (.cons (.refl _) (.cons (.refl _) (.cons (.refl _) (.cons .nil (.cons .nil (.cons .nil (.cons .nil .nil))))))))))))))))) ?_
  refine T ?_
  refine X (Ah [(0,31)] (Aj q_ q_ F181) q1 q_ W q_ V) ?_
  refine X (Ad [(0,31)] q_ F189 q2 q_ W q_ V) ?_
  refine X (Ad [(0,31)] q_ F188 qn q_ W q_ V) ?_
  refine C qa F190 ?_
  refine X (Ad [(0,31)] q_ F185 q3 q_ W q_ V) ?_
  cases hz:(eN != 0)
  ·have hz0:eN=0:=by simpa using hz
   rw[if_neg (by rw[hz0];simp)]
   refine T ?_
   exact D
  ·have hz0:eN≠0:=by simpa using hz
   rw[if_pos hz0]
   refine T ?_
   refine Am 4 (Av lineZ) q_ (.cons (.refl _) (.cons (.refl _) (.cons (.refl _) (.cons (.refl _) (.cons (.refl _) (.cons (.refl _) (.cons (.refl _) (.cons (.refl _) (.cons (.refl _) (.cons (.refl _) (.cons (.refl _) (.cons (.refl _) (.cons (.refl _) (.cons .nil (.cons .nil (.cons .nil (.cons .nil .nil))))))))))))))))) ?_
   refine T ?_
   exact D
theorem Su (s:ByteArray):∃ m:Nat,(prefixR s).1.1=m∧m<4294967296:=by
 rw[prefixR]
 split
 ·exact⟨0,q_,by decide⟩
 ·have h1:=Vx (cutT 47 s).1
  have h2:=X0 (cutT 47 s).1
  exact⟨(Bn (cutT 47 s).1).1.toNat,(Int.toNat_of_nonneg h1).symm,by omega⟩
theorem Wi (w:List ByteArray) (row:Int) (hw:w.length≤1000000) (hs:∀ s∈w,s.size≤40) (hne:0<w.length) (hk:kindL (wdT w 0)=9) (hmy:manyB 9 w=true) :
  Sy.Spec Tryz.prog 111 [.sl 1 Ac w,Aa row] [] (.tup [Ab (A2 w row).1,Aa (A2 w row).2]) []:=cT F111 Tryz.ntmps111 fun F hF=>by
 have hn0:(0:Int).toNat<w.length:=hne
 have f0:((w.length:Int) == 0)=false:=by rw[beq_eq_false_iff_ne];omega
 have hx0:w[(0:Int).toNat]'hn0=wdT w 0:=(Bm hne).symm
 have qk:Sy.Spec Tryz.prog 180 [Ac (w[(0:Int).toNat]'hn0)] [] (Aa 9) []:=by
  have:=Cn (wdT w 0)
  rw[hk]at this
  rw[hx0];exact this
 have qm:=Cm 9 qc w hw
 rw[hmy]at qm
 have hml:=Db hmy
 have hsT:A2 w row=if Ar (Ay w row).2≠0 then (lineZ,Ar (Ay w row).2) else ((Ay w row).1,0):=by
  rw[A2,if_neg]
  rintro (hh | hh)
  ·rw[hh]at hne;simp at hne
  ·rw[hk,hmy]at hh;cases hh
 have hfe:=Bi _ (B1 w row)
 have hl:w.length=5:=hml.2.1 qc
 have q1:=B8 w 1 (0:Int) j_ hw hs
 obtain ⟨e1,he1⟩:∃ e,Ae (0:Int) (!(Ak (wdT w 1))) 20=e:=⟨_,rfl⟩
 rw[he1]at q1
 have q2:=Kh w 2 e1 j_ hw
 obtain ⟨e2,he2⟩:∃ e,Ae e1 (!(Bg (wdT w 2)).2) 21=e:=⟨_,rfl⟩
 rw[he2]at q2
 have q3:=B8 w 3 e2 j_ hw hs
 obtain ⟨e3,he3⟩:∃ e,Ae e2 (!(Ak (wdT w 3))) 20=e:=⟨_,rfl⟩
 rw[he3]at q3
 have qn:=E3 w 4 e3 j_ hw
 have hsz:(wdT w 4).size≤40:=by rw[Bm (by omega:4<w.length)];exact hs _ (List.getElem_mem _)
 have qa:=Vy (wdT w 4) j_
 have hrg:=Su (wdT w 4)
 have q4:=Dd w 5 e3 (!((prefixR (wdT w 4)).2 && subnetB (prefixR (wdT w 4)).1.1 (prefixR (wdT w 4)).1.2)) 21
 obtain ⟨e4,he4⟩:∃ e,Ae e3 (!((prefixR (wdT w 4)).2 && subnetB (prefixR (wdT w 4)).1.1 (prefixR (wdT w 4)).1.2)) 21=e:=⟨_,rfl⟩
 rw[he4]at q4
 have hR:Ay w row=({ lineZ with row:=row,kind:=9,dev:=wdT w 1,vlan:=(Bg (wdT w 2)).1,name:=wdT w 3,addr:=(prefixR (wdT w 4)).1.1,bits:=(prefixR (wdT w 4)).1.2 },[((!(Ak (wdT w 1))),20),((!(Bg (wdT w 2)).2),21),((!(Ak (wdT w 3))),20),((!((prefixR (wdT w 4)).2 && subnetB (prefixR (wdT w 4)).1.1 (prefixR (wdT w 4)).1.2)),21)]):=by
  unfold Ay
  simp only[hk]
  rfl
 rw[hR]at hsT hfe
 have hfe:Ar _=e4:=hfe.trans (by
  show Ae (Ae (Ae (Ae ((0:Int)) (!(Ak (wdT w 1))) 20) (!(Bg (wdT w 2)).2) 21) (!(Ak (wdT w 3))) 20) (!((prefixR (wdT w 4)).2 && subnetB (prefixR (wdT w 4)).1.1 (prefixR (wdT w 4)).1.2)) 21=_
  rw[he1,he2,he3,he4])
 rw[hfe]at hsT
 rw[hsT]
 generalize e4=eN at *
 clear hR hsT hfe he4
 obtain ⟨m,hm1,hm2⟩:=hrg
 generalize prefixR (wdT w 4)=rt at *
 obtain ⟨⟨av,bv⟩,ok⟩:=rt
 dsimp only at qa q4 hm1 ⊢
 subst hm1
 have qs:=Lt m bv hm2
 generalize subnetB (m:Int) bv=sb at *
 cases ok
 ·have q4:Sy.Spec Tryz.prog 185 [.ptr 0 0,Af true,Aa 21] (rdO w 5 e3) (.tup []) (rdO w 5 eN):=q4
  refine T ?_
  refine C qk F180 ?_
  refine C qm F179 ?_
  refine C qk F180 ?_
  refine Am 9 (Av { lineZ with row:=row,kind:=9 }) rfl (.cons (.refl _) (.cons (.refl _) (.cons (.refl _) (.cons (.refl _) (.cons (.refl _) (.cons (.refl _) (.cons (.refl _) (.cons (.refl _) (.cons (.refl _) (.cons (.refl _) (.cons (.refl _) (.cons (.refl _) (.cons (.refl _) (.cons .nil (.cons .nil (.cons .nil (.cons .nil .nil))))))))))))))))) ?_
  refine T ?_
  refine X (Ah [(0,31)] (Aj q_ q_ F181) q1 q_ W q_ V) ?_
  refine X (Ah [(0,31)] (Aj q_ q_ F182) q2 q_ W q_ V) ?_
  refine X (Ah [(0,31)] (Aj q_ q_ F181) q3 q_ W q_ V) ?_
  refine X (Ad [(0,31)] q_ F188 qn q_ W q_ V) ?_
  refine C qa F192 ?_
  refine X (Ad [(0,31)] q_ F185 q4 q_ W q_ V) ?_
  cases hz:(eN != 0)
  ·have hz0:eN=0:=by simpa using hz
   rw[if_neg (by rw[hz0];simp)]
   refine T ?_
   exact D
  ·have hz0:eN≠0:=by simpa using hz
   rw[if_pos hz0]
   refine T ?_
   refine Am 4 (Av lineZ) q_ (.cons (.refl _) (.cons (.refl _) (.cons (.refl _) (.cons (.refl _) (.cons (.refl _) (.cons (.refl _) (.cons (.refl _) (.cons (.refl _) (.cons (.refl _) (.cons (.refl _) (.cons (.refl _) (.cons (.refl _) (.cons (.refl _) (.cons .nil (.cons .nil (.cons .nil (.cons .nil .nil))))))))))))))))) ?_
   refine T ?_
   exact D
 ·have hb:(!(true && sb))=!sb:=rfl
  rw[hb]at q4
  refine T ?_
  refine C qk F180 ?_
  refine C qm F179 ?_
  refine C qk F180 ?_
  refine Am 9 (Av { lineZ with row:=row,kind:=9 }) rfl (.cons (.refl _) (.cons (.refl _) (.cons (.refl _) (.cons (.refl _) (.cons (.refl _) (.cons (.refl _) (.cons (.refl _) (.cons (.refl _) (.cons (.refl _) (.cons (.refl _) (.cons (.refl _) (.cons (.refl _) (.cons (.refl _) (.cons .nil (.cons .nil (.cons .nil (.cons .nil .nil))))))))))))))))) ?_
  refine T ?_
  refine X (Ah [(0,31)] (Aj q_ q_ F181) q1 q_ W q_ V) ?_
  refine X (Ah [(0,31)] (Aj q_ q_ F182) q2 q_ W q_ V) ?_
  refine X (Ah [(0,31)] (Aj q_ q_ F181) q3 q_ W q_ V) ?_
  refine X (Ad [(0,31)] q_ F188 qn q_ W q_ V) ?_
  refine C qa F192 ?_
  refine C qs F193 ?_
  refine X (Ad [(0,31)] q_ F185 q4 q_ W q_ V) ?_
  cases hz:(eN != 0)
  ·have hz0:eN=0:=by simpa using hz
   rw[if_neg (by rw[hz0];simp)]
   refine T ?_
   exact D
  ·have hz0:eN≠0:=by simpa using hz
   rw[if_pos hz0]
   refine T ?_
   refine Am 4 (Av lineZ) q_ (.cons (.refl _) (.cons (.refl _) (.cons (.refl _) (.cons (.refl _) (.cons (.refl _) (.cons (.refl _) (.cons (.refl _) (.cons (.refl _) (.cons (.refl _) (.cons (.refl _) (.cons (.refl _) (.cons (.refl _) (.cons (.refl _) (.cons .nil (.cons .nil (.cons .nil (.cons .nil .nil))))))))))))))))) ?_
   refine T ?_
   exact D
theorem Wp (w:List ByteArray) (row:Int) (hw:w.length≤1000000) (hs:∀ s∈w,s.size≤40) (hne:0<w.length) (hk:kindL (wdT w 0)=2) (hmy:manyB 2 w=true) :
  Sy.Spec Tryz.prog 111 [.sl 1 Ac w,Aa row] [] (.tup [Ab (A2 w row).1,Aa (A2 w row).2]) []:=cT F111 Tryz.ntmps111 fun F hF=>by
 have hn0:(0:Int).toNat<w.length:=hne
 have f0:((w.length:Int) == 0)=false:=by rw[beq_eq_false_iff_ne];omega
 have hx0:w[(0:Int).toNat]'hn0=wdT w 0:=(Bm hne).symm
 have qk:Sy.Spec Tryz.prog 180 [Ac (w[(0:Int).toNat]'hn0)] [] (Aa 2) []:=by
  have:=Cn (wdT w 0)
  rw[hk]at this
  rw[hx0];exact this
 have qm:=Cm 2 qc w hw
 rw[hmy]at qm
 have hml:=Db hmy
 have hsT:A2 w row=if Ar (Ay w row).2≠0 then (lineZ,Ar (Ay w row).2) else ((Ay w row).1,0):=by
  rw[A2,if_neg]
  rintro (hh | hh)
  ·rw[hh]at hne;simp at hne
  ·rw[hk,hmy]at hh;cases hh
 have hfe:=Bi _ (B1 w row)
 have hl:6≤w.length∧w.length≤7∧(wdT w 4=trunkT→w.length=7):=hml.2.2.2.1 rfl
 have q1:=B8 w 1 (0:Int) j_ hw hs
 obtain ⟨e1,he1⟩:∃ e,Ae (0:Int) (!(Ak (wdT w 1))) 20=e:=⟨_,rfl⟩
 rw[he1]at q1
 have q2:=B8 w 2 e1 j_ hw hs
 obtain ⟨e2,he2⟩:∃ e,Ae e1 (!(Ak (wdT w 2))) 20=e:=⟨_,rfl⟩
 rw[he2]at q2
 have q3:=Iv w 3 e2 1 65535 j_ hw
 obtain ⟨e3,he3⟩:∃ e,Ae e2 (!(numR (wdT w 3) 1 65535).2) 21=e:=⟨_,rfl⟩
 rw[he3]at q3
 have q4:=Dd w 4 e3 (decide (wdT w 4≠accessT) && decide (wdT w 4≠trunkT)) 20
 obtain ⟨e4,he4⟩:∃ e,Ae e3 (decide (wdT w 4≠accessT) && decide (wdT w 4≠trunkT)) 20=e:=⟨_,rfl⟩
 rw[he4]at q4
 have qp:=Abz w e4 { lineZ with row:=row,kind:=2,dev:=wdT w 1,port:=wdT w 2,cost:=(numR (wdT w 3) 1 65535).1 } hw hs j_ (fun x=>by
  have h6:w.length=6:=by
   have hm3:=hmy
   rw[manyB,if_neg qc,if_pos rfl,if_neg j_,if_pos x]at hm3
   exact of_decide_eq_true hm3
  omega) (fun x=>by have:=hl.2.2 x;omega) ⟨rfl,rfl⟩
 have hR:Ay w row=({ lineZ with row:=row,kind:=2,dev:=wdT w 1,port:=wdT w 2,cost:=(numR (wdT w 3) 1 65535).1,vlan:=(Cw w).1,tagged:=(Cw w).2.1 },
   [((!(Ak (wdT w 1))),20),((!(Ak (wdT w 2))),20),((!(numR (wdT w 3) 1 65535).2),21),((decide (wdT w 4≠accessT) && decide (wdT w 4≠trunkT)),20)]++(Cw w).2.2++[(!(membersB (Cw w).1 (Cw w).2.1),21)]):=by
  unfold Ay
  simp only[hk]
  rfl
 rw[hR]at hsT hfe
 have hfe:Ar _=Ec e4 ((Cw w).2.2++[(!(membersB (Cw w).1 (Cw w).2.1),21)]):=hfe.trans (by
  rw[Iy,Iy,Iy]
  congr 2
  show Ae (Ae (Ae (Ae ((0:Int)) (!(Ak (wdT w 1))) 20) (!(Ak (wdT w 2))) 20) (!(numR (wdT w 3) 1 65535).2) 21) (decide (wdT w 4≠accessT) && decide (wdT w 4≠trunkT)) 20=_
  rw[he1,he2,he3,he4])
 rw[hfe]at hsT
 rw[hsT]
 clear hR hsT hfe he4
 dsimp only at qp ⊢
 generalize Ec e4 ((Cw w).2.2++[(!(membersB (Cw w).1 (Cw w).2.1),21)])=eN at *
 generalize Cw w=pr at *
 have hn4:(4:Int).toNat<w.length:=by show 4<w.length;omega
 have hx4:w[(4:Int).toNat]'hn4=wdT w 4:=(Bm j_).symm
 by_cases ca:wdT w 4=accessT
 ·have g1:(!(w[(4:Int).toNat]'hn4 == (⟨#[97,99,99,101,115,115]⟩:ByteArray)))=false:=Mz (by rw[hx4];exact ca)
  have q4:Sy.Spec Tryz.prog 185 [.ptr 0 0,Af false,Aa 20] (rdO w 4 e3) (.tup []) (rdO w 4 e4):=by
   rw[decide_eq_false (fun x=>x ca)]at q4;exact q4
  refine T ?_
  refine C qk F180 ?_
  refine C qm F179 ?_
  refine C qk F180 ?_
  refine Am 9 (Av { lineZ with row:=row,kind:=2 }) rfl (.cons (.refl _) (.cons (.refl _) (.cons (.refl _) (.cons (.refl _) (.cons (.refl _) (.cons (.refl _) (.cons (.refl _) (.cons (.refl _) (.cons (.refl _) (.cons (.refl _) (.cons (.refl _) (.cons (.refl _) (.cons (.refl _) (.cons .nil (.cons .nil (.cons .nil (.cons .nil .nil))))))))))))))))) ?_
  refine T ?_
  refine X (Ah [(0,31)] (Aj q_ q_ F181) q1 q_ W q_ V) ?_
  refine X (Ah [(0,31)] (Aj q_ q_ F181) q2 q_ W q_ V) ?_
  refine X (Ad [(0,31)] q_ F183 q3 q_ W q_ V) ?_
  refine X (Ad [(0,31)] q_ F185 q4 q_ W q_ V) ?_
  refine X (Ad [(0,31),(1,9)] q_ F186 qp q_ W q_ V) ?_
  cases hz:(eN != 0)
  ·have hz0:eN=0:=by simpa using hz
   rw[if_neg (by rw[hz0];simp)]
   refine T ?_
   exact D
  ·have hz0:eN≠0:=by simpa using hz
   rw[if_pos hz0]
   refine T ?_
   refine Am 4 (Av lineZ) q_ (.cons (.refl _) (.cons (.refl _) (.cons (.refl _) (.cons (.refl _) (.cons (.refl _) (.cons (.refl _) (.cons (.refl _) (.cons (.refl _) (.cons (.refl _) (.cons (.refl _) (.cons (.refl _) (.cons (.refl _) (.cons (.refl _) (.cons .nil (.cons .nil (.cons .nil (.cons .nil .nil))))))))))))))))) ?_
   refine T ?_
   exact D
 ·have g1:(!(w[(4:Int).toNat]'hn4 == (⟨#[97,99,99,101,115,115]⟩:ByteArray)))=true:=Tq (by rw[hx4];exact ca)
  have hb:(decide (wdT w 4≠accessT) && decide (wdT w 4≠trunkT))=!(w[(4:Int).toNat]'hn4 == (⟨#[116,114,117,110,107]⟩:ByteArray)):=by
   rw[decide_eq_true ca,Bool.true_and,hx4]
   show decide (wdT w 4≠trunkT)=!(wdT w 4 == trunkT)
   by_cases cr:wdT w 4=trunkT
   ·rw[Mz cr,decide_eq_false (fun x:wdT w 4≠trunkT=>x cr)]
   ·rw[Tq cr,decide_eq_true cr]
  rw[hb]at q4
  refine T ?_
  refine C qk F180 ?_
  refine C qm F179 ?_
  refine C qk F180 ?_
  refine Am 9 (Av { lineZ with row:=row,kind:=2 }) rfl (.cons (.refl _) (.cons (.refl _) (.cons (.refl _) (.cons (.refl _) (.cons (.refl _) (.cons (.refl _) (.cons (.refl _) (.cons (.refl _) (.cons (.refl _) (.cons (.refl _) (.cons (.refl _) (.cons (.refl _) (.cons (.refl _) (.cons .nil (.cons .nil (.cons .nil (.cons .nil .nil))))))))))))))))) ?_
  refine T ?_
  refine X (Ah [(0,31)] (Aj q_ q_ F181) q1 q_ W q_ V) ?_
  refine X (Ah [(0,31)] (Aj q_ q_ F181) q2 q_ W q_ V) ?_
  refine X (Ad [(0,31)] q_ F183 q3 q_ W q_ V) ?_
  refine X (Ad [(0,31)] q_ F185 q4 q_ W q_ V) ?_
  refine X (Ad [(0,31),(1,9)] q_ F186 qp q_ W q_ V) ?_
  cases hz:(eN != 0)
  ·have hz0:eN=0:=by simpa using hz
   rw[if_neg (by rw[hz0];simp)]
   refine T ?_
   exact D
  ·have hz0:eN≠0:=by simpa using hz
   rw[if_pos hz0]
   refine T ?_
   refine Am 4 (Av lineZ) q_ (.cons (.refl _) (.cons (.refl _) (.cons (.refl _) (.cons (.refl _) (.cons (.refl _) (.cons (.refl _) (.cons (.refl _) (.cons (.refl _) (.cons (.refl _) (.cons (.refl _) (.cons (.refl _) (.cons (.refl _) (.cons (.refl _) (.cons .nil (.cons .nil (.cons .nil (.cons .nil .nil))))))))))))))))) ?_
   refine T ?_
   exact D
theorem Yu (w:List ByteArray) (row:Int) (hw:w.length≤1000000) (hs:∀ s∈w,s.size≤40):Sy.Spec Tryz.prog 111 [.sl 1 Ac w,Aa row] [] (.tup [Ab (A2 w row).1,Aa (A2 w row).2]) []:=by
 by_cases hne:0<w.length
 ·cases hmy:manyB (kindL (wdT w 0)) w with
  | true =>
   have hr:=L7 (wdT w 0)
   have h0:=(Db hmy).2.2.2.2
   rcases (by omega:kindL (wdT w 0)=1∨kindL (wdT w 0)=2∨kindL (wdT w 0)=3∨kindL (wdT w 0)=4∨kindL (wdT w 0)=5∨kindL (wdT w 0)=6∨kindL (wdT w 0)=7∨kindL (wdT w 0)=8∨kindL (wdT w 0)=9) with h | h | h | h | h | h | h | h | h
   ·exact Wq w row hw hs hne h (by rw[h]at hmy;exact hmy)
   ·exact Wp w row hw hs hne h (by rw[h]at hmy;exact hmy)
   ·exact Wo w row hw hs hne h (by rw[h]at hmy;exact hmy)
   ·exact Wn w row hw hs hne h (by rw[h]at hmy;exact hmy)
   ·exact Wm w row hw hs hne h (by rw[h]at hmy;exact hmy)
   ·exact Wl w row hw hs hne h (by rw[h]at hmy;exact hmy)
   ·exact Wk w row hw hs hne h (by rw[h]at hmy;exact hmy)
   ·exact Wj w row hw hs hne h (by rw[h]at hmy;exact hmy)
   ·exact Wi w row hw hs hne h (by rw[h]at hmy;exact hmy)
  | false =>
   have hsT:A2 w row=(lineZ,22):=by rw[A2,if_pos (.inr hmy)]
   rw[hsT]
   refine He Γ hm 100 F111 Tryz.ntmps111 q_ fun F hF=>by
    have hn0:(0:Int).toNat<w.length:=hne
    have f0:((w.length:Int) == 0)=false:=by rw[beq_eq_false_iff_ne];omega
    have hx0:w[(0:Int).toNat]'hn0=wdT w 0:=(Bm hne).symm
    have qk:Sy.Spec Tryz.prog 180 [Ac (w[(0:Int).toNat]'hn0)] [] (Aa (kindL (wdT w 0))) []:=by
     rw[hx0];exact Cn (wdT w 0)
    have qm:=Cm (kindL (wdT w 0)) (L7 _) w hw
    rw[hmy]at qm
    refine T ?_
    refine C qk F180 ?_
    refine C qm F179 ?_
    refine Am 4 (Av lineZ) q_ (.cons (.refl _) (.cons (.refl _) (.cons (.refl _) (.cons (.refl _) (.cons (.refl _) (.cons (.refl _) (.cons (.refl _) (.cons (.refl _) (.cons (.refl _) (.cons (.refl _) (.cons (.refl _) (.cons (.refl _) (.cons (.refl _) (.cons .nil (.cons .nil (.cons .nil (.cons .nil .nil))))))))))))))))) ?_
    refine T ?_
    exact D
 ·have hw0:w=[]:=List.eq_nil_of_length_eq_zero j_
  subst hw0
  have hsT:A2 [] row=(lineZ,22):=by rw[A2,if_pos (.inl rfl)]
  rw[hsT]
  refine He Γ hm 100 F111 Tryz.ntmps111 q_ fun F hF=>by
   refine T ?_
   refine Am 4 (Av lineZ) q_ (.cons (.refl _) (.cons (.refl _) (.cons (.refl _) (.cons (.refl _) (.cons (.refl _) (.cons (.refl _) (.cons (.refl _) (.cons (.refl _) (.cons (.refl _) (.cons (.refl _) (.cons (.refl _) (.cons (.refl _) (.cons (.refl _) (.cons .nil (.cons .nil (.cons .nil (.cons .nil .nil))))))))))))))))) ?_
   refine T ?_
   exact D
end Go.Sy.YtgblchnfjbkipaaGreatDoor
namespace Go.Sy
theorem VwL.get {s:SS} {V:List Nat}:∀ {l m:List SV} (_:VwL s V l m) {i:Nat} {y:SV},D4 m i=some y→∃ x,D4 l i=some x∧Vw s V x y
 | _,_,.nil,i,y,h=>by cases i<;>simp[D4]at h
 | _,_,.cons (x:=x) h0 hs,0,y,h=>by
  simp only[D4,Option.some.injEq]at h
  subst h
  exact⟨x,q_,h0⟩
 | _,_,.cons h0 hs,i+1,y,h=>VwL.get hs (i:=i) h
theorem VwL.len {s:SS} {V:List Nat}:∀ {l m:List SV} (_:VwL s V l m),m.length=l.length
 | _,_,.nil=>rfl
 | _,_,.cons _ hs=>by simp[VwL.len hs]
theorem RdL.setI {κ:Ka} {w:World} {x:SV} {v:Value} (hx:Rd κ w x v):∀ {l:List SV} {cs:List Value} (i:Nat),RdL κ w l cs→RdL κ w (l.set i x) (cs.set i v)
 | [],cs,i,h=>by simp only[RdL]at h;subst h;simp[RdL]
 | y::l,cs,0,h=>by
  simp only[RdL]at h
  obtain ⟨u,r,rfl,h1,h2⟩:=h
  simp only[List.set_cons_zero,RdL]
  exact⟨v,r,q_,hx,h2⟩
 | y::l,cs,i+1,h=>by
  simp only[RdL]at h
  obtain ⟨u,r,rfl,h1,h2⟩:=h
  simp only[List.set_cons_succ,RdL]
  exact⟨u,_,q_,h1,h2.setI hx i⟩
theorem Mf {κ:Ka} {w:World} {k:Nat} {l:List SV} (hi:Inv κ w) (h:ObOK κ w k (.box l)) {off:Nat} {x:SV} {v:Value} (_hx:x.plain=true) (hv:∀ κ w,Rd κ w x v) (h1:v.oneCell'=true) :
  ∃ b,κ k=.blk b∧(∀ j y,D4 l j=some y→∃ u,w.cell? ⟨b,j,none⟩=some u∧Rd κ w y u)∧(∀ j,j<l.length→w.frozen? ⟨b,j,none⟩=false) ∧
   Step (·=k) κ w κ (w.setCell ⟨b,off,none⟩ v)∧Inv κ (w.setCell ⟨b,off,none⟩ v)∧ObOK κ (w.setCell ⟨b,off,none⟩ v) k (.box (l.set off x)):=by
 obtain ⟨b,cs,T,fr,e1,e2,e3,e4,e5⟩:=h
 have hsame:(w.setCell ⟨b,off,none⟩ v).heap[b]? = some (.cells (cs.set off v).toArray T fr):=by
  simp[World.setCell,Array.getElem?_modify,e2]
 have hoth:∀ j,j≠b→(w.setCell ⟨b,off,none⟩ v).heap[j]? = w.heap[j]?:=fun j hj=>heap_setCell_other w ⟨b,off,none⟩ j v hj
 obtain ⟨st,inv⟩:=Hh (w':=w.setCell ⟨b,off,none⟩ v) hi (k:=k) (b:=b) (by rw[e1];rfl) rfl rfl rfl qd hoth
 have hlen:=e5.length
 refine⟨b,e1,fun j y hy=>?_,fun j hj=>?_,st,inv,b,_,T,fr,e1,hsame,by rw[List.length_set];exact e3,?_,(RdL.step st _ _ e5).setI (hv _ _) off⟩
 ·obtain ⟨u,hu,hr⟩:=e5.get hy
  exact⟨u,by rw[cell_of_row w b j cs.toArray T fr e2,List.getElem?_toArray];exact hu,hr⟩
 ·obtain ⟨lo,hi'⟩:=fr
  simp only[World.frozen?,e2]
  rcases e3 with h | h
  ·simp only at h;subst h;simp
  ·simp only at h;simp;omega
 ·intro c hc
  rcases List.mem_or_eq_of_mem_set hc with h | h
  ·exact e4 c h
  ·rw[h];exact h1
theorem Ctx.onward {F:Fr} {κ κ2:Ka} {w w2:World} {ds:List Deferred} (c:Ctx F κ w) (c2:Ctx ⟨w,κ,ds⟩ κ2 w2):Ctx F κ2 w2 where
 size:=Nat.le_trans c.size c2.size
 os:=c2.os.trans c.os
 tape:=c2.tape.trans c.tape
 output:=c2.output.trans c.output
 M:=c2.M.trans c.M
 old b hb h:=by
  refine(c2.old b (Nat.lt_of_lt_of_le hb c.size) (fun k hk=>?_)).trans (c.old b hb h)
  rcases c.own k b hk with h1 | ⟨j,h1⟩
  ·exact absurd hb (Nat.not_lt.2 h1)
  ·exact h j h1
 own k b hk:=by
  rcases c2.own k b hk with h | ⟨j,h⟩
  ·exact .inl (Nat.le_trans c.size h)
  ·exact c.own j b h
 nam k hk:=by
  have hn:∀ x,κ k=x→x≠.new→κ2 k=x∨κ2 k=.dead:=fun x hx hne=>by
   have h:κ2 k=κ k∨κ2 k=.dead:=c2.nam k (by show κ k≠.new;rw[hx];exact hne)
   rw[hx]at h
   exact h
  rcases c.nam k hk with h | h
  ·exact hn _ h hk
  ·rcases hn _ h (by intro e;cases e) with h2 | h2
   ·exact .inr h2
   ·exact .inr h2
def Yl (P:Program) (fn:Func) (F:Fr) (R:SV) (H':Obs):Exit→Act→World→Prop :=
 bodyPostD P fn fun e w'=>∃ v κ',e=.returned v∧Ctx F κ' w'∧Inv κ' w'∧Rd κ' w' R v∧H'.ok κ' w'
theorem Wt {P:Program} (Γ:Ty P) {f:FuncId} {fn:Func} {c:Code} {A:List SV} {H:Obs} {R:SV} {H':Obs} (hf:P.funcs[f]? = some fn) (hb:fn.body=some c) {n:Nat} (hn':fn.ntmps=n) (hn:A.length≤n)
  (h:∀ (F:Fr) (hF:∀ k,F.k0 k≠.new→k∈H.keys),F.ds=[]→G ⟨P,Γ,F,n,Yl P fn F R H',H.keys,hF⟩ [.code c] ⟨argσ A,mkh H⟩):Spec P f A H R H':=by
 subst hn'
 intro κ w vs hi hnew hA hH
 refine calls_of_wp_defers hf hb ?_
 have hlen:=hA.length
 refine h ⟨w,κ,[]⟩ hnew q_ κ _ w ⟨q_,?_,hi,Ctx.refl κ w,?_,?_⟩
 ·simp;omega
 ·intro i
  have:=hA.getD (fn.ntmps-vs.length) i
  have he:(vs.toArray++Array.replicate (fn.ntmps-vs.length) undef)=(vs++List.replicate (fn.ntmps-vs.length) undef).toArray:=by simp
  show Rd κ w _ ((vs.toArray++Array.replicate (fn.ntmps-vs.toArray.size) undef).getD i undef)
  rw[List.size_toArray,he]
  simpa using this
 ·intro k
  exact Xb hH (fun hk=>Classical.byContradiction fun hne=>hk (hnew k hne))
theorem Zq {P:Program} (Γ:TyE P) (hm:P.follows .mixedOrders=true) (N:Nat) {f:FuncId} {fn:Func} {c:Code} {A:List SV} {H:Obs} {R:SV} {H':Obs} (hF:Fun P f fn c) {n:Nat} (hn':fn.ntmps=n) (hn:Vc A n=true)
  (h:∀ (F:Fr) (hF:∀ k,F.k0 k≠.new→k∈H.keys),F.ds=[]→Ex ⟨P,Γ.toTy,F,n,Yl P fn F R H',H.keys,hF⟩ Γ N [.code c] ⟨argσ A,mkh H⟩):Sy.Spec P f A H R H' :=
 Wt Γ.toTy hF.1 hF.2 hn' (Or hn) fun F hF h0=>run Γ hm N (h F hF h0)
theorem Acg {C:Cx} {k:List KI} {s:SS} {all:Array Oper} {o:Oper} {rest:List Oper} {x:Operand} {ts:Array TypeId} {g:FuncId} {cap:List SV} (h:o.op=.defer ⟨.value x,#[],ts⟩) (hx:ev s x=.clo (.func g) [] cap) (hd:o.dst=none)
  (hw:B6 C.n all o s=some true) (h0:C.F.ds=[]) (bn:List Nat) (hbn:∀ j,j∉bn→s.h j=.fresh)
  (hg:∀ (F:Fr) (hF:∀ j,F.k0 j≠.new→j∈bn) (cv:List Value),F.ds=[⟨.fn (.func g) cv.toArray,#[]⟩]→RdL F.k0 F.w0 cap cv→(∀ κ w,Ctx F κ w→Ctx C.F κ w)→G ⟨C.P,C.Γ,F,C.n,C.B,bn,hF⟩ (.ops all rest::k) s):G C (.ops all (o::rest)::k) s:=by
 intro κ a w hs
 refine wpList_step fun K hK=>?_
 rw[if_pos (It hs (B0 hw).2 (B0 hw).1)]
 have hr:=hs.ev x
 rw[hx]at hr
 simp only[Rd]at hr
 obtain ⟨fs,cs,hv,hfs,hcs⟩:=hr
 simp only[RdL]at hfs
 subst hfs
 have hF:∀ j,κ j≠.new→j∈bn:=fun j hj=>Classical.byContradiction fun hn=>hj (by
  have:=hs.obj j
  rw[hbn j hn]at this
  exact this)
 have hrun:(execOp a.eval o).run C.P w=.ok (.defer ⟨.fn (.func g) cs.toArray,#[]⟩) w:=by
  simp[execOp,h,resolve,Deferred.ofValue,hv]
 show o.upon C.P a K _ ((execOp a.eval o).run C.P w)
 rw[hrun,Oper.upon_defer,hd]
 refine hK _ _ (hg ⟨w,κ,[⟨.fn (.func g) cs.toArray,#[]⟩]⟩ hF cs rfl hcs (fun κ2 w2 c2=>hs.ctx.onward c2) κ { a with defers:=_::a.defers } w ⟨?_,hs.size,hs.inv,?_,hs.slot,hs.obj⟩)
 ·show _::a.defers=_
  rw[hs.defers,h0]
 ·have:=Ctx.refl κ w
  exact⟨this.size,this.os,this.tape,this.output,this.M,this.old,this.own,this.nam⟩
end Go.Sy
namespace Go.Sy.YtgblchnfjbkipaaGreatDoor
open Go.Proofs
attribute [local irreducible] Go.Sy.G Go.Sy.DR
set_option maxRecDepth 100000
set_option maxHeartbeats 4000000
theorem Qe (ae al:Addr) (e:Int) (x:Value) (u:FrameMode) (w:World) (he:w.cell? ae=some (.int .i64 e)) (hl:w.cell? al=some x) (hz:w.frozen? al=false) :
  CallsD Tryz.prog 108 #[.pointer (some ae),.pointer (some al)] u w fun r u' w'=>u'=u∧(r=.returned (.tuple #[])∧w'=if e=0 then w else w.setCell al (.slice none 0 0)):=by
 by_cases h:e=0
 ·subst h
  go_enter_d Tryz.func108,Tryz.ntmps108
  go_wp2
  go_end0
  exact⟨q_,by simp⟩
 ·rw[if_neg h]
  go_enter_d Tryz.func108,Tryz.ntmps108
  go_wp2
  go_end0
  exact⟨q_,q_⟩
theorem Aaj {κ0' κ:Ka} {w0 w:World} {k:Nat} {v:Value} {l:List SV} (h0:Rd κ0' w0 (.ptr k 0) v) (hn:κ0' k≠.new→κ k=κ0' k∨κ k=.dead) (ho:ObOK κ w k (.box l)):∃ b,κ k=.blk b∧v=.pointer (some ⟨b,0,none⟩):=by
 obtain ⟨b,cs,T,fr,e1,_⟩:=ho
 refine⟨b,e1,?_⟩
 have hne:κ0' k≠.new:=fun e=>by simp only[Rd,e]at h0
 rcases hn hne with h | h
 ·rw[e1]at h
  simp only[Rd,← h]at h0
  exact h0
 ·rw[e1]at h;cases h
theorem Abw {F F2:Fr} {n:Nat} {bn:List Nat} {hbn:∀ k,F2.k0 k≠.new→k∈bn} {k:List KI} {s:SS} {L:List LineM} {row e:Int} {cv:List Value} (hd:F2.ds=[⟨.fn (.func 108) cv.toArray,#[]⟩])
  (hcv:RdL F2.k0 F2.w0 [.ptr 4 0,.ptr 2 0] cv) (hctx:∀ κ w,Ctx F2 κ w→Ctx F κ w) (h2:s.h 2=.box [.sl 17 Ab L]) (h4:s.h 4=.box [Aa e]) (h3:s.σ 3=Aa row) (p2:s.σ 2=.ptr 2 0) (p4:s.σ 4=.ptr 4 0) :
  G ⟨Tryz.prog,Γ.toTy,F2,n,Yl Tryz.prog Tryz.f46 F (.tup [.sl 17 Ab (if e=0 then L else []),Aa row,Aa e]) [],bn,hbn⟩ (.code .ret::k) s:=by
 refine Acn fun κ a w hs=>?_
 have o2:=hs.obj 2
 rw[h2]at o2
 have o4:=hs.obj 4
 rw[h4]at o4
 simp only[RdL]at hcv
 obtain ⟨v4,r4,rfl,hv4,v2,r2,rfl,hv2,rfl⟩:=hcv
 obtain ⟨b4,k4,rfl⟩:=Aaj hv4 (hs.ctx.nam 4) o4
 obtain ⟨b2,k2,rfl⟩:=Aaj hv2 (hs.ctx.nam 2) o2
 obtain ⟨b2',e1,c1,c2,st1,inv1,ob1⟩:=Mf (off:=0) (x:=.val (.slice none 0 0)) (v:=.slice none 0 0) hs.inv o2 rfl (fun κ w=>by simp only[Rd]) rfl
 have ob1:ObOK κ (w.setCell ⟨b2',0,none⟩ (.slice none 0 0)) 2 (.box [.sl 17 Ab []]):=by
  obtain ⟨b,cs,T,fr,f1,f2,f3,f4,f5⟩:=ob1
  refine⟨b,cs,T,fr,f1,f2,f3,f4,?_⟩
  have f5:RdL κ _ [.val (.slice none 0 0)] cs:=f5
  simp only[RdL,Rd]at f5 ⊢
  obtain ⟨v,r,rfl,rfl,rfl⟩:=f5
  exact⟨_,_,q_,by simp[RdD],q_⟩
 rw[k2]at e1
 cases e1
 obtain ⟨b4',e4,d1,_,_,_,_⟩:=Mf (off:=0) (x:=Aa e) (v:=.int .i64 e) hs.inv o4 rfl (fun κ w=>by simp[Rd,Aa]) rfl
 rw[k4]at e4
 cases e4
 obtain ⟨u4,hu4,hr4⟩:=d1 0 (Aa e) rfl
 have hu4':u4=.int .i64 e:=by simpa [Aa,Rd] using hr4
 subst hu4'
 obtain ⟨u2,hu2,_⟩:=c1 0 _ rfl
 show Leaves Tryz.prog Tryz.f46 a.tmps _ a.defers .returning w
 rw[hs.defers,hd]
 refine leaves_cons (f:=108) (args:=#[.pointer (some ⟨b4,0,none⟩),.pointer (some ⟨b2,0,none⟩)]) qd (by simp[go_sem]) ?_
 refine(Qe ⟨b4,0,none⟩ ⟨b2,0,none⟩ e u2 .returning w hu4 hu2 (c2 0 qd)).mono ?_
 rintro r u' w'' ⟨rfl,rfl,rfl⟩
 by_cases he:e=0
 ·rw[if_pos he,if_pos he]
  obtain ⟨v,g1,g2⟩:=Ie (P:=Tryz.prog) (Γ:=Γ.toTy) hs (fn:=Tryz.f46) (xs:=[.sl 17 Ab L,Aa row,Aa e]) rfl (.cons (.cell p2 h2 rfl rfl) (.cons (h3 ▸ .tmp) (.cons (.cell p4 h4 rfl rfl) .nil)))
  exact⟨v,g1,v,κ,rfl,hctx _ _ hs.ctx,hs.inv,g2,fun p hp=>by cases hp⟩
 ·rw[if_neg he,if_neg he]
  have hs2:St F2 n ⟨s.σ,upd s.h 2 (.box [.sl 17 Ab []])⟩ κ a (w.setCell ⟨b2,0,none⟩ (.slice none 0 0)):=⟨hs.defers,hs.size,inv1,hs.ctx.step inv1 st1,fun i=>Rd.step st1 _ _ (hs.slot i),fun j=>by
   show ObOK κ _ j (upd s.h 2 _ j)
   by_cases hj:j=2
   ·subst hj;exact ob1
   ·have:upd s.h 2 (.box [.sl 17 Ab []]) j=s.h j:=by
     simp only[upd]
     have:Nat.beq j 2=false:=by
      cases hb:Nat.beq j 2
      ·rfl
      ·exact absurd (Nat.eq_of_beq_eq_true hb) hj
     rw[this];rfl
    rw[this]
    exact ObOK.step st1 (show ¬ j=2 from hj) _ (hs.obj j)⟩
  obtain ⟨v,g1,g2⟩:=Ie (P:=Tryz.prog) (Γ:=Γ.toTy) hs2 (fn:=Tryz.f46) (xs:=[.sl 17 Ab [],Aa row,Aa e]) rfl (.cons (.cell p2 rfl rfl rfl) (.cons (h3 ▸ .tmp) (.cons (.cell p4 h4 rfl rfl) .nil)))
  exact⟨v,g1,v,κ,rfl,hctx _ _ hs2.ctx,inv1,g2,fun p hp=>by cases hp⟩
theorem J2 {F F2:Fr} {n:Nat} {bn:List Nat} {hbn:∀ k,F2.k0 k≠.new→k∈bn} {k:List KI} {s:SS} {L L':List LineM} {row e:Int} {cv:List Value} (hd:F2.ds=[⟨.fn (.func 108) cv.toArray,#[]⟩])
  (hcv:RdL F2.k0 F2.w0 [.ptr 4 0,.ptr 2 0] cv) (hctx:∀ κ w,Ctx F2 κ w→Ctx F κ w) (hL:(if e=0 then L else [])=L') (h2:s.h 2=.box [.sl 17 Ab L]) (h4:s.h 4=.box [Aa e]) (h3:s.σ 3=Aa row) (p2:s.σ 2=.ptr 2 0) (p4:s.σ 4=.ptr 4 0) :
  G ⟨Tryz.prog,Γ.toTy,F2,n,Yl Tryz.prog Tryz.f46 F (.tup [.sl 17 Ab L',Aa row,Aa e]) [],bn,hbn⟩ (.code .ret::k) s:=by
 subst hL
 exact Abw hd hcv hctx h2 h4 h3 p2 p4
theorem Ib:∀ (l cur:List UInt8),∀ s∈B9 cur l,s.size≤cur.length+l.length
 | [],cur,s,hs=>by
  rw[B9]at hs
  split at hs
  ·cases hs
  ·simp at hs;rw[hs,Bt];simp
 | c::l,cur,s,hs=>by
  rw[B9]at hs
  split at hs
  ·rcases List.mem_cons.1 hs with hs | hs
   ·rw[hs,Bt];simp
   ·have:=Ib l [] s hs
    simp at this ⊢;omega
  ·have:=Ib l (cur++[c]) s hs
   simp at this ⊢;omega
theorem Ua (b:List UInt8):(rowsT b).1.length≤400∧∀ s∈(rowsT b).1,s.size≤20000:=by
 rw[rowsT]
 split
 ·exact⟨by simp,fun s hs=>by cases hs⟩
 ·rename_i h1
  split
  ·exact⟨by simp,fun s hs=>by cases hs⟩
  ·rename_i h2
   refine⟨by dsimp only;omega,fun s hs=>?_⟩
   have:=Ib b [] s hs
   simp at this;omega
theorem Sn (r:ByteArray) (hr:r.size≤20000):(wordsT r).1.length≤20001∧∀ s∈(wordsT r).1,s.size≤40:=by
 have hl:=Ey r.data.toList []
 have hrs:r.data.toList.length=r.size:=rfl
 rw[wordsT]
 split
 ·rename_i h
  refine⟨by dsimp only;omega,fun s hs=>?_⟩
  rw[List.all_eq_true]at h
  have:=h s hs
  simp only[wordB,Bool.and_eq_true,decide_eq_true_eq]at this
  exact this.1.2
 ·exact⟨by simp,fun s hs=>by cases hs⟩
theorem Yp (b:List UInt8) (hb:b.length≤1000000):Sy.Spec Tryz.prog 46 [.sl 1 Al b] [] (.tup [.sl 17 Ab (textT b).1,Aa (textT b).2.1,Aa (textT b).2.2]) []:=Zq Γ hm 100 F46 Tryz.ntmps46 rfl fun F hF h0=>by
 have q1:=Ze b hb
 have hres:=textT.eq_1 b
 have hsm:=Ua b
 generalize textT b=res at *
 generalize rowsT b=rt at *
 obtain ⟨rows,e0⟩:=rt
 dsimp only at hres hsm q1
 refine T ?_
 refine Acg q_ q_ q_ q_ h0 [2,4] (fun j hj=>?_) ?_
 ·simp only[List.mem_cons,List.not_mem_nil,or_false,not_or]at hj
  have n2:Nat.beq j 2=false:=by
   cases hb:Nat.beq j 2
   ·rfl
   ·exact absurd (Nat.eq_of_beq_eq_true hb) hj.1
  have n4:Nat.beq j 4=false:=by
   cases hb:Nat.beq j 4
   ·rfl
   ·exact absurd (Nat.eq_of_beq_eq_true hb) hj.2
  simp[SS.upd,H5,upd,mkh,n2,n4]
 intro F2 hF2 cv hd hcv hctx
 refine T ?_
 refine C q1 F109 ?_
 cases hz:(e0 != 0)
 rotate_left
 ·have he:e0≠0:=by simpa using hz
  rw[if_pos he]at hres
  subst hres
  refine T ?_
  refine Am 2 [.sl 17 Ab []] q_ (.cons .nil .nil) ?_
  exact J2 (L:=[]) hd hcv hctx qd q_ q_ q_ q_ q_
 have he0:e0=0:=by simpa using hz
 rw[if_neg (by simp[he0])]at hres
 subst he0
 obtain ⟨hlen,hsz⟩:=hsm
 refine T ?_
 refine V3 2 0 1000 17 Ab q_ q_ q_ q_ ?_
 refine A7 (fun x:Nat × List LineM=>res=K7 x.1 (rows.drop x.1) x.2∧x.1≤rows.length∧x.2.length≤x.1) (fun x=>[(2,.ptr 2 0),(4,.ptr 4 0),(20,.sl 1 Ac rows),(21,Aa rows.length),(22,Aa x.1)]) (fun x=>[(2,.box [.osl 1000]),(4,.box [Aa 0]),(1000,.row 17 Ab x.2)]) (fun x=>rows.length-x.1) (0,[]) [] ⟨hres,by simp,by simp⟩ U ?_
 rintro ⟨j,out⟩ ⟨hI,hj,hol⟩
 dsimp only at hI hj hol ⊢
 refine T ?_
 refine⟨fun h=>?_,fun h=>?_⟩
 ·have hlt:j<rows.length:=qA h
  have hlt0:((j:Nat):Int).toNat<rows.length:=hlt
  have hr:(rows[((j:Nat):Int).toNat]'hlt0).size≤20000:=hsz _ (List.getElem_mem _)
  have hdr:rows.drop j=rows[((j:Nat):Int).toNat]'hlt0::rows.drop (j+1):=List.drop_eq_getElem_cons hlt
  rw[hdr,K7]at hI
  clear h
  have q2:=Xi (rows[((j:Nat):Int).toNat]'hlt0) j_
  have hws:=Sn (rows[((j:Nat):Int).toNat]'hlt0) hr
  generalize wordsT (rows[((j:Nat):Int).toNat]'hlt0)=wt at *
  obtain ⟨ws,we⟩:=wt
  dsimp only at hI hws q2
  cases hz:(we != 0)
  rotate_left
  ·have he:we≠0:=by simpa using hz
   rw[if_pos he]at hI
   subst hI
   refine T ?_
   refine C q2 F110 ?_
   refine Am 2 [.sl 17 Ab []] q_ (.cons .nil .nil) ?_
   exact J2 (L:=[]) hd hcv hctx qd q_ q_ q_ q_ q_
  have he:we=0:=by simpa using hz
  rw[if_neg (by simp[he])]at hI
  by_cases hw0:ws.length=0
  ·rw[if_pos (List.eq_nil_of_length_eq_zero hw0)]at hI
   have f0:((ws.length:Int) == 0)=true:=by rw[hw0];rfl
   refine T ?_
   refine C q2 F110 ?_
   exact As (j+1,out) [] ⟨hI,hlt,by dsimp only;omega⟩ (by dsimp only;omega) U
  ·rw[if_neg (fun e=>hw0 (by rw[e];rfl))]at hI
   have f0:((ws.length:Int) == 0)=false:=by rw[beq_eq_false_iff_ne];omega
   have q3:=Yu ws ((j:Int)+1) j_ hws.2
   generalize A2 ws ((j:Int)+1)=st at *
   obtain ⟨l,se⟩:=st
   dsimp only at hI q3
   cases hz2:(se != 0)
   rotate_left
   ·have he2:se≠0:=by simpa using hz2
    rw[if_pos he2]at hI
    subst hI
    refine T ?_
    refine C q2 F110 ?_
    refine C q3 F111 ?_
    refine Bf 1000 q_ ?_
    exact J2 (L:=out) hd hcv hctx (if_neg he2) q_ q_ q_ q_ q_
   ·have he2:se=0:=by simpa using hz2
    rw[if_neg (by simp[he2])]at hI
    refine T ?_
    refine C q2 F110 ?_
    refine C q3 F111 ?_
    refine X (Ai Γ.toTy 56 q_ q_ q_ q_ q_ (.row q_) (.lit (e:=Ab) (l:=[l]) q_ q_) qd (by simp;omega) (by simp;omega)) ?_
    exact As (j+1,out++[l]) [(1000,56)] ⟨hI,hlt,by simp;omega⟩ (by dsimp only;omega) U
 ·have hje:j=rows.length:=qB h
  subst hje
  rw[List.drop_length,K7]at hI
  subst hI
  clear h
  refine T ?_
  refine Bf 1000 q_ ?_
  exact J2 (L:=out) hd hcv hctx (if_pos q_) q_ q_ q_ q_ q_
theorem H9:∀ (l:List ByteArray) (k:Nat),(∀ x∈l,x.size≤k)→Hb l≤k * l.length
 | [],k,_=>by simp[Hb]
 | x::l,k,h=>by
  have h1:=h x qd
  have h2:=H9 l k (fun y hy=>h y (by simp[hy]))
  simp only[Hb,List.map_cons,List.sum_cons,List.length_cons]at h2 ⊢
  rw[Nat.mul_succ]
  omega
theorem U8 {l:List Int} (hl:l.length≤100000) (h:∀ x∈l,Ch x):(Oo l).size≤20000000:=by
 have h1:=Ju (l.map A8) comma
 have h2:=H8 (tx:=A8) l (fun x hx=>by have:=D6 (h x hx);omega)
 have h3:comma.size=1:=rfl
 rw[List.length_map,h3]at h1
 rw[Oo];omega
theorem H7 {l:List Int} (hl:l.length≤100000) (h:∀ x∈l,Ch x):(Dh l).size≤20000000:=by
 rw[Dh]
 split
 ·decide
 ·exact U8 hl h
theorem Tt {l:List Int} (hl:l.length≤100000):(Hy l).size≤20000000:=by
 have h1:=Ju (l.map C8) comma
 have h2:=H8 (tx:=C8) l (fun x _=>Ee x)
 have h3:comma.size=1:=rfl
 rw[List.length_map,h3]at h1
 rw[Hy];omega
theorem Xf (m:Int):(Ij m).size≤20000000:=by
 have:=On m.toNat 6
 rw[Ij,Bt];omega
theorem Qf (a b:Int):(D5 a b).size≤20000000:=by
 rw[D5]
 split
 ·have h1:=Ee a
  have h2:=B5 2 b.toNat j_
  rw[Bt,List.length_append,List.length_append,List.length_reverse]
  have:(C8 a).data.toList.length=(C8 a).size:=rfl
  simp;omega
 ·decide
theorem Lq {l:LineM} (h:LineX l):(Cb l).length≤7∧∀ x∈Cb l,x.size≤20000000:=by
 have hd:=h.w.dev;have hp:=h.w.port;have hpe:=h.w.peer;have hf:=h.w.far;have hn:=h.w.name
 have nv:=D6 h.vlan
 have nn:=D6 h.num
 have nc:=D6 h.cost
 have s1:=H7 h.w.fin.t h.tagged
 have s2:=H7 h.w.fin.i h.imports
 have s3:=H7 h.w.fin.e h.exports
 have s4:=Tt (l:=l.addrs) h.w.fin.a
 have s5:=Xf l.mac
 have s6:=Qf l.addr l.bits
 have s7:=Ee l.addr
 have z1:accessT.size=6:=rfl
 have z2:trunkT.size=5:=rfl
 have z3:dash.size=1:=rfl
 have lz:∀ a:Array UInt8,a.size≤20→(⟨a⟩:ByteArray).size≤20000000:=fun a ha=>Nat.le_trans ha qc
 generalize e:Cb l=ws
 rw[Cb,Ax,Jp]at e
 repeat' split at e
 all_goals subst e
 all_goals refine⟨by simp,?_⟩
 all_goals try simp only[List.forall_mem_cons]
 all_goals repeat' apply And.intro
 all_goals first | omega | (split<;>omega) | (exact lz _ qc) | (intro x hx;cases hx)
theorem Va {l:LineM} (h:LineX l):(D8 (Cb l) space).size≤150000000:=by
 obtain ⟨h1,h2⟩:=Lq h
 have h3:=Ju (Cb l) space
 have h4:=H9 _ _ h2
 have h5:space.size=1:=rfl
 rw[h5]at h3
 have:20000000 * (Cb l).length≤20000000 * 7:=Nat.mul_le_mul_left _ h1
 omega
theorem V5 (l:LineM):Cb l=[]↔Br l=false:=by
 rw[Cb]
 cases hr:Br l with
 | false=>simp
 | true =>
  have hk:=Oe hr
  rw[if_pos rfl]
  constructor
  ·intro e
   exfalso
   rcases (by omega:l.kind=1∨l.kind=2∨l.kind=3∨l.kind=4∨l.kind=5∨l.kind=6∨l.kind=7∨l.kind=8∨l.kind=9) with h9 | h9 | h9 | h9 | h9 | h9 | h9 | h9 | h9
   all_goals (simp(config:={decide:=true}) only [Ax,h9,Jp,if_true,if_false]at e)
   all_goals (repeat' split at e)
   all_goals first | (simp at e;done) | omega | (exact absurd e qd)
  ·intro e;cases e
theorem Zf (l:List ByteArray) (h0:l.length≤100000) (h1:Hb l≤10000000000):Sy.Spec Tryz.prog 195 [.sl 1 Ac l] [] (Ac (D8 l space)) []:=cT F195 Tryz.ntmps195 fun F hF=>by
 have q:=M6 l space j_ j_ (by show 1 * l.length≤_;omega)
 generalize D8 l space=r at *
 refine T ?_
 refine C q F255 ?_
 exact D
theorem W7 (l:LineM) (h:LineX l):Sy.Spec Tryz.prog 112 [Ab l] [] (.tup [Ac (if Br l=true then D8 (Cb l) space else ⟨#[]⟩),Aa (if Br l=true then 0 else 2)]) []:=cT F112 Tryz.ntmps112 fun F hF=>by
 have q1:=Uk l h
 obtain ⟨z1,z2⟩:=Lq h
 have z3:=H9 _ _ z2
 have z4:20000000 * (Cb l).length≤20000000 * 7:=Nat.mul_le_mul_left _ z1
 have q2:=Zf (Cb l) j_ j_
 have hn:=V5 l
 generalize Cb l=ws at *
 cases hr:Br l with
 | true =>
  rw[if_pos rfl,if_pos rfl]
  have hne:ws.length≠0:=fun e=>by
   have:=hn.1 (List.eq_nil_of_length_eq_zero e)
   rw[hr]at this;cases this
  have f0:((ws.length:Int) == 0)=false:=by rw[beq_eq_false_iff_ne];omega
  refine T ?_
  refine C q1 F194 ?_
  refine C q2 F195 ?_
  exact D
 | false =>
  rw[if_neg qd,if_neg qd]
  have he:ws=[]:=hn.2 hr
  subst he
  refine T ?_
  refine C q1 F194 ?_
  exact D
theorem Ul (x:LineM) (r:List LineM) (b:List UInt8) (h:Br x=false):C1 (x::r) b=([],2):=by
 rw[C1,if_pos h]
theorem S5 (x:LineM) (r:List LineM) (b:List UInt8) (h:Br x=true):C1 (x::r) b=C1 r (b++(D8 (Cb x) space).data.toList++[10]):=by
 rw[C1,if_neg (by rw[h];simp),Cb,if_pos h]
theorem W5 (l:List LineM) (h:∀ x∈l,LineX x) (hl:l.length≤100000):Sy.Spec Tryz.prog 47 [.sl 17 Ab l] [] (.tup [.sl 1 Al (plainT l).1,Aa (plainT l).2]) []:=cT F47 Tryz.ntmps47 fun F hF=>by
 have hres:=plainT.eq_1 l
 generalize plainT l=res at *
 refine T ?_
 refine Dg 4 1000 1 Al q_ q_ ?_
 refine T ?_
 refine A7 (fun x:Nat × List UInt8=>C1 l []=C1 (l.drop x.1) x.2∧x.1≤l.length∧x.2.length≤200000000 * x.1) (fun x=>[(0,.sl 17 Ab l),(4,.osl 1000),(9,.sl 17 Ab l),(10,Aa l.length),(11,Aa x.1)]) (fun x=>[(1000,.row 1 Al x.2)]) (fun x=>l.length-x.1) (0,[]) [] ⟨q_,by simp,by simp⟩ U ?_
 rintro ⟨j,b⟩ ⟨hI,hj,hbl⟩
 dsimp only at hI hj hbl ⊢
 refine T ?_
 refine⟨fun h2=>?_,fun h2=>?_⟩
 ·have hlt:j<l.length:=by have:=of_decide_eq_true h2;omega
  have hlt0:((j:Nat):Int).toNat<l.length:=hlt
  clear h2
  have hdr:l.drop j=l[((j:Nat):Int).toNat]'hlt0::l.drop (j+1):=List.drop_eq_getElem_cons hlt
  have hx:=h (l[((j:Nat):Int).toNat]'hlt0) (List.getElem_mem _)
  have q:=W7 _ hx
  have hsz:=Va hx
  rw[hdr]at hI
  have hjb:200000000 * j≤200000000 * 100000:=Nat.mul_le_mul_left _ j_
  cases hr:Br (l[((j:Nat):Int).toNat]'hlt0) with
  | false =>
   rw[hr,if_neg qd,if_neg qd]at q
   rw[Ul _ _ _ hr]at hI
   rw[hI,if_pos qc]at hres
   subst hres
   refine T ?_
   refine C q F112 ?_
   refine Bw 2 1 Al q_ ?_
   refine T ?_
   exact D
  | true =>
   rw[hr,if_pos rfl,if_pos rfl]at q
   rw[S5 _ _ _ hr]at hI
   generalize D8 (Cb (l[((j:Nat):Int).toNat]'hlt0)) space=t at *
   have htl:t.data.toList.length=t.size:=rfl
   refine T ?_
   refine C q F112 ?_
   refine X (Ti Γ.toTy 25 q_ q_ q_ q_ q_ q_ q_ (.row q_) q_ qc j_ j_) ?_
   refine X (Ai Γ.toTy 27 q_ q_ q_ q_ q_ (.row q_) (.lit (e:=Al) (l:=[10]) q_ q_) qc (by simp;omega) (by simp;omega)) ?_
   refine As (j+1,b++t.data.toList++[10]) [(1000,27)] ⟨hI,hlt,?_⟩ (by dsimp only;omega) U
   simp only[List.length_append,List.length_singleton,htl]
   omega
 ·have hje:j=l.length:=by have:=of_decide_eq_false h2;omega
  subst hje
  clear h2
  rw[List.drop_length,C1]at hI
  rw[hI]at hres
  dsimp only at hres
  rw[if_neg qd]at hres
  by_cases c1:400<l.length
  ·rw[if_pos (.inl c1)]at hres
   have f1:decide ((l.length:Int)>400)=true:=decide_eq_true j_
   subst hres
   refine T ?_
   refine Bw 2 1 Al q_ ?_
   refine T ?_
   exact D
  ·have f1:decide ((l.length:Int)>400)=false:=decide_eq_false j_
   by_cases c2:20000<b.length
   ·rw[if_pos (.inr c2)]at hres
    have f2:decide ((b.length:Int)>20000)=true:=decide_eq_true j_
    subst hres
    refine T ?_
    refine Bw 2 1 Al q_ ?_
    refine T ?_
    exact D
   ·rw[if_neg j_]at hres
    have f2:decide ((b.length:Int)>20000)=false:=decide_eq_false j_
    subst hres
    refine T ?_
    refine Bf 1000 q_ ?_
    refine T ?_
    exact D
def Cs (k:Nat) (l:List LineM):List LineM:=Cv (l.take k)++l.drop k
theorem Wy (k:Nat) (l:List LineM):(Cs k l).length=l.length:=by
 rw[Cs,List.length_append,Cq,← List.length_append,List.take_append_drop]
theorem Uc (l:List LineM):Cs 0 l=l:=by simp[Cs,Cv]
theorem Wz (l:List LineM):Cs l.length l=Cv l:=by simp[Cs]
theorem Y3 {k:Nat} {l:List LineM} (h:k<l.length) (h2:k<(Cs k l).length):(Cs k l)[k]'h2=l[k]:=by
 have e:(Cv (l.take k)).length=k:=by rw[Cq,List.length_take];omega
 simp only[Cs]
 rw[List.getElem_append_right j_]
 simp only[e,Nat.sub_self,List.getElem_drop,Nat.add_zero]
theorem Ud {k:Nat} {l:List LineM} (h:k<l.length):Cs (k+1) l=(Cs k l).set k { l[k] with row:=(k:Int)+1 }:=by
 have e:(Cv (l.take k)).length=k:=by rw[Cq,List.length_take];omega
 rw[Cs,Cs,List.take_succ_eq_append_getElem h,List.set_append_right _ _ j_,e,Nat.sub_self,List.drop_eq_getElem_cons h,List.set_cons_zero]
 have:Cv (l.take k++[l[k]])=Cv (l.take k)++[{ l[k] with row:=(k:Int)+1 }]:=by
  unfold Cv
  rw[List.mapIdx_append]
  have:(l.take k).length=k:=by rw[List.length_take];omega
  simp[this]
 rw[this]
 simp
theorem Ho (M:List LineM) (h:∀ x∈M,LineFin x) (hl:M.length<100000):Sy.Spec Tryz.prog 15 [.sl 17 Ab M] [] (.sl 17 Ab (Ao M)) []:=cT F15 Tryz.ntmps15 fun F hF=>by
 have hsl:Ao M=Cv (Au Cj M):=rfl
 have hlen:=Cp Cj M
 generalize Ao M=res at *
 refine T ?_
 refine Dg 3 1000 17 Ab q_ q_ ?_
 refine T ?_
 refine A7 (fun j:Nat=>j≤M.length) (fun j=>[(0,.sl 17 Ab M),(3,.osl 1000),(7,.sl 17 Ab M),(8,Aa M.length),(9,Aa j)]) (fun j=>[(1000,.row 17 Ab (M.take j))]) (fun j=>M.length-j) 0 [] qd U ?_
 intro j hj
 have htl:(M.take j).length=j:=by rw[List.length_take];omega
 refine T ?_
 refine⟨fun h2=>?_,fun h2=>?_⟩
 ·have hlt:j<M.length:=by have:=of_decide_eq_true h2;omega
  have hlt0:((j:Nat):Int).toNat<M.length:=hlt
  clear h2
  have hdr:M.take (j+1)=M.take j++[M[((j:Nat):Int).toNat]'hlt0]:=List.take_succ_eq_append_getElem hlt
  have q:=Yv (M[((j:Nat):Int).toNat]'hlt0) (h _ (List.getElem_mem _))
  generalize M.take j=Q at *
  refine T ?_
  refine C q F35 ?_
  refine X (Ai Γ.toTy 17 q_ q_ q_ q_ q_ (.row q_) (.lit (e:=Ab) (l:=[M[((j:Nat):Int).toNat]'hlt0]) q_ q_) qd (by simp;omega) (by simp;omega)) ?_
  exact As (j+1) [(1000,17)] hlt j_ ⟨⟨q_,q_,q_,q_,q_,q_,q_,q_,q_,q_,z_⟩,⟨.inl (congrArg (Ob.row 17 Ab) hdr),q_,z_⟩,q_,q_⟩
 ·have hje:j=M.length:=by have:=of_decide_eq_false h2;omega
  subst hje
  clear h2
  rw[List.take_length]
  have q:=Aab Jf LineFin 37 [] [] rfl (fun a b ha hb=>⟨⟨_,_,F37⟩,Uo a b ha hb⟩) Cj rfl lineB_ordy M h j_
  generalize Au Cj M=Y at *
  have hl2:M.length=Y.length:=hlen.symm
  refine T ?_
  refine X (Ad [(0,1000)] q_ F36 q q_ ⟨q_,z_⟩ q_ ⟨.inl q_,z_⟩) ?_
  refine T ?_
  refine A7 (fun j:Nat=>j≤Y.length) (fun j=>[(3,.osl 1000),(22,Aa Y.length),(23,Aa j)]) (fun j=>[(1000,.row 17 Ab (Cs j Y))]) (fun j=>Y.length-j) 0 [] qd ⟨⟨q_,q_,q_,q_,q_,q_,z_⟩,⟨.inl (congrArg (Ob.row 17 Ab) (Uc Y)),q_,z_⟩,q_,q_⟩ ?_
  intro j hj
  have hrl:=Wy j Y
  refine T ?_
  refine⟨fun h2=>?_,fun h2=>?_⟩
  ·have hlt:j<Y.length:=by have:=of_decide_eq_true h2;omega
   have hlt0:((j:Nat):Int).toNat<(Cs j Y).length:=by show j<_;omega
   clear h2
   have hnx:=Ud hlt
   have hne:Cs j Y≠[]:=fun e=>by rw[e]at hrl;simp at hrl;omega
   have hat:(Cs j Y)[((j:Nat):Int).toNat]'hlt0=Y[j]:=Y3 hlt _
   generalize Y[j]=l at *
   generalize Cs j Y=R at *
   refine T ?_
   rw[← hat]at hnx
   clear hat
   refine⟨hne,?_⟩
   refine T ?_
   refine⟨{ (R[((j:Nat):Int).toNat]'hlt0) with row:=(j:Int)+1 },rfl,rfl,?_⟩
   refine T ?_
   exact As (j+1) [] hlt j_ ⟨⟨q_,q_,q_,q_,q_,q_,z_⟩,⟨.inl (congrArg (Ob.row 17 Ab) hnx),q_,z_⟩,q_,q_⟩
  ·have hje:j=Y.length:=by have:=of_decide_eq_false h2;omega
   subst hje
   clear h2
   rw[Wz,← hsl]
   refine Bf 1000 q_ ?_
   refine T ?_
   exact D
theorem T5 {M:List LineM} (h:∀ x∈M,LineX x):∀ x∈Ao M,LineX x:=by
 intro x hx
 rw[Ao,Cv,List.mem_mapIdx]at hx
 obtain ⟨i,hi,rfl⟩:=hx
 obtain ⟨⟨⟨a1,a2,a3,a4⟩,b2,b3,b4,b5,b6,b7⟩,c1,c2,c3,c4,c5,c6⟩:=h _ (C0 _ _ _ (List.getElem_mem hi))
 exact⟨⟨⟨a1,a2,a3,a4⟩,⟨b2.mac,b2.addr,b2.addrs⟩,b3,b4,b5,b6,b7⟩,c1,c2,c3,c4,c5,c6⟩
theorem W8 (b:List UInt8) (hb:b.length≤1000000) (h:∀ x∈(textT b).1,LineX x) (hl:(textT b).1.length<100000):Sy.Spec Tryz.prog 21 [.sl 1 Al b] [] (.tup [.sl 1 Al (orderT b).1,Aa (orderT b).2.1,Aa (orderT b).2.2]) []:=cT F21 Tryz.ntmps21 fun F hF=>by
 have q1:=Yp b hb
 have q2:=Ho (textT b).1 (fun x hx=>(h x hx).w.fin) hl
 have hsl:(Ao (textT b).1).length=(textT b).1.length:=Ja _
 have q3:=W5 (Ao (textT b).1) (T5 h) j_
 have hres:=orderT.eq_1 b
 generalize orderT b=res at *
 generalize textT b=tt at *
 obtain ⟨M,r,e⟩:=tt
 dsimp only at q1 q2 q3 hres
 generalize Ao M=Y at *
 generalize plainT Y=pt at *
 obtain ⟨o,oe⟩:=pt
 dsimp only at q3 hres
 cases hz:(e != 0) with
 | true =>
  have he:e≠0:=by simpa using hz
  rw[if_pos he]at hres
  subst hres
  refine T ?_
  refine C q1 F46 ?_
  refine Bw 2 1 Al q_ ?_
  refine T ?_
  exact D
 | false =>
  have he:e=0:=by simpa using hz
  rw[if_neg (by simp[he])]at hres
  subst hres
  refine T ?_
  refine C q1 F46 ?_
  refine C q2 F15 ?_
  refine C q3 F47 ?_
  exact D
def Kr (x:LineM):List Int:=[(x.dev.size:Int),(x.port.size:Int),(x.peer.size:Int),(x.far.size:Int),(x.name.size:Int),(x.tagged.length:Int),(x.imports.length:Int),(x.exports.length:Int),(x.addrs.length:Int)]
def Hs:List Int→Int→Bool × Int
 | [],t=>(false,t)
 | x::r,t=>if 300<x then (true,0) else Hs r (t+x)
def Hr:List LineM→Int→Bool
 | [],t=>decide (10000<t)
 | x::r,t=>if (Hs (Kr x) t).1=true then true else Hr r (Hs (Kr x) t).2
def linesGreat (l:List LineM):Bool:=if 400<l.length then true else Hr l 0
theorem Oq:∀ (l:List Int) (t:Int),(Hs l t).1=false→∀ x∈l,x≤300
 | [],_,_,_,hx=>by cases hx
 | y::r,t,h,x,hx=>by
  rw[Hs]at h
  split at h
  ·cases h
  ·rcases List.mem_cons.1 hx with rfl | hx
   ·omega
   ·exact Oq r _ h x hx
theorem L6:∀ (l:List LineM) (t:Int),Hr l t=false→∀ x∈l,∀ y∈Kr x,y≤300
 | [],_,_,_,hx=>by cases hx
 | z::r,t,h,x,hx=>by
  rw[Hr]at h
  split at h
  ·cases h
  ·rename_i h0
   rcases List.mem_cons.1 hx with rfl | hx
   ·exact Oq _ _ (by simpa using h0)
   ·exact L6 r _ h x hx
theorem Zn {l:List LineM} (h:linesGreat l=false):∀ x∈l,LineFin x:=by
 rw[linesGreat]at h
 split at h
 ·cases h
 ·intro x hx
  have:=L6 l 0 h x hx
  simp only[Kr,List.forall_mem_cons]at this
  exact⟨by omega,by omega,by omega,by omega⟩
theorem Zh (x:LineM):∀ y∈Kr x,0≤y:=by
 simp only[Kr,List.forall_mem_cons]
 refine⟨by omega,by omega,by omega,by omega,by omega,by omega,by omega,by omega,by omega,fun y hy=>by cases hy⟩
theorem U9 (M:List LineM) (hl:M.length<1000000):Sy.Spec Tryz.prog 12 [.sl 17 Ab M] [] (Af (linesGreat M)) []:=cT F12 Tryz.ntmps12 fun F hF=>by
 have hres:=linesGreat.eq_1 M
 generalize linesGreat M=res at *
 by_cases c0:400<M.length
 ·rw[if_pos c0]at hres
  have f0:decide ((M.length:Int)>400)=true:=decide_eq_true j_
  subst hres
  refine T ?_
  exact D
 rw[if_neg c0]at hres
 have f0:decide ((M.length:Int)>400)=false:=decide_eq_false j_
 refine T ?_
 refine A7 (fun x:Nat × Int=>res=Hr (M.drop x.1) x.2∧x.1≤M.length∧0≤x.2∧x.2≤2700 * x.1) (fun x=>[(0,.sl 17 Ab M),(3,Aa x.2),(4,Aa x.1)]) (fun _=>[]) (fun x=>M.length-x.1) (0,0) [] ⟨hres,by simp,by simp,by simp⟩ U ?_
 rintro ⟨j,t⟩ ⟨hI,hj,ht0,ht⟩
 dsimp only at hI hj ht0 ht ⊢
 refine T ?_
 refine⟨fun h2=>?_,fun h2=>?_⟩
 ·have hlt:j<M.length:=by have:=of_decide_eq_true h2;omega
  have hlt0:((j:Nat):Int).toNat<M.length:=hlt
  clear h2
  have hdr:M.drop j=M[((j:Nat):Int).toNat]'hlt0::M.drop (j+1):=List.drop_eq_getElem_cons hlt
  rw[hdr,Hr]at hI
  refine T ?_
  refine Ha 70 Aa (Kr (M[((j:Nat):Int).toNat]'hlt0)) q_ q_ ?_
  refine Bf 70 q_ ?_
  have hps:=Zh (M[((j:Nat):Int).toNat]'hlt0)
  have hls:(Kr (M[((j:Nat):Int).toNat]'hlt0)).length=9:=rfl
  generalize Kr (M[((j:Nat):Int).toNat]'hlt0)=ls at *
  refine T ?_
  refine A7 (fun x:Nat × Int=>Hs ls t=Hs (ls.drop x.1) x.2∧x.1≤9∧0≤x.2∧x.2≤2700 * j+300 * x.1) (fun x=>[(0,.sl 17 Ab M),(3,Aa x.2),(4,Aa j),(70,.sl 1 Aa ls),(71,Aa 9),(72,Aa x.1)]) (fun _=>[]) (fun x=>9-x.1) (0,t) [] ⟨q_,by simp,ht0,by dsimp only;omega⟩ U ?_
  rintro ⟨k,u⟩ ⟨hK,hk,hu0,hu⟩
  dsimp only at hK hk hu0 hu ⊢
  refine T ?_
  refine⟨fun h2=>?_,fun h2=>?_⟩
  ·have hkt:k<9:=by have:=of_decide_eq_true h2;omega
   have hkt0:((k:Nat):Int).toNat<ls.length:=by omega
   clear h2
   have hdk:ls.drop k=ls[((k:Nat):Int).toNat]'hkt0::ls.drop (k+1):=List.drop_eq_getElem_cons hkt0
   rw[hdk,Hs]at hK
   have hp:=hps (ls[((k:Nat):Int).toNat]'hkt0) (List.getElem_mem _)
   by_cases c1:300<ls[((k:Nat):Int).toNat]'hkt0
   ·rw[if_pos c1]at hK
    rw[hK,if_pos rfl]at hI
    have f1:decide (ls[((k:Nat):Int).toNat]'hkt0>300)=true:=decide_eq_true j_
    subst hI
    refine T ?_
    exact D
   ·rw[if_neg c1]at hK
    have f1:decide (ls[((k:Nat):Int).toNat]'hkt0>300)=false:=decide_eq_false j_
    refine T ?_
    exact As (k+1,u+ls[((k:Nat):Int).toNat]'hkt0) [] ⟨hK,hkt,by dsimp only;omega,by dsimp only;omega⟩ (by dsimp only;omega) U
  ·have hk9:k=9:=by have:=of_decide_eq_false h2;omega
   subst hk9
   clear h2
   rw[List.drop_eq_nil_of_le j_,Hs]at hK
   rw[hK,if_neg qd]at hI
   refine T ?_
   exact As (j+1,u) [] ⟨hI,hlt,hu0,by dsimp only;omega⟩ (by dsimp only;omega) U
 ·have hje:j=M.length:=by have:=of_decide_eq_false h2;omega
  subst hje
  clear h2
  rw[List.drop_length,Hr]at hI
  subst hI
  refine T ?_
  exact D
theorem S6:∀ x∈(textT exA).1,LineX x:=by
 rw[L0]
 intro x hx
 simp only[List.mem_cons,List.not_mem_nil,or_false]at hx
 rcases hx with rfl | rfl
 all_goals exact⟨⟨⟨by decide,by decide,by decide,by decide⟩,⟨by decide,by decide,fun x hx=>(by cases hx)⟩,by decide,by decide,by decide,by decide,by decide⟩,(by unfold Ch;decide),(by unfold Ch;decide),(by unfold Ch;decide),fun x hx=>(by cases hx),fun x hx=>(by cases hx),fun x hx=>(by cases hx)⟩
theorem Q4:LineFin lineZ:=⟨by decide,by decide,by decide,by decide⟩
theorem Um:Sy.Spec Tryz.prog 17 [.val (.slice none 0 0)] [] (Af true) []:=cT F17 Tryz.ntmps17 fun F hF=>by
 have q:=Q6 [] (fun x hx=>by cases hx) qc
 rw[show Cz []=true from rfl]at q
 refine T ?_
 refine Bw 3 17 Ab q_ ?_
 refine C q F39 ?_
 exact D
theorem Z0:Sy.Spec Tryz.prog 13 [] [] (Af true) []:=cT F13 Tryz.ntmps13 fun F hF=>by
 have q1:=W8 exA qc S6 (by rw[L0];decide)
 rw[Aan]at q1
 dsimp only at q1
 have q2:=Um
 have q3:=W9 lineZ lineZ Q4 Q4
 rw[lineB_ordy.ne lineZ]at q3
 have hb:((⟨exB.toArray⟩:ByteArray) == ⟨#[100,101,118,105,99,101,32,97,32,49,32,48,48,58,48,48,58,48,48,58,48,48,58,48,48,58,48,49,10,112,111,114,116,32,97,32,112,32,49,32,97,99,99,101,115,115,32,49,48,10]⟩)=true:=beq_iff_eq.2 rfl
 refine T ?_
 refine X (Kx Γ.toTy q_ q_ q_ q_ q_ q_ q_) ?_
 refine Ha 5 Al exA q_ q_ ?_
 refine Bf 5 q_ ?_
 refine C q1 F21 ?_
 refine X (Ce Γ.toTy (bs:=exB) q_ q_ q_ q_ q_ q_ q_ .sl) ?_
 refine C q2 F17 ?_
 refine G_vw 26 (Ab lineZ) (.agg (.cons (.refl _) (.cons (.refl _) (.cons (.refl _) (.cons (.refl _) (.cons (.refl _) (.cons (.refl _) (.cons (.refl _) (.cons (.refl _) (.cons (.refl _) (.cons (.refl _) (.cons (.refl _) (.cons (.refl _) (.cons (.refl _) (.cons .nil (.cons .nil (.cons .nil (.cons .nil .nil)))))))))))))))))) ?_
 refine G_vw 27 (Ab lineZ) (.agg (.cons (.refl _) (.cons (.refl _) (.cons (.refl _) (.cons (.refl _) (.cons (.refl _) (.cons (.refl _) (.cons (.refl _) (.cons (.refl _) (.cons (.refl _) (.cons (.refl _) (.cons (.refl _) (.cons (.refl _) (.cons (.refl _) (.cons .nil (.cons .nil (.cons .nil (.cons .nil .nil)))))))))))))))))) ?_
 refine C q3 F19 ?_
 exact D
theorem T1 (M:List LineM) (h:∀ x∈M,LineFin x) (hl:M.length<1000000):Sy.Spec Tryz.prog 23 [.sl 17 Ab M,.sl 17 Ab M] [] (Af true) []:=cT F23 Tryz.ntmps23 fun F hF=>by
 have f0:((M.length:Int) != (M.length:Int))=false:=by simp
 refine T ?_
 refine A7 (fun j:Nat=>j≤M.length) (fun j=>[(0,.sl 17 Ab M),(1,.sl 17 Ab M),(12,.sl 17 Ab M),(13,Aa M.length),(14,Aa j)]) (fun _=>[]) (fun j=>M.length-j) 0 [] qd U ?_
 intro j hj
 refine T ?_
 refine⟨fun h2=>?_,fun h2=>?_⟩
 ·have hlt:j<M.length:=by have:=of_decide_eq_true h2;omega
  have hlt0:((j:Nat):Int).toNat<M.length:=hlt
  clear h2
  have q:=Qt (M[((j:Nat):Int).toNat]'hlt0) (M[((j:Nat):Int).toNat]'hlt0) (h _ (List.getElem_mem _)) (h _ (List.getElem_mem _))
  rw[Ww]at q
  refine T ?_
  refine C q F50 ?_
  exact As (j+1) [] hlt j_ U
 ·refine T ?_
  exact D
theorem Qd (M:List LineM) (j:Nat) (h:j<(Ao M).length):((Ao M)[j]'h).row=(j:Int)+1:=by
 simp only[Ao,Cv,List.getElem_mapIdx]
theorem Qg (M:List LineM):Sy.Spec Tryz.prog 6 [.sl 17 Ab M] [] (Af true) []:=cT F6 Tryz.ntmps6 fun F hF=>by
 have qw:=Z0
 by_cases c0:100<M.length
 ·have f0:decide ((M.length:Int)>100)=true:=decide_eq_true j_
  refine T ?_
  refine C qw F13 ?_
  exact D
 have f0:decide ((M.length:Int)>100)=false:=decide_eq_false j_
 have qg:=U9 M j_
 cases hg:linesGreat M with
 | true =>
  rw[hg]at qg
  refine T ?_
  refine C qw F13 ?_
  refine C qg F12 ?_
  exact D
 | false =>
  rw[hg]at qg
  have fin:=Zn hg
  clear hg
  refine T ?_
  refine C qw F13 ?_
  refine C qg F12 ?_
  refine A7 (fun j:Nat=>j≤M.length∧∀ k (hk:k<M.length),k<j→KindOK M[k]) (fun j=>[(0,.sl 17 Ab M),(3,Aa j)]) (fun _=>[]) (fun j=>M.length-j) 0 [] ⟨by simp,fun k hk h=>by omega⟩ U ?_
  rintro j ⟨hj,hK⟩
  refine T ?_
  refine⟨fun h2=>?_,fun h2=>?_⟩
  ·have hlt:j<M.length:=by have:=of_decide_eq_true h2;omega
   have hlt0:((j:Nat):Int).toNat<M.length:=hlt
   clear h2
   by_cases k1:(M[((j:Nat):Int).toNat]'hlt0).kind<1
   ·have f1:decide ((M[((j:Nat):Int).toNat]'hlt0).kind<1)=true:=decide_eq_true k1
    refine T ?_
    exact D
   have f1:decide ((M[((j:Nat):Int).toNat]'hlt0).kind<1)=false:=decide_eq_false k1
   by_cases k2:(M[((j:Nat):Int).toNat]'hlt0).kind>9
   ·have f2:decide ((M[((j:Nat):Int).toNat]'hlt0).kind>9)=true:=decide_eq_true k2
    refine T ?_
    exact D
   have f2:decide ((M[((j:Nat):Int).toNat]'hlt0).kind>9)=false:=decide_eq_false k2
   refine T ?_
   refine As (j+1) [] ⟨hlt,fun k hk h=>?_⟩ j_ U
   by_cases hkj:k=j
   ·subst hkj
    have e:(M[((k:Nat):Int).toNat]'hlt0)=M[k]:=rfl
    rw[e]at k1 k2
    exact⟨by omega,by omega⟩
   ·exact hK k hk j_
  ·have hje:M.length≤j:=by have:=of_decide_eq_false h2;omega
   clear h2
   have hall:∀ x∈M,KindOK x:=fun x hx=>by
    obtain ⟨k,hk,rfl⟩:=List.mem_iff_getElem.1 hx
    exact hK k hk j_
   clear hK
   have q1:=Ho M fin j_
   have q2:=Ho M.reverse (fun x hx=>fin x (List.mem_reverse.1 hx)) (by rw[List.length_reverse];omega)
   rw[Yz hall]at q2
   have hrow:=Qd M
   have hzl:=Ja M
   have hzf:∀ x∈Ao M,LineFin x:=by
    intro x hx
    rw[Ao,Cv,List.mem_mapIdx]at hx
    obtain ⟨i,hi,rfl⟩:=hx
    obtain ⟨a1,a2,a3,a4⟩:=fin _ (C0 _ _ _ (List.getElem_mem hi))
    exact⟨a1,a2,a3,a4⟩
   have q3:=Aam (Ao M) hzf j_
   rw[M8]at q3
   have q4:=Ho (Ao M) hzf j_
   rw[Wu]at q4
   have q5:=T1 (Ao M) hzf j_
   generalize Ao M=Z at *
   refine T ?_
   refine C q1 F15 ?_
   refine Dg 5 1000 17 Ab q_ q_ ?_
   refine T ?_
   refine A7 (fun i:Nat=>i≤M.length) (fun i=>[(0,.sl 17 Ab M),(4,.sl 17 Ab Z),(5,.osl 1000),(6,Aa ((M.length:Int)-1-(i:Int)))]) (fun i=>[(1000,.row 17 Ab (M.reverse.take i))]) (fun i=>M.length-i) 0 [] qd ⟨⟨q_,q_,q_,q_,q_,q_,congrArg Aa j_,q_,z_⟩,⟨.inl q_,q_,z_⟩,q_,q_⟩ ?_
   intro i hi
   refine T ?_
   refine⟨fun h2=>?_,fun h2=>?_⟩
   ·have hlt:i<M.length:=by have:=of_decide_eq_true h2;omega
    have g1:0≤(M.length:Int)-1-(i:Int):=by omega
    have hlt0:((M.length:Int)-1-(i:Int)).toNat<M.length:=by omega
    clear h2
    have hnx:M.reverse.take (i+1)=M.reverse.take i++[M[((M.length:Int)-1-(i:Int)).toNat]'hlt0]:=by
     rw[List.take_succ_eq_append_getElem (by rw[List.length_reverse];exact hlt),List.getElem_reverse]
     have e:((M.length:Int)-1-(i:Int)).toNat=M.length-1-i:=by omega
     simp only[e]
    have hql:(M.reverse.take i).length=i:=by rw[List.length_take,List.length_reverse];omega
    generalize M.reverse.take i=P at *
    refine T ?_
    refine X (Ai Γ.toTy 53 q_ q_ q_ q_ q_ (.row q_) (.lit (e:=Ab) (l:=[M[((M.length:Int)-1-(i:Int)).toNat]'hlt0]) q_ q_) qd (by simp;omega) (by simp;omega)) ?_
    exact As (i+1) [(1000,53)] hlt j_ ⟨⟨q_,q_,q_,q_,q_,q_,congrArg Aa j_,q_,z_⟩,⟨.inl (congrArg (Ob.row 17 Ab) hnx),q_,z_⟩,q_,q_⟩
   ·have hie:i=M.length:=by have:=of_decide_eq_false h2;omega
    subst hie
    clear h2
    rw[show M.reverse.take M.length=M.reverse from List.take_of_length_le (by rw[List.length_reverse];exact Nat.le_refl _)]
    have f3:((Z.length:Int) != (M.length:Int))=false:=by rw[hzl];simp
    refine T ?_
    refine Bf 1000 q_ ?_
    refine C q2 F15 ?_
    refine C q3 F17 ?_
    refine C q4 F15 ?_
    refine C q5 F23 ?_
    refine C q5 F23 ?_
    refine A7 (fun k:Nat=>k≤Z.length) (fun k=>[(4,.sl 17 Ab Z),(80,Aa Z.length),(81,Aa k)]) (fun _=>[]) (fun k=>Z.length-k) 0 [] qd U ?_
    intro k hk
    refine T ?_
    refine⟨fun h2=>?_,fun h2=>?_⟩
    ·have hlt:k<Z.length:=by have:=of_decide_eq_true h2;omega
     have hlt0:((k:Nat):Int).toNat<Z.length:=hlt
     clear h2
     have f4:((Z[((k:Nat):Int).toNat]'hlt0).row != (k:Int)+1)=false:=by
      have:=hrow k hlt
      simp only[Int.toNat_natCast]
      rw[this];simp
     refine T ?_
     exact As (k+1) [] hlt j_ U
    ·refine T ?_
     exact D
end Go.Sy.YtgblchnfjbkipaaGreatDoor
namespace Go.Proofs.YtgblchnfjbkipaaGreatDoor
open Go.ChangeShapes Go.WideShapes Go.ChangeAt Go.RowKit
set_option maxRecDepth 100000
theorem Kl:Tryz.checked.prog.inPlace 6=Rows.orderOnceRow.inPlace:=by kernel_rfl
theorem Ih:Tryz.checked.prog.unfollowed 6=Rows.orderOnceRow.unfollowed:=by kernel_rfl
theorem Jr:Tryz.checked.prog.recurses 6=Rows.orderOnceRow.recurses:=by kernel_rfl
theorem Mk:Tryz.checked.prog.varsNamed 6=Rows.orderOnceRow.named:=by kernel_rfl
theorem Oi:Tryz.checked.prog.liftsFinal=Rows.orderOnceRow.lifted:=by kernel_rfl
theorem Kk:laidOutB Tryz.checked.prog=true:=by kernel_rfl
theorem Mo:Tryz.checked.prog.mayEnter=true:=by kernel_rfl
theorem Mm:Tryz.checked.prog.stopsHeard=true:=by kernel_rfl
theorem Mn:joinedFacts Tryz.checked.prog 6 Tryz.f6 Rows.orderOnceSpec Rows.orderOnceRow=true:=by
 unfold joinedFacts
 rw[Kl,Ih,Jr,Mk,Oi,Kk,Mo,Mm]
 kernel_rfl
theorem S7:Rows.orderOnceRow.wfByText (OpenSpec.ofChange Rows.orderOnceSpec)=true:=by kernel_rfl
theorem Oh : Tryz.pinned.checked.prog.mainIs = some (true, "3f6af94f8c32c5bce5a1ab8a14a0f655bb578ff8d5124cf5898aee3e9cdf08b6".toList) := by kernel_rfl
theorem orderOnce_fnamed : Tryz.prog.funcNamed "paling/palinglaw49.OrderOnce" = some 6 := by kernel_rfl
theorem Ml:false=Tryz.pinned.checked.prog.looks []:=by kernel_rfl
theorem Kj:([22].all fun u=>!Tryz.prog.wantsStandIn u)=true:=by kernel_rfl
theorem Oj:false=Rows.orderOnceRow.goesBy Tryz.pinned.checked.prog:=by kernel_rfl
end Go.Proofs.YtgblchnfjbkipaaGreatDoor
