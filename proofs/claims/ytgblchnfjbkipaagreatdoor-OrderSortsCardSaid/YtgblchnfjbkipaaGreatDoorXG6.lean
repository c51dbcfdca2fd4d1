/-
  I28 Sy34 Sy35 Sy36 Sy37 Sy38 Sy39 Sy40 I29 I30 I36 I39 I38 I40 I42 I43 I44 I45 Sy23 O1 O6 I46 J32: parts of a proof, joined by program.
-/
import Derived.Test.YtgblchnfjbkipaaGreatDoorXG5
import Derived.Test.YtgblchnfjbkipaaGreatDoorXG3
import Derived.Laws.LoneSync
import Derived.Test.YtgblchnfjbkipaaGreatDoorXG2
import Derived.Defers
import Derived.Tactics
import Derived.Tactics2
import Derived.Laws.Pointers
import Derived.RegionTactic
import Derived.RegionCalls
import Derived.Test.YtgblchnfjbkipaaGreatDoorXG4
import Derived.Test.YtgblchnfjbkipaaGreatDoorRows
import Derived.ProofKit
import Derived.Test.YtgblchnfjbkipaaGreatDoorCards
namespace Go.Sy.YtgblchnfjbkipaaGreatDoor
open Go.Proofs
attribute [local irreducible] Go.Sy.G Go.Sy.DR
set_option maxRecDepth 100000
set_option maxHeartbeats 4000000
theorem Ml (s:ByteArray):0≤kindL s∧kindL s≤9:=by
 rw[kindL]
 repeat' split
 all_goals decide
theorem C8 {k:Int} {w:List ByteArray} (h:manyB k w=true):(k=1∨k=6∨k=7→w.length=4)∧(k=3∨k=4∨k=8∨k=9→w.length=5)∧(k=5→w.length=3)∧(k=2→6≤w.length∧w.length≤7∧(wdT w 4=trunkT→w.length=7))∧k≠0:=by
 rw[manyB]at h
 by_cases h0:k=0
 ·rw[if_pos h0]at h;cases h
 rw[if_neg h0]at h
 by_cases h2:k=2
 ·rw[if_pos h2]at h
  by_cases h6:w.length<6
  ·rw[if_pos h6]at h;cases h
  rw[if_neg h6]at h
  refine⟨fun x=>by omega,fun x=>by omega,fun x=>by omega,fun _=>?_,h0⟩
  by_cases ca:wdT w 4=accessT
  ·rw[if_pos ca]at h
   have:=of_decide_eq_true h
   refine⟨by omega,by omega,fun x=>?_⟩
   rw[ca]at x
   exact absurd x S1
  ·rw[if_neg ca]at h
   by_cases ctr:wdT w 4=trunkT
   ·rw[if_pos ctr]at h
    have:=of_decide_eq_true h
    exact⟨by omega,by omega,fun _=>this⟩
   ·rw[if_neg ctr]at h
    have:=of_decide_eq_true h
    exact⟨by omega,by omega,fun x=>absurd x ctr⟩
 rw[if_neg h2]at h
 by_cases h3:k=3∨k=4∨k=8∨k=9
 ·rw[if_pos h3]at h
  have:=of_decide_eq_true h
  exact⟨fun x=>by omega,fun _=>this,fun x=>by omega,fun x=>by omega,h0⟩
 rw[if_neg h3]at h
 by_cases h5:k=5
 ·rw[if_pos h5]at h
  have:=of_decide_eq_true h
  exact⟨fun x=>by omega,fun x=>by omega,fun _=>this,fun x=>by omega,h0⟩
 rw[if_neg h5]at h
 have:=of_decide_eq_true h
 exact⟨fun _=>this,fun x=>by omega,fun x=>by omega,fun x=>absurd x h2,h0⟩
theorem Wz (w:List ByteArray) (row:Int) (hw:w.length≤1000000) (hs:∀ s∈w,s.size≤40) (hne:0<w.length) (hk:kindL (wdT w 0)=1) (hmy:manyB 1 w=true) :
  Sy.Spec Tryz.prog 111 [.sl 1 Ac w,Aa row] [] (.tup [Ab (A3 w row).1,Aa (A3 w row).2]) []:=cT F111 Tryz.ntmps111 fun F hF=>by
 have hn0:(0:Int).toNat<w.length:=hne
 have f0:((w.length:Int) == 0)=false:=by rw[beq_eq_false_iff_ne];omega
 have hx0:w[(0:Int).toNat]'hn0=wdT w 0:=(Bk hne).symm
 have qk:Sy.Spec Tryz.prog 180 [Ac (w[(0:Int).toNat]'hn0)] [] (Aa 1) []:=by
  have:=Cr (wdT w 0)
  rw[hk]at this
  rw[hx0];exact this
 have qm:=Cq 1 qc w hw
 rw[hmy]at qm
 have hml:=C8 hmy
 have hsT:A3 w row=if As (A0 w row).2≠0 then (lineZ,As (A0 w row).2) else ((A0 w row).1,0):=by
  rw[A3,if_neg]
  rintro (hh | hh)
  ·rw[hh]at hne;simp at hne
  ·rw[hk,hmy]at hh;cases hh
 have hfe:=Bg _ (B4 w row)
 have hl:w.length=4:=hml.1 qc
 have q1:=Cc w 1 (0:Int) j_ hw hs
 obtain ⟨e1,he1⟩:∃ e,Ae (0:Int) (!(Am (wdT w 1))) 20=e:=⟨_,rfl⟩
 rw[he1]at q1
 have q2:=Iy w 2 e1 0 65535 j_ hw
 obtain ⟨e2,he2⟩:∃ e,Ae e1 (!(numR (wdT w 2) 0 65535).2) 21=e:=⟨_,rfl⟩
 rw[he2]at q2
 have q3:=Aak w 3 e2 j_ hw hs
 obtain ⟨e3,he3⟩:∃ e,Ae e2 (macE (wdT w 3)) 21=e:=⟨_,rfl⟩
 rw[he3]at q3
 have hR:A0 w row=({ lineZ with row:=row,kind:=1,dev:=wdT w 1,num:=(numR (wdT w 2) 0 65535).1,mac:=(macR (wdT w 3)).1 },[((!(Am (wdT w 1))),20),((!(numR (wdT w 2) 0 65535).2),21),((macE (wdT w 3)),21)]):=by
  unfold A0
  simp only[hk]
  rfl
 rw[hR]at hsT hfe
 have hfe:As _=e3:=hfe.trans (by
  show Ae (Ae (Ae ((0:Int)) (!(Am (wdT w 1))) 20) (!(numR (wdT w 2) 0 65535).2) 21) (macE (wdT w 3)) 21=_
  rw[he1,he2,he3])
 rw[hfe]at hsT
 rw[hsT]
 generalize e3=eN at *
 refine T ?_
 refine C qk F180 ?_
 refine C qm F179 ?_
 refine C qk F180 ?_
 refine Ap 9 (Av { lineZ with row:=row,kind:=1 }) rfl (.cons (.refl _) (.cons (.refl _) (.cons (.refl _) (.cons (.refl _) (.cons (.refl _) (.cons (.refl _) (.cons (.refl _) (.cons (.refl _) (.cons (.refl _) (.cons (.refl _) (.cons (.refl _) (.cons (.refl _) (.cons (.refl _) (.cons .nil (.cons .nil (.cons .nil (.cons .nil .nil))))))))))))))))) ?_
 refine T ?_
 refine X (Ai [(0,31)] (Aj q_ q_ F181) q1 q_ W q_ V) ?_
 refine X (Ad [(0,31)] q_ F183 q2 q_ W q_ V) ?_
 refine X (Ad [(0,31)] q_ F184 q3 q_ W q_ V) ?_
 cases hz:(eN != 0)
 ·have hz0:eN=0:=by simpa using hz
  rw[if_neg (by rw[hz0];simp)]
  refine T ?_
  exact D
 ·have hz0:eN≠0:=by simpa using hz
  rw[if_pos hz0]
  refine T ?_
  refine Ap 4 (Av lineZ) q_ (.cons (.refl _) (.cons (.refl _) (.cons (.refl _) (.cons (.refl _) (.cons (.refl _) (.cons (.refl _) (.cons (.refl _) (.cons (.refl _) (.cons (.refl _) (.cons (.refl _) (.cons (.refl _) (.cons (.refl _) (.cons (.refl _) (.cons .nil (.cons .nil (.cons .nil (.cons .nil .nil))))))))))))))))) ?_
  refine T ?_
  exact D
theorem Wx (w:List ByteArray) (row:Int) (hw:w.length≤1000000) (hs:∀ s∈w,s.size≤40) (hne:0<w.length) (hk:kindL (wdT w 0)=3) (hmy:manyB 3 w=true) :
  Sy.Spec Tryz.prog 111 [.sl 1 Ac w,Aa row] [] (.tup [Ab (A3 w row).1,Aa (A3 w row).2]) []:=cT F111 Tryz.ntmps111 fun F hF=>by
 have hn0:(0:Int).toNat<w.length:=hne
 have f0:((w.length:Int) == 0)=false:=by rw[beq_eq_false_iff_ne];omega
 have hx0:w[(0:Int).toNat]'hn0=wdT w 0:=(Bk hne).symm
 have qk:Sy.Spec Tryz.prog 180 [Ac (w[(0:Int).toNat]'hn0)] [] (Aa 3) []:=by
  have:=Cr (wdT w 0)
  rw[hk]at this
  rw[hx0];exact this
 have qm:=Cq 3 qc w hw
 rw[hmy]at qm
 have hml:=C8 hmy
 have hsT:A3 w row=if As (A0 w row).2≠0 then (lineZ,As (A0 w row).2) else ((A0 w row).1,0):=by
  rw[A3,if_neg]
  rintro (hh | hh)
  ·rw[hh]at hne;simp at hne
  ·rw[hk,hmy]at hh;cases hh
 have hfe:=Bg _ (B4 w row)
 have hl:w.length=5:=hml.2.1 qc
 have q1:=Cc w 1 (0:Int) j_ hw hs
 obtain ⟨e1,he1⟩:∃ e,Ae (0:Int) (!(Am (wdT w 1))) 20=e:=⟨_,rfl⟩
 rw[he1]at q1
 have q2:=Cc w 2 e1 j_ hw hs
 obtain ⟨e2,he2⟩:∃ e,Ae e1 (!(Am (wdT w 2))) 20=e:=⟨_,rfl⟩
 rw[he2]at q2
 have q3:=Cc w 3 e2 j_ hw hs
 obtain ⟨e3,he3⟩:∃ e,Ae e2 (!(Am (wdT w 3))) 20=e:=⟨_,rfl⟩
 rw[he3]at q3
 have q4:=Cc w 4 e3 j_ hw hs
 obtain ⟨e4,he4⟩:∃ e,Ae e3 (!(Am (wdT w 4))) 20=e:=⟨_,rfl⟩
 rw[he4]at q4
 have hR:A0 w row=({ lineZ with row:=row,kind:=3,dev:=wdT w 1,port:=wdT w 2,peer:=wdT w 3,far:=wdT w 4 },[((!(Am (wdT w 1))),20),((!(Am (wdT w 2))),20),((!(Am (wdT w 3))),20),((!(Am (wdT w 4))),20)]):=by
  unfold A0
  simp only[hk]
  rfl
 rw[hR]at hsT hfe
 have hfe:As _=e4:=hfe.trans (by
  show Ae (Ae (Ae (Ae ((0:Int)) (!(Am (wdT w 1))) 20) (!(Am (wdT w 2))) 20) (!(Am (wdT w 3))) 20) (!(Am (wdT w 4))) 20=_
  rw[he1,he2,he3,he4])
 rw[hfe]at hsT
 rw[hsT]
 generalize e4=eN at *
 refine T ?_
 refine C qk F180 ?_
 refine C qm F179 ?_
 refine C qk F180 ?_
 refine Ap 9 (Av { lineZ with row:=row,kind:=3 }) rfl (.cons (.refl _) (.cons (.refl _) (.cons (.refl _) (.cons (.refl _) (.cons (.refl _) (.cons (.refl _) (.cons (.refl _) (.cons (.refl _) (.cons (.refl _) (.cons (.refl _) (.cons (.refl _) (.cons (.refl _) (.cons (.refl _) (.cons .nil (.cons .nil (.cons .nil (.cons .nil .nil))))))))))))))))) ?_
 refine T ?_
 refine X (Ai [(0,31)] (Aj q_ q_ F181) q1 q_ W q_ V) ?_
 refine X (Ai [(0,31)] (Aj q_ q_ F181) q2 q_ W q_ V) ?_
 refine X (Ai [(0,31)] (Aj q_ q_ F181) q3 q_ W q_ V) ?_
 refine X (Ai [(0,31)] (Aj q_ q_ F181) q4 q_ W q_ V) ?_
 cases hz:(eN != 0)
 ·have hz0:eN=0:=by simpa using hz
  rw[if_neg (by rw[hz0];simp)]
  refine T ?_
  exact D
 ·have hz0:eN≠0:=by simpa using hz
  rw[if_pos hz0]
  refine T ?_
  refine Ap 4 (Av lineZ) q_ (.cons (.refl _) (.cons (.refl _) (.cons (.refl _) (.cons (.refl _) (.cons (.refl _) (.cons (.refl _) (.cons (.refl _) (.cons (.refl _) (.cons (.refl _) (.cons (.refl _) (.cons (.refl _) (.cons (.refl _) (.cons (.refl _) (.cons .nil (.cons .nil (.cons .nil (.cons .nil .nil))))))))))))))))) ?_
  refine T ?_
  exact D
theorem Ww (w:List ByteArray) (row:Int) (hw:w.length≤1000000) (hs:∀ s∈w,s.size≤40) (hne:0<w.length) (hk:kindL (wdT w 0)=4) (hmy:manyB 4 w=true) :
  Sy.Spec Tryz.prog 111 [.sl 1 Ac w,Aa row] [] (.tup [Ab (A3 w row).1,Aa (A3 w row).2]) []:=cT F111 Tryz.ntmps111 fun F hF=>by
 have hn0:(0:Int).toNat<w.length:=hne
 have f0:((w.length:Int) == 0)=false:=by rw[beq_eq_false_iff_ne];omega
 have hx0:w[(0:Int).toNat]'hn0=wdT w 0:=(Bk hne).symm
 have qk:Sy.Spec Tryz.prog 180 [Ac (w[(0:Int).toNat]'hn0)] [] (Aa 4) []:=by
  have:=Cr (wdT w 0)
  rw[hk]at this
  rw[hx0];exact this
 have qm:=Cq 4 qc w hw
 rw[hmy]at qm
 have hml:=C8 hmy
 have hsT:A3 w row=if As (A0 w row).2≠0 then (lineZ,As (A0 w row).2) else ((A0 w row).1,0):=by
  rw[A3,if_neg]
  rintro (hh | hh)
  ·rw[hh]at hne;simp at hne
  ·rw[hk,hmy]at hh;cases hh
 have hfe:=Bg _ (B4 w row)
 have hl:w.length=5:=hml.2.1 qc
 have q1:=Cc w 1 (0:Int) j_ hw hs
 obtain ⟨e1,he1⟩:∃ e,Ae (0:Int) (!(Am (wdT w 1))) 20=e:=⟨_,rfl⟩
 rw[he1]at q1
 have q2:=Kr w 2 e1 j_ hw
 obtain ⟨e2,he2⟩:∃ e,Ae e1 (!(Be (wdT w 2)).2) 21=e:=⟨_,rfl⟩
 rw[he2]at q2
 have q3:=Aak w 3 e2 j_ hw hs
 obtain ⟨e3,he3⟩:∃ e,Ae e2 (macE (wdT w 3)) 21=e:=⟨_,rfl⟩
 rw[he3]at q3
 have q4:=Cc w 4 e3 j_ hw hs
 obtain ⟨e4,he4⟩:∃ e,Ae e3 (!(Am (wdT w 4))) 20=e:=⟨_,rfl⟩
 rw[he4]at q4
 have hR:A0 w row=({ lineZ with row:=row,kind:=4,dev:=wdT w 1,vlan:=(Be (wdT w 2)).1,mac:=(macR (wdT w 3)).1,port:=wdT w 4 },[((!(Am (wdT w 1))),20),((!(Be (wdT w 2)).2),21),((macE (wdT w 3)),21),((!(Am (wdT w 4))),20)]):=by
  unfold A0
  simp only[hk]
  rfl
 rw[hR]at hsT hfe
 have hfe:As _=e4:=hfe.trans (by
  show Ae (Ae (Ae (Ae ((0:Int)) (!(Am (wdT w 1))) 20) (!(Be (wdT w 2)).2) 21) (macE (wdT w 3)) 21) (!(Am (wdT w 4))) 20=_
  rw[he1,he2,he3,he4])
 rw[hfe]at hsT
 rw[hsT]
 generalize e4=eN at *
 refine T ?_
 refine C qk F180 ?_
 refine C qm F179 ?_
 refine C qk F180 ?_
 refine Ap 9 (Av { lineZ with row:=row,kind:=4 }) rfl (.cons (.refl _) (.cons (.refl _) (.cons (.refl _) (.cons (.refl _) (.cons (.refl _) (.cons (.refl _) (.cons (.refl _) (.cons (.refl _) (.cons (.refl _) (.cons (.refl _) (.cons (.refl _) (.cons (.refl _) (.cons (.refl _) (.cons .nil (.cons .nil (.cons .nil (.cons .nil .nil))))))))))))))))) ?_
 refine T ?_
 refine X (Ai [(0,31)] (Aj q_ q_ F181) q1 q_ W q_ V) ?_
 refine X (Ai [(0,31)] (Aj q_ q_ F182) q2 q_ W q_ V) ?_
 refine X (Ad [(0,31)] q_ F184 q3 q_ W q_ V) ?_
 refine X (Ai [(0,31)] (Aj q_ q_ F181) q4 q_ W q_ V) ?_
 cases hz:(eN != 0)
 ·have hz0:eN=0:=by simpa using hz
  rw[if_neg (by rw[hz0];simp)]
  refine T ?_
  exact D
 ·have hz0:eN≠0:=by simpa using hz
  rw[if_pos hz0]
  refine T ?_
  refine Ap 4 (Av lineZ) q_ (.cons (.refl _) (.cons (.refl _) (.cons (.refl _) (.cons (.refl _) (.cons (.refl _) (.cons (.refl _) (.cons (.refl _) (.cons (.refl _) (.cons (.refl _) (.cons (.refl _) (.cons (.refl _) (.cons (.refl _) (.cons (.refl _) (.cons .nil (.cons .nil (.cons .nil (.cons .nil .nil))))))))))))))))) ?_
  refine T ?_
  exact D
theorem Wu (w:List ByteArray) (row:Int) (hw:w.length≤1000000) (hs:∀ s∈w,s.size≤40) (hne:0<w.length) (hk:kindL (wdT w 0)=6) (hmy:manyB 6 w=true) :
  Sy.Spec Tryz.prog 111 [.sl 1 Ac w,Aa row] [] (.tup [Ab (A3 w row).1,Aa (A3 w row).2]) []:=cT F111 Tryz.ntmps111 fun F hF=>by
 have hn0:(0:Int).toNat<w.length:=hne
 have f0:((w.length:Int) == 0)=false:=by rw[beq_eq_false_iff_ne];omega
 have hx0:w[(0:Int).toNat]'hn0=wdT w 0:=(Bk hne).symm
 have qk:Sy.Spec Tryz.prog 180 [Ac (w[(0:Int).toNat]'hn0)] [] (Aa 6) []:=by
  have:=Cr (wdT w 0)
  rw[hk]at this
  rw[hx0];exact this
 have qm:=Cq 6 qc w hw
 rw[hmy]at qm
 have hml:=C8 hmy
 have hsT:A3 w row=if As (A0 w row).2≠0 then (lineZ,As (A0 w row).2) else ((A0 w row).1,0):=by
  rw[A3,if_neg]
  rintro (hh | hh)
  ·rw[hh]at hne;simp at hne
  ·rw[hk,hmy]at hh;cases hh
 have hfe:=Bg _ (B4 w row)
 have hl:w.length=4:=hml.1 qc
 have q1:=Cc w 1 (0:Int) j_ hw hs
 obtain ⟨e1,he1⟩:∃ e,Ae (0:Int) (!(Am (wdT w 1))) 20=e:=⟨_,rfl⟩
 rw[he1]at q1
 have q2:=Kr w 2 e1 j_ hw
 obtain ⟨e2,he2⟩:∃ e,Ae e1 (!(Be (wdT w 2)).2) 21=e:=⟨_,rfl⟩
 rw[he2]at q2
 have q3:=Aaj w 3 e2 j_ hw
 obtain ⟨e3,he3⟩:∃ e,Ae e2 (!(Js (wdT w 3)).2) 21=e:=⟨_,rfl⟩
 rw[he3]at q3
 have hR:A0 w row=({ lineZ with row:=row,kind:=6,dev:=wdT w 1,vlan:=(Be (wdT w 2)).1,num:=(Js (wdT w 3)).1 },[((!(Am (wdT w 1))),20),((!(Be (wdT w 2)).2),21),((!(Js (wdT w 3)).2),21)]):=by
  unfold A0
  simp only[hk]
  rfl
 rw[hR]at hsT hfe
 have hfe:As _=e3:=hfe.trans (by
  show Ae (Ae (Ae ((0:Int)) (!(Am (wdT w 1))) 20) (!(Be (wdT w 2)).2) 21) (!(Js (wdT w 3)).2) 21=_
  rw[he1,he2,he3])
 rw[hfe]at hsT
 rw[hsT]
 generalize e3=eN at *
 refine T ?_
 refine C qk F180 ?_
 refine C qm F179 ?_
 refine C qk F180 ?_
 refine Ap 9 (Av { lineZ with row:=row,kind:=6 }) rfl (.cons (.refl _) (.cons (.refl _) (.cons (.refl _) (.cons (.refl _) (.cons (.refl _) (.cons (.refl _) (.cons (.refl _) (.cons (.refl _) (.cons (.refl _) (.cons (.refl _) (.cons (.refl _) (.cons (.refl _) (.cons (.refl _) (.cons .nil (.cons .nil (.cons .nil (.cons .nil .nil))))))))))))))))) ?_
 refine T ?_
 refine X (Ai [(0,31)] (Aj q_ q_ F181) q1 q_ W q_ V) ?_
 refine X (Ai [(0,31)] (Aj q_ q_ F182) q2 q_ W q_ V) ?_
 refine X (Ad [(0,31)] q_ F189 q3 q_ W q_ V) ?_
 cases hz:(eN != 0)
 ·have hz0:eN=0:=by simpa using hz
  rw[if_neg (by rw[hz0];simp)]
  refine T ?_
  exact D
 ·have hz0:eN≠0:=by simpa using hz
  rw[if_pos hz0]
  refine T ?_
  refine Ap 4 (Av lineZ) q_ (.cons (.refl _) (.cons (.refl _) (.cons (.refl _) (.cons (.refl _) (.cons (.refl _) (.cons (.refl _) (.cons (.refl _) (.cons (.refl _) (.cons (.refl _) (.cons (.refl _) (.cons (.refl _) (.cons (.refl _) (.cons (.refl _) (.cons .nil (.cons .nil (.cons .nil (.cons .nil .nil))))))))))))))))) ?_
  refine T ?_
  exact D
theorem Ws (w:List ByteArray) (row:Int) (hw:w.length≤1000000) (hs:∀ s∈w,s.size≤40) (hne:0<w.length) (hk:kindL (wdT w 0)=8) (hmy:manyB 8 w=true) :
  Sy.Spec Tryz.prog 111 [.sl 1 Ac w,Aa row] [] (.tup [Ab (A3 w row).1,Aa (A3 w row).2]) []:=cT F111 Tryz.ntmps111 fun F hF=>by
 have hn0:(0:Int).toNat<w.length:=hne
 have f0:((w.length:Int) == 0)=false:=by rw[beq_eq_false_iff_ne];omega
 have hx0:w[(0:Int).toNat]'hn0=wdT w 0:=(Bk hne).symm
 have qk:Sy.Spec Tryz.prog 180 [Ac (w[(0:Int).toNat]'hn0)] [] (Aa 8) []:=by
  have:=Cr (wdT w 0)
  rw[hk]at this
  rw[hx0];exact this
 have qm:=Cq 8 qc w hw
 rw[hmy]at qm
 have hml:=C8 hmy
 have hsT:A3 w row=if As (A0 w row).2≠0 then (lineZ,As (A0 w row).2) else ((A0 w row).1,0):=by
  rw[A3,if_neg]
  rintro (hh | hh)
  ·rw[hh]at hne;simp at hne
  ·rw[hk,hmy]at hh;cases hh
 have hfe:=Bg _ (B4 w row)
 have hl:w.length=5:=hml.2.1 qc
 have q1:=Cc w 1 (0:Int) j_ hw hs
 obtain ⟨e1,he1⟩:∃ e,Ae (0:Int) (!(Am (wdT w 1))) 20=e:=⟨_,rfl⟩
 rw[he1]at q1
 have q2:=Cc w 2 e1 j_ hw hs
 obtain ⟨e2,he2⟩:∃ e,Ae e1 (!(Am (wdT w 2))) 20=e:=⟨_,rfl⟩
 rw[he2]at q2
 have q3:=M7 w 3 e2 65535 j_ hw hs
 obtain ⟨e3,he3⟩:∃ e,Ae e2 (!(listR 65535 (wdT w 3)).2) 21=e:=⟨_,rfl⟩
 rw[he3]at q3
 have q4:=M7 w 4 e3 65535 j_ hw hs
 obtain ⟨e4,he4⟩:∃ e,Ae e3 (!(listR 65535 (wdT w 4)).2) 21=e:=⟨_,rfl⟩
 rw[he4]at q4
 have hR:A0 w row=({ lineZ with row:=row,kind:=8,dev:=wdT w 1,name:=wdT w 2,imports:=(listR 65535 (wdT w 3)).1,exports:=(listR 65535 (wdT w 4)).1 },[((!(Am (wdT w 1))),20),((!(Am (wdT w 2))),20),((!(listR 65535 (wdT w 3)).2),21),((!(listR 65535 (wdT w 4)).2),21)]):=by
  unfold A0
  simp only[hk]
  rfl
 rw[hR]at hsT hfe
 have hfe:As _=e4:=hfe.trans (by
  show Ae (Ae (Ae (Ae ((0:Int)) (!(Am (wdT w 1))) 20) (!(Am (wdT w 2))) 20) (!(listR 65535 (wdT w 3)).2) 21) (!(listR 65535 (wdT w 4)).2) 21=_
  rw[he1,he2,he3,he4])
 rw[hfe]at hsT
 rw[hsT]
 generalize e4=eN at *
 refine T ?_
 refine C qk F180 ?_
 refine C qm F179 ?_
 refine C qk F180 ?_
 refine Ap 9 (Av { lineZ with row:=row,kind:=8 }) rfl (.cons (.refl _) (.cons (.refl _) (.cons (.refl _) (.cons (.refl _) (.cons (.refl _) (.cons (.refl _) (.cons (.refl _) (.cons (.refl _) (.cons (.refl _) (.cons (.refl _) (.cons (.refl _) (.cons (.refl _) (.cons (.refl _) (.cons .nil (.cons .nil (.cons .nil (.cons .nil .nil))))))))))))))))) ?_
 refine T ?_
 refine X (Ai [(0,31)] (Aj q_ q_ F181) q1 q_ W q_ V) ?_
 refine X (Ai [(0,31)] (Aj q_ q_ F181) q2 q_ W q_ V) ?_
 refine X (Ad [(0,31)] q_ F191 q3 q_ W q_ V) ?_
 refine X (Ad [(0,31)] q_ F191 q4 q_ W q_ V) ?_
 cases hz:(eN != 0)
 ·have hz0:eN=0:=by simpa using hz
  rw[if_neg (by rw[hz0];simp)]
  refine T ?_
  exact D
 ·have hz0:eN≠0:=by simpa using hz
  rw[if_pos hz0]
  refine T ?_
  refine Ap 4 (Av lineZ) q_ (.cons (.refl _) (.cons (.refl _) (.cons (.refl _) (.cons (.refl _) (.cons (.refl _) (.cons (.refl _) (.cons (.refl _) (.cons (.refl _) (.cons (.refl _) (.cons (.refl _) (.cons (.refl _) (.cons (.refl _) (.cons (.refl _) (.cons .nil (.cons .nil (.cons .nil (.cons .nil .nil))))))))))))))))) ?_
  refine T ?_
  exact D
theorem Wv (w:List ByteArray) (row:Int) (hw:w.length≤1000000) (hs:∀ s∈w,s.size≤40) (hne:0<w.length) (hk:kindL (wdT w 0)=5) (hmy:manyB 5 w=true) :
  Sy.Spec Tryz.prog 111 [.sl 1 Ac w,Aa row] [] (.tup [Ab (A3 w row).1,Aa (A3 w row).2]) []:=cT F111 Tryz.ntmps111 fun F hF=>by
 have hn0:(0:Int).toNat<w.length:=hne
 have f0:((w.length:Int) == 0)=false:=by rw[beq_eq_false_iff_ne];omega
 have hx0:w[(0:Int).toNat]'hn0=wdT w 0:=(Bk hne).symm
 have qk:Sy.Spec Tryz.prog 180 [Ac (w[(0:Int).toNat]'hn0)] [] (Aa 5) []:=by
  have:=Cr (wdT w 0)
  rw[hk]at this
  rw[hx0];exact this
 have qm:=Cq 5 qc w hw
 rw[hmy]at qm
 have hml:=C8 hmy
 have hsT:A3 w row=if As (A0 w row).2≠0 then (lineZ,As (A0 w row).2) else ((A0 w row).1,0):=by
  rw[A3,if_neg]
  rintro (hh | hh)
  ·rw[hh]at hne;simp at hne
  ·rw[hk,hmy]at hh;cases hh
 have hfe:=Bg _ (B4 w row)
 have hl:w.length=3:=hml.2.2.1 rfl
 have q1:=Cc w 1 (0:Int) j_ hw hs
 obtain ⟨e1,he1⟩:∃ e,Ae (0:Int) (!(Am (wdT w 1))) 20=e:=⟨_,rfl⟩
 rw[he1]at q1
 have qn:=E2 w 2 e1 j_ hw
 have hsz:(wdT w 2).size≤40:=by rw[Bk (by omega:2<w.length)];exact hs _ (List.getElem_mem _)
 have qa:=L0 (wdT w 2) j_
 have q2:=Da w 3 e1 (!((Bl (wdT w 2)).2 && decide ((Bl (wdT w 2)).1≠0))) 21
 obtain ⟨e2,he2⟩:∃ e,Ae e1 (!((Bl (wdT w 2)).2 && decide ((Bl (wdT w 2)).1≠0))) 21=e:=⟨_,rfl⟩
 rw[he2]at q2
 have hR:A0 w row=({ lineZ with row:=row,kind:=5,dev:=wdT w 1,addr:=(Bl (wdT w 2)).1 },[((!(Am (wdT w 1))),20),((!((Bl (wdT w 2)).2 && decide ((Bl (wdT w 2)).1≠0))),21)]):=by
  unfold A0
  simp only[hk]
  rfl
 rw[hR]at hsT hfe
 have hfe:As _=e2:=hfe.trans (by
  show Ae (Ae ((0:Int)) (!(Am (wdT w 1))) 20) (!((Bl (wdT w 2)).2 && decide ((Bl (wdT w 2)).1≠0))) 21=_
  rw[he1,he2])
 rw[hfe]at hsT
 rw[hsT]
 generalize e2=eN at *
 clear hR hsT hfe he2
 generalize Bl (wdT w 2)=rt at *
 obtain ⟨av,ok⟩:=rt
 dsimp only at qa q2 ⊢
 cases ok
 ·have q2:Sy.Spec Tryz.prog 185 [.ptr 0 0,Af true,Aa 21] (rdO w 3 e1) (.tup []) (rdO w 3 eN):=q2
  refine T ?_
  refine C qk F180 ?_
  refine C qm F179 ?_
  refine C qk F180 ?_
  refine Ap 9 (Av { lineZ with row:=row,kind:=5 }) rfl (.cons (.refl _) (.cons (.refl _) (.cons (.refl _) (.cons (.refl _) (.cons (.refl _) (.cons (.refl _) (.cons (.refl _) (.cons (.refl _) (.cons (.refl _) (.cons (.refl _) (.cons (.refl _) (.cons (.refl _) (.cons (.refl _) (.cons .nil (.cons .nil (.cons .nil (.cons .nil .nil))))))))))))))))) ?_
  refine T ?_
  refine X (Ai [(0,31)] (Aj q_ q_ F181) q1 q_ W q_ V) ?_
  refine X (Ad [(0,31)] q_ F188 qn q_ W q_ V) ?_
  refine C qa F187 ?_
  refine X (Ad [(0,31)] q_ F185 q2 q_ W q_ V) ?_
  cases hz:(eN != 0)
  ·have hz0:eN=0:=by simpa using hz
   rw[if_neg (by rw[hz0];simp)]
   refine T ?_
   exact D
  ·have hz0:eN≠0:=by simpa using hz
   rw[if_pos hz0]
   refine T ?_
   refine Ap 4 (Av lineZ) q_ (.cons (.refl _) (.cons (.refl _) (.cons (.refl _) (.cons (.refl _) (.cons (.refl _) (.cons (.refl _) (.cons (.refl _) (.cons (.refl _) (.cons (.refl _) (.cons (.refl _) (.cons (.refl _) (.cons (.refl _) (.cons (.refl _) (.cons .nil (.cons .nil (.cons .nil (.cons .nil .nil))))))))))))))))) ?_
   refine T ?_
   exact D
 ·have hb:(!(true && decide (av≠0)))=(av == 0):=by
   by_cases h:av=0
   ·rw[h];rfl
   ·rw[decide_eq_true h,beq_eq_false_iff_ne.2 h];rfl
  rw[hb]at q2
  refine T ?_
  refine C qk F180 ?_
  refine C qm F179 ?_
  refine C qk F180 ?_
  refine Ap 9 (Av { lineZ with row:=row,kind:=5 }) rfl (.cons (.refl _) (.cons (.refl _) (.cons (.refl _) (.cons (.refl _) (.cons (.refl _) (.cons (.refl _) (.cons (.refl _) (.cons (.refl _) (.cons (.refl _) (.cons (.refl _) (.cons (.refl _) (.cons (.refl _) (.cons (.refl _) (.cons .nil (.cons .nil (.cons .nil (.cons .nil .nil))))))))))))))))) ?_
  refine T ?_
  refine X (Ai [(0,31)] (Aj q_ q_ F181) q1 q_ W q_ V) ?_
  refine X (Ad [(0,31)] q_ F188 qn q_ W q_ V) ?_
  refine C qa F187 ?_
  refine X (Ad [(0,31)] q_ F185 q2 q_ W q_ V) ?_
  cases hz:(eN != 0)
  ·have hz0:eN=0:=by simpa using hz
   rw[if_neg (by rw[hz0];simp)]
   refine T ?_
   exact D
  ·have hz0:eN≠0:=by simpa using hz
   rw[if_pos hz0]
   refine T ?_
   refine Ap 4 (Av lineZ) q_ (.cons (.refl _) (.cons (.refl _) (.cons (.refl _) (.cons (.refl _) (.cons (.refl _) (.cons (.refl _) (.cons (.refl _) (.cons (.refl _) (.cons (.refl _) (.cons (.refl _) (.cons (.refl _) (.cons (.refl _) (.cons (.refl _) (.cons .nil (.cons .nil (.cons .nil (.cons .nil .nil))))))))))))))))) ?_
   refine T ?_
   exact D
theorem Wt (w:List ByteArray) (row:Int) (hw:w.length≤1000000) (hs:∀ s∈w,s.size≤40) (hne:0<w.length) (hk:kindL (wdT w 0)=7) (hmy:manyB 7 w=true) :
  Sy.Spec Tryz.prog 111 [.sl 1 Ac w,Aa row] [] (.tup [Ab (A3 w row).1,Aa (A3 w row).2]) []:=cT F111 Tryz.ntmps111 fun F hF=>by
 have hn0:(0:Int).toNat<w.length:=hne
 have f0:((w.length:Int) == 0)=false:=by rw[beq_eq_false_iff_ne];omega
 have hx0:w[(0:Int).toNat]'hn0=wdT w 0:=(Bk hne).symm
 have qk:Sy.Spec Tryz.prog 180 [Ac (w[(0:Int).toNat]'hn0)] [] (Aa 7) []:=by
  have:=Cr (wdT w 0)
  rw[hk]at this
  rw[hx0];exact this
 have qm:=Cq 7 qc w hw
 rw[hmy]at qm
 have hml:=C8 hmy
 have hsT:A3 w row=if As (A0 w row).2≠0 then (lineZ,As (A0 w row).2) else ((A0 w row).1,0):=by
  rw[A3,if_neg]
  rintro (hh | hh)
  ·rw[hh]at hne;simp at hne
  ·rw[hk,hmy]at hh;cases hh
 have hfe:=Bg _ (B4 w row)
 have hl:w.length=4:=hml.1 qc
 have q1:=Cc w 1 (0:Int) j_ hw hs
 obtain ⟨e1,he1⟩:∃ e,Ae (0:Int) (!(Am (wdT w 1))) 20=e:=⟨_,rfl⟩
 rw[he1]at q1
 have q2:=Aaj w 2 e1 j_ hw
 obtain ⟨e2,he2⟩:∃ e,Ae e1 (!(Js (wdT w 2)).2) 21=e:=⟨_,rfl⟩
 rw[he2]at q2
 have qn:=E2 w 3 e2 j_ hw
 have hsz:(wdT w 3).size≤40:=by rw[Bk (by omega:3<w.length)];exact hs _ (List.getElem_mem _)
 have qa:=Qw (wdT w 3) j_
 have hpos:(Ck (wdT w 3)).2=true→0<(Ck (wdT w 3)).1.length:=fun h=>by
  have hp:=Ab3 h
  rw[Ck,C0]at hp ⊢
  have:=(Qd _ _ _ _ hp List.Pairwise.nil qc).2.2.1
  rw[this,Jg];simp
 have q3:=Da w 4 e2 (!((Ck (wdT w 3)).2 && decide ((Ck (wdT w 3)).1.head? ≠ some 0))) 21
 obtain ⟨e3,he3⟩:∃ e,Ae e2 (!((Ck (wdT w 3)).2 && decide ((Ck (wdT w 3)).1.head? ≠ some 0))) 21=e:=⟨_,rfl⟩
 rw[he3]at q3
 have hR:A0 w row=({ lineZ with row:=row,kind:=7,dev:=wdT w 1,num:=(Js (wdT w 2)).1,addrs:=(Ck (wdT w 3)).1 },[((!(Am (wdT w 1))),20),((!(Js (wdT w 2)).2),21),((!((Ck (wdT w 3)).2 && decide ((Ck (wdT w 3)).1.head? ≠ some 0))),21)]):=by
  unfold A0
  simp only[hk]
  rfl
 rw[hR]at hsT hfe
 have hfe:As _=e3:=hfe.trans (by
  show Ae (Ae (Ae ((0:Int)) (!(Am (wdT w 1))) 20) (!(Js (wdT w 2)).2) 21) (!((Ck (wdT w 3)).2 && decide ((Ck (wdT w 3)).1.head? ≠ some 0))) 21=_
  rw[he1,he2,he3])
 rw[hfe]at hsT
 rw[hsT]
 generalize e3=eN at *
 clear hR hsT hfe he3
 generalize Ck (wdT w 3)=rt at *
 obtain ⟨av,ok⟩:=rt
 dsimp only at qa q3 hpos ⊢
 cases ok
 ·have q3:Sy.Spec Tryz.prog 185 [.ptr 0 0,Af true,Aa 21] (rdO w 4 e2) (.tup []) (rdO w 4 eN):=q3
  refine T ?_
  refine C qk F180 ?_
  refine C qm F179 ?_
  refine C qk F180 ?_
  refine Ap 9 (Av { lineZ with row:=row,kind:=7 }) rfl (.cons (.refl _) (.cons (.refl _) (.cons (.refl _) (.cons (.refl _) (.cons (.refl _) (.cons (.refl _) (.cons (.refl _) (.cons (.refl _) (.cons (.refl _) (.cons (.refl _) (.cons (.refl _) (.cons (.refl _) (.cons (.refl _) (.cons .nil (.cons .nil (.cons .nil (.cons .nil .nil))))))))))))))))) ?_
  refine T ?_
  refine X (Ai [(0,31)] (Aj q_ q_ F181) q1 q_ W q_ V) ?_
  refine X (Ad [(0,31)] q_ F189 q2 q_ W q_ V) ?_
  refine X (Ad [(0,31)] q_ F188 qn q_ W q_ V) ?_
  refine C qa F190 ?_
  refine X (Ad [(0,31)] q_ F185 q3 q_ W q_ V) ?_
  cases hz:(eN != 0)
  ·have hz0:eN=0:=by simpa using hz
   rw[if_neg (by rw[hz0];simp)]
   refine T ?_
   exact D
  ·have hz0:eN≠0:=by simpa using hz
   rw[if_pos hz0]
   refine T ?_
   refine Ap 4 (Av lineZ) q_ (.cons (.refl _) (.cons (.refl _) (.cons (.refl _) (.cons (.refl _) (.cons (.refl _) (.cons (.refl _) (.cons (.refl _) (.cons (.refl _) (.cons (.refl _) (.cons (.refl _) (.cons (.refl _) (.cons (.refl _) (.cons (.refl _) (.cons .nil (.cons .nil (.cons .nil (.cons .nil .nil))))))))))))))))) ?_
   refine T ?_
   exact D
 ·have h0:(0:Int).toNat<av.length:=hpos rfl
  have hb:(!(true && decide (av.head? ≠ some 0)))=(av[(0:Int).toNat]'h0 == 0):=by
   cases av with
   | nil=>exact absurd h0 qd
   | cons a r =>
    show (!(true && decide (some a≠some 0)))=(a == 0)
    by_cases h:a=0
    ·rw[h];rfl
    ·rw[beq_eq_false_iff_ne.2 h,decide_eq_true (by simpa using h)];rfl
  rw[hb]at q3
  refine T ?_
  refine C qk F180 ?_
  refine C qm F179 ?_
  refine C qk F180 ?_
  refine Ap 9 (Av { lineZ with row:=row,kind:=7 }) rfl (.cons (.refl _) (.cons (.refl _) (.cons (.refl _) (.cons (.refl _) (.cons (.refl _) (.cons (.refl _) (.cons (.refl _) (.cons (.refl _) (.cons (.refl _) (.cons (.refl _) (.cons (.refl _) (.cons (.refl _) (.cons (.refl _) (.cons .nil (.cons .nil (.cons .nil (.cons .nil .nil))))))))))))))))) ?_
  refine T ?_
  refine X (Ai [(0,31)] (Aj q_ q_ F181) q1 q_ W q_ V) ?_
  refine X (Ad [(0,31)] q_ F189 q2 q_ W q_ V) ?_
  refine X (Ad [(0,31)] q_ F188 qn q_ W q_ V) ?_
  refine C qa F190 ?_
  refine X (Ad [(0,31)] q_ F185 q3 q_ W q_ V) ?_
  cases hz:(eN != 0)
  ·have hz0:eN=0:=by simpa using hz
   rw[if_neg (by rw[hz0];simp)]
   refine T ?_
   exact D
  ·have hz0:eN≠0:=by simpa using hz
   rw[if_pos hz0]
   refine T ?_
   refine Ap 4 (Av lineZ) q_ (.cons (.refl _) (.cons (.refl _) (.cons (.refl _) (.cons (.refl _) (.cons (.refl _) (.cons (.refl _) (.cons (.refl _) (.cons (.refl _) (.cons (.refl _) (.cons (.refl _) (.cons (.refl _) (.cons (.refl _) (.cons (.refl _) (.cons .nil (.cons .nil (.cons .nil (.cons .nil .nil))))))))))))))))) ?_
   refine T ?_
   exact D
theorem S9 (s:ByteArray):∃ m:Nat,(prefixR s).1.1=m∧m<4294967296:=by
 rw[prefixR]
 split
 ·exact⟨0,q_,by decide⟩
 ·have h1:=V8 (cutT 47 s).1
  have h2:=X5 (cutT 47 s).1
  exact⟨(Bl (cutT 47 s).1).1.toNat,(Int.toNat_of_nonneg h1).symm,by omega⟩
theorem Wr (w:List ByteArray) (row:Int) (hw:w.length≤1000000) (hs:∀ s∈w,s.size≤40) (hne:0<w.length) (hk:kindL (wdT w 0)=9) (hmy:manyB 9 w=true) :
  Sy.Spec Tryz.prog 111 [.sl 1 Ac w,Aa row] [] (.tup [Ab (A3 w row).1,Aa (A3 w row).2]) []:=cT F111 Tryz.ntmps111 fun F hF=>by
 have hn0:(0:Int).toNat<w.length:=hne
 have f0:((w.length:Int) == 0)=false:=by rw[beq_eq_false_iff_ne];omega
 have hx0:w[(0:Int).toNat]'hn0=wdT w 0:=(Bk hne).symm
 have qk:Sy.Spec Tryz.prog 180 [Ac (w[(0:Int).toNat]'hn0)] [] (Aa 9) []:=by
  have:=Cr (wdT w 0)
  rw[hk]at this
  rw[hx0];exact this
 have qm:=Cq 9 qc w hw
 rw[hmy]at qm
 have hml:=C8 hmy
 have hsT:A3 w row=if As (A0 w row).2≠0 then (lineZ,As (A0 w row).2) else ((A0 w row).1,0):=by
  rw[A3,if_neg]
  rintro (hh | hh)
  ·rw[hh]at hne;simp at hne
  ·rw[hk,hmy]at hh;cases hh
 have hfe:=Bg _ (B4 w row)
 have hl:w.length=5:=hml.2.1 qc
 have q1:=Cc w 1 (0:Int) j_ hw hs
 obtain ⟨e1,he1⟩:∃ e,Ae (0:Int) (!(Am (wdT w 1))) 20=e:=⟨_,rfl⟩
 rw[he1]at q1
 have q2:=Kr w 2 e1 j_ hw
 obtain ⟨e2,he2⟩:∃ e,Ae e1 (!(Be (wdT w 2)).2) 21=e:=⟨_,rfl⟩
 rw[he2]at q2
 have q3:=Cc w 3 e2 j_ hw hs
 obtain ⟨e3,he3⟩:∃ e,Ae e2 (!(Am (wdT w 3))) 20=e:=⟨_,rfl⟩
 rw[he3]at q3
 have qn:=E2 w 4 e3 j_ hw
 have hsz:(wdT w 4).size≤40:=by rw[Bk (by omega:4<w.length)];exact hs _ (List.getElem_mem _)
 have qa:=V9 (wdT w 4) j_
 have hrg:=S9 (wdT w 4)
 have q4:=Da w 5 e3 (!((prefixR (wdT w 4)).2 && subnetB (prefixR (wdT w 4)).1.1 (prefixR (wdT w 4)).1.2)) 21
 obtain ⟨e4,he4⟩:∃ e,Ae e3 (!((prefixR (wdT w 4)).2 && subnetB (prefixR (wdT w 4)).1.1 (prefixR (wdT w 4)).1.2)) 21=e:=⟨_,rfl⟩
 rw[he4]at q4
 have hR:A0 w row=({ lineZ with row:=row,kind:=9,dev:=wdT w 1,vlan:=(Be (wdT w 2)).1,name:=wdT w 3,addr:=(prefixR (wdT w 4)).1.1,bits:=(prefixR (wdT w 4)).1.2 },[((!(Am (wdT w 1))),20),((!(Be (wdT w 2)).2),21),((!(Am (wdT w 3))),20),((!((prefixR (wdT w 4)).2 && subnetB (prefixR (wdT w 4)).1.1 (prefixR (wdT w 4)).1.2)),21)]):=by
  unfold A0
  simp only[hk]
  rfl
 rw[hR]at hsT hfe
 have hfe:As _=e4:=hfe.trans (by
  show Ae (Ae (Ae (Ae ((0:Int)) (!(Am (wdT w 1))) 20) (!(Be (wdT w 2)).2) 21) (!(Am (wdT w 3))) 20) (!((prefixR (wdT w 4)).2 && subnetB (prefixR (wdT w 4)).1.1 (prefixR (wdT w 4)).1.2)) 21=_
  rw[he1,he2,he3,he4])
 rw[hfe]at hsT
 rw[hsT]
 generalize e4=eN at *
 clear hR hsT hfe he4
 obtain ⟨m,hm1,hm2⟩:=hrg
 generalize prefixR (wdT w 4)=rt at *
 obtain ⟨⟨av,bv⟩,ok⟩:=rt
 dsimp only at qa q4 hm1 ⊢
 subst hm1
 have qs:=L6 m bv hm2
 generalize subnetB (m:Int) bv=sb at *
 cases ok
 ·have q4:Sy.Spec Tryz.prog 185 [.ptr 0 0,Af true,Aa 21] (rdO w 5 e3) (.tup []) (rdO w 5 eN):=q4
  refine T ?_
  refine C qk F180 ?_
  refine C qm F179 ?_
  refine C qk F180 ?_
  refine Ap 9 (Av { lineZ with row:=row,kind:=9 }) rfl (.cons (.refl _) (.cons (.refl _) (.cons (.refl _) (.cons (.refl _) (.cons (.refl _) (.cons (.refl _) (.cons (.refl _) (.cons (.refl _) (.cons (.refl _) (.cons (.refl _) (.cons (.refl _) (.cons (.refl _) (.cons (.refl _) (.cons .nil (.cons .nil (.cons .nil (.cons .nil .nil))))))))))))))))) ?_
  refine T ?_
  refine X (Ai [(0,31)] (Aj q_ q_ F181) q1 q_ W q_ V) ?_
  refine X (Ai [(0,31)] (Aj q_ q_ F182) q2 q_ W q_ V) ?_
  refine X (Ai [(0,31)] (Aj q_ q_ F181) q3 q_ W q_ V) ?_
  refine X (Ad [(0,31)] q_ F188 qn q_ W q_ V) ?_
  refine C qa F192 ?_
  refine X (Ad [(0,31)] q_ F185 q4 q_ W q_ V) ?_
  cases hz:(eN != 0)
  ·have hz0:eN=0:=by simpa using hz
   rw[if_neg (by rw[hz0];simp)]
   refine T ?_
   exact D
  ·have hz0:eN≠0:=by simpa using hz
   rw[if_pos hz0]
   refine T ?_
   refine Ap 4 (Av lineZ) q_ (.cons (.refl _) (.cons (.refl _) (.cons (.refl _) (.cons (.refl _) (.cons (.refl _) (.cons (.refl _) (.cons (.refl _) (.cons (.refl _) (.cons (.refl _) (.cons (.refl _) (.cons (.refl _) (.cons (.refl _) (.cons (.refl _) (.cons .nil (.cons .nil (.cons .nil (.cons .nil .nil))))))))))))))))) ?_
   refine T ?_
   exact D
 ·have hb:(!(true && sb))=!sb:=rfl
  rw[hb]at q4
  refine T ?_
  refine C qk F180 ?_
  refine C qm F179 ?_
  refine C qk F180 ?_
  refine Ap 9 (Av { lineZ with row:=row,kind:=9 }) rfl (.cons (.refl _) (.cons (.refl _) (.cons (.refl _) (.cons (.refl _) (.cons (.refl _) (.cons (.refl _) (.cons (.refl _) (.cons (.refl _) (.cons (.refl _) (.cons (.refl _) (.cons (.refl _) (.cons (.refl _) (.cons (.refl _) (.cons .nil (.cons .nil (.cons .nil (.cons .nil .nil))))))))))))))))) ?_
  refine T ?_
  refine X (Ai [(0,31)] (Aj q_ q_ F181) q1 q_ W q_ V) ?_
  refine X (Ai [(0,31)] (Aj q_ q_ F182) q2 q_ W q_ V) ?_
  refine X (Ai [(0,31)] (Aj q_ q_ F181) q3 q_ W q_ V) ?_
  refine X (Ad [(0,31)] q_ F188 qn q_ W q_ V) ?_
  refine C qa F192 ?_
  refine C qs F193 ?_
  refine X (Ad [(0,31)] q_ F185 q4 q_ W q_ V) ?_
  cases hz:(eN != 0)
  ·have hz0:eN=0:=by simpa using hz
   rw[if_neg (by rw[hz0];simp)]
   refine T ?_
   exact D
  ·have hz0:eN≠0:=by simpa using hz
   rw[if_pos hz0]
   refine T ?_
   refine Ap 4 (Av lineZ) q_ (.cons (.refl _) (.cons (.refl _) (.cons (.refl _) (.cons (.refl _) (.cons (.refl _) (.cons (.refl _) (.cons (.refl _) (.cons (.refl _) (.cons (.refl _) (.cons (.refl _) (.cons (.refl _) (.cons (.refl _) (.cons (.refl _) (.cons .nil (.cons .nil (.cons .nil (.cons .nil .nil))))))))))))))))) ?_
   refine T ?_
   exact D
theorem Wy (w:List ByteArray) (row:Int) (hw:w.length≤1000000) (hs:∀ s∈w,s.size≤40) (hne:0<w.length) (hk:kindL (wdT w 0)=2) (hmy:manyB 2 w=true) :
  Sy.Spec Tryz.prog 111 [.sl 1 Ac w,Aa row] [] (.tup [Ab (A3 w row).1,Aa (A3 w row).2]) []:=cT F111 Tryz.ntmps111 fun F hF=>by
 have hn0:(0:Int).toNat<w.length:=hne
 have f0:((w.length:Int) == 0)=false:=by rw[beq_eq_false_iff_ne];omega
 have hx0:w[(0:Int).toNat]'hn0=wdT w 0:=(Bk hne).symm
 have qk:Sy.Spec Tryz.prog 180 [Ac (w[(0:Int).toNat]'hn0)] [] (Aa 2) []:=by
  have:=Cr (wdT w 0)
  rw[hk]at this
  rw[hx0];exact this
 have qm:=Cq 2 qc w hw
 rw[hmy]at qm
 have hml:=C8 hmy
 have hsT:A3 w row=if As (A0 w row).2≠0 then (lineZ,As (A0 w row).2) else ((A0 w row).1,0):=by
  rw[A3,if_neg]
  rintro (hh | hh)
  ·rw[hh]at hne;simp at hne
  ·rw[hk,hmy]at hh;cases hh
 have hfe:=Bg _ (B4 w row)
 have hl:6≤w.length∧w.length≤7∧(wdT w 4=trunkT→w.length=7):=hml.2.2.2.1 rfl
 have q1:=Cc w 1 (0:Int) j_ hw hs
 obtain ⟨e1,he1⟩:∃ e,Ae (0:Int) (!(Am (wdT w 1))) 20=e:=⟨_,rfl⟩
 rw[he1]at q1
 have q2:=Cc w 2 e1 j_ hw hs
 obtain ⟨e2,he2⟩:∃ e,Ae e1 (!(Am (wdT w 2))) 20=e:=⟨_,rfl⟩
 rw[he2]at q2
 have q3:=Iy w 3 e2 1 65535 j_ hw
 obtain ⟨e3,he3⟩:∃ e,Ae e2 (!(numR (wdT w 3) 1 65535).2) 21=e:=⟨_,rfl⟩
 rw[he3]at q3
 have q4:=Da w 4 e3 (decide (wdT w 4≠accessT) && decide (wdT w 4≠trunkT)) 20
 obtain ⟨e4,he4⟩:∃ e,Ae e3 (decide (wdT w 4≠accessT) && decide (wdT w 4≠trunkT)) 20=e:=⟨_,rfl⟩
 rw[he4]at q4
 have qp:=Ab2 w e4 { lineZ with row:=row,kind:=2,dev:=wdT w 1,port:=wdT w 2,cost:=(numR (wdT w 3) 1 65535).1 } hw hs j_ (fun x=>by
  have h6:w.length=6:=by
   have hm3:=hmy
   rw[manyB,if_neg qc,if_pos rfl,if_neg j_,if_pos x]at hm3
   exact of_decide_eq_true hm3
  omega) (fun x=>by have:=hl.2.2 x;omega) ⟨rfl,rfl⟩
 have hR:A0 w row=({ lineZ with row:=row,kind:=2,dev:=wdT w 1,port:=wdT w 2,cost:=(numR (wdT w 3) 1 65535).1,vlan:=(Cv w).1,tagged:=(Cv w).2.1 },
   [((!(Am (wdT w 1))),20),((!(Am (wdT w 2))),20),((!(numR (wdT w 3) 1 65535).2),21),((decide (wdT w 4≠accessT) && decide (wdT w 4≠trunkT)),20)]++(Cv w).2.2++[(!(membersB (Cv w).1 (Cv w).2.1),21)]):=by
  unfold A0
  simp only[hk]
  rfl
 rw[hR]at hsT hfe
 have hfe:As _=Eb e4 ((Cv w).2.2++[(!(membersB (Cv w).1 (Cv w).2.1),21)]):=hfe.trans (by
  rw[I0,I0,I0]
  congr 2
  show Ae (Ae (Ae (Ae ((0:Int)) (!(Am (wdT w 1))) 20) (!(Am (wdT w 2))) 20) (!(numR (wdT w 3) 1 65535).2) 21) (decide (wdT w 4≠accessT) && decide (wdT w 4≠trunkT)) 20=_
  rw[he1,he2,he3,he4])
 rw[hfe]at hsT
 rw[hsT]
 clear hR hsT hfe he4
 dsimp only at qp ⊢
 generalize Eb e4 ((Cv w).2.2++[(!(membersB (Cv w).1 (Cv w).2.1),21)])=eN at *
 generalize Cv w=pr at *
 have hn4:(4:Int).toNat<w.length:=by show 4<w.length;omega
 have hx4:w[(4:Int).toNat]'hn4=wdT w 4:=(Bk j_).symm
 by_cases ca:wdT w 4=accessT
 ·have g1:(!(w[(4:Int).toNat]'hn4 == (⟨#[97,99,99,101,115,115]⟩:ByteArray)))=false:=Oc (by rw[hx4];exact ca)
  have q4:Sy.Spec Tryz.prog 185 [.ptr 0 0,Af false,Aa 20] (rdO w 4 e3) (.tup []) (rdO w 4 e4):=by
   rw[decide_eq_false (fun x=>x ca)]at q4;exact q4
  refine T ?_
  refine C qk F180 ?_
  refine C qm F179 ?_
  refine C qk F180 ?_
  refine Ap 9 (Av { lineZ with row:=row,kind:=2 }) rfl (.cons (.refl _) (.cons (.refl _) (.cons (.refl _) (.cons (.refl _) (.cons (.refl _) (.cons (.refl _) (.cons (.refl _) (.cons (.refl _) (.cons (.refl _) (.cons (.refl _) (.cons (.refl _) (.cons (.refl _) (.cons (.refl _) (.cons .nil (.cons .nil (.cons .nil (.cons .nil .nil))))))))))))))))) ?_
  refine T ?_
  refine X (Ai [(0,31)] (Aj q_ q_ F181) q1 q_ W q_ V) ?_
  refine X (Ai [(0,31)] (Aj q_ q_ F181) q2 q_ W q_ V) ?_
  refine X (Ad [(0,31)] q_ F183 q3 q_ W q_ V) ?_
  refine X (Ad [(0,31)] q_ F185 q4 q_ W q_ V) ?_
  refine X (Ad [(0,31),(1,9)] q_ F186 qp q_ W q_ V) ?_
  cases hz:(eN != 0)
  ·have hz0:eN=0:=by simpa using hz
   rw[if_neg (by rw[hz0];simp)]
   refine T ?_
   exact D
  ·have hz0:eN≠0:=by simpa using hz
   rw[if_pos hz0]
   refine T ?_
   refine Ap 4 (Av lineZ) q_ (.cons (.refl _) (.cons (.refl _) (.cons (.refl _) (.cons (.refl _) (.cons (.refl _) (.cons (.refl _) (.cons (.refl _) (.cons (.refl _) (.cons (.refl _) (.cons (.refl _) (.cons (.refl _) (.cons (.refl _) (.cons (.refl _) (.cons .nil (.cons .nil (.cons .nil (.cons .nil .nil))))))))))))))))) ?_
   refine T ?_
   exact D
 ·have g1:(!(w[(4:Int).toNat]'hn4 == (⟨#[97,99,99,101,115,115]⟩:ByteArray)))=true:=T7 (by rw[hx4];exact ca)
  have hb:(decide (wdT w 4≠accessT) && decide (wdT w 4≠trunkT))=!(w[(4:Int).toNat]'hn4 == (⟨#[116,114,117,110,107]⟩:ByteArray)):=by
   rw[decide_eq_true ca,Bool.true_and,hx4]
   show decide (wdT w 4≠trunkT)=!(wdT w 4 == trunkT)
   by_cases cr:wdT w 4=trunkT
   ·rw[Oc cr,decide_eq_false (fun x:wdT w 4≠trunkT=>x cr)]
   ·rw[T7 cr,decide_eq_true cr]
  rw[hb]at q4
  refine T ?_
  refine C qk F180 ?_
  refine C qm F179 ?_
  refine C qk F180 ?_
  refine Ap 9 (Av { lineZ with row:=row,kind:=2 }) rfl (.cons (.refl _) (.cons (.refl _) (.cons (.refl _) (.cons (.refl _) (.cons (.refl _) (.cons (.refl _) (.cons (.refl _) (.cons (.refl _) (.cons (.refl _) (.cons (.refl _) (.cons (.refl _) (.cons (.refl _) (.cons (.refl _) (.cons .nil (.cons .nil (.cons .nil (.cons .nil .nil))))))))))))))))) ?_
  refine T ?_
  refine X (Ai [(0,31)] (Aj q_ q_ F181) q1 q_ W q_ V) ?_
  refine X (Ai [(0,31)] (Aj q_ q_ F181) q2 q_ W q_ V) ?_
  refine X (Ad [(0,31)] q_ F183 q3 q_ W q_ V) ?_
  refine X (Ad [(0,31)] q_ F185 q4 q_ W q_ V) ?_
  refine X (Ad [(0,31),(1,9)] q_ F186 qp q_ W q_ V) ?_
  cases hz:(eN != 0)
  ·have hz0:eN=0:=by simpa using hz
   rw[if_neg (by rw[hz0];simp)]
   refine T ?_
   exact D
  ·have hz0:eN≠0:=by simpa using hz
   rw[if_pos hz0]
   refine T ?_
   refine Ap 4 (Av lineZ) q_ (.cons (.refl _) (.cons (.refl _) (.cons (.refl _) (.cons (.refl _) (.cons (.refl _) (.cons (.refl _) (.cons (.refl _) (.cons (.refl _) (.cons (.refl _) (.cons (.refl _) (.cons (.refl _) (.cons (.refl _) (.cons (.refl _) (.cons .nil (.cons .nil (.cons .nil (.cons .nil .nil))))))))))))))))) ?_
   refine T ?_
   exact D
theorem Y0 (w:List ByteArray) (row:Int) (hw:w.length≤1000000) (hs:∀ s∈w,s.size≤40):Sy.Spec Tryz.prog 111 [.sl 1 Ac w,Aa row] [] (.tup [Ab (A3 w row).1,Aa (A3 w row).2]) []:=by
 by_cases hne:0<w.length
 ·cases hmy:manyB (kindL (wdT w 0)) w with
  | true =>
   have hr:=Ml (wdT w 0)
   have h0:=(C8 hmy).2.2.2.2
   rcases (by omega:kindL (wdT w 0)=1∨kindL (wdT w 0)=2∨kindL (wdT w 0)=3∨kindL (wdT w 0)=4∨kindL (wdT w 0)=5∨kindL (wdT w 0)=6∨kindL (wdT w 0)=7∨kindL (wdT w 0)=8∨kindL (wdT w 0)=9) with h | h | h | h | h | h | h | h | h
   ·exact Wz w row hw hs hne h (by rw[h]at hmy;exact hmy)
   ·exact Wy w row hw hs hne h (by rw[h]at hmy;exact hmy)
   ·exact Wx w row hw hs hne h (by rw[h]at hmy;exact hmy)
   ·exact Ww w row hw hs hne h (by rw[h]at hmy;exact hmy)
   ·exact Wv w row hw hs hne h (by rw[h]at hmy;exact hmy)
   ·exact Wu w row hw hs hne h (by rw[h]at hmy;exact hmy)
   ·exact Wt w row hw hs hne h (by rw[h]at hmy;exact hmy)
   ·exact Ws w row hw hs hne h (by rw[h]at hmy;exact hmy)
   ·exact Wr w row hw hs hne h (by rw[h]at hmy;exact hmy)
  | false =>
   have hsT:A3 w row=(lineZ,22):=by rw[A3,if_pos (.inr hmy)]
   rw[hsT]
   refine Hc Γ hm 100 F111 Tryz.ntmps111 q_ fun F hF=>by
    have hn0:(0:Int).toNat<w.length:=hne
    have f0:((w.length:Int) == 0)=false:=by rw[beq_eq_false_iff_ne];omega
    have hx0:w[(0:Int).toNat]'hn0=wdT w 0:=(Bk hne).symm
    have qk:Sy.Spec Tryz.prog 180 [Ac (w[(0:Int).toNat]'hn0)] [] (Aa (kindL (wdT w 0))) []:=by
     rw[hx0];exact Cr (wdT w 0)
    have qm:=Cq (kindL (wdT w 0)) (Ml _) w hw
    rw[hmy]at qm
    refine T ?_
    refine C qk F180 ?_
    refine C qm F179 ?_
    refine Ap 4 (Av lineZ) q_ (.cons (.refl _) (.cons (.refl _) (.cons (.refl _) (.cons (.refl _) (.cons (.refl _) (.cons (.refl _) (.cons (.refl _) (.cons (.refl _) (.cons (.refl _) (.cons (.refl _) (.cons (.refl _) (.cons (.refl _) (.cons (.refl _) (.cons .nil (.cons .nil (.cons .nil (.cons .nil .nil))))))))))))))))) ?_
    refine T ?_
    exact D
 ·have hw0:w=[]:=List.eq_nil_of_length_eq_zero j_
  subst hw0
  have hsT:A3 [] row=(lineZ,22):=by rw[A3,if_pos (.inl rfl)]
  rw[hsT]
  refine Hc Γ hm 100 F111 Tryz.ntmps111 q_ fun F hF=>by
   refine T ?_
   refine Ap 4 (Av lineZ) q_ (.cons (.refl _) (.cons (.refl _) (.cons (.refl _) (.cons (.refl _) (.cons (.refl _) (.cons (.refl _) (.cons (.refl _) (.cons (.refl _) (.cons (.refl _) (.cons (.refl _) (.cons (.refl _) (.cons (.refl _) (.cons (.refl _) (.cons .nil (.cons .nil (.cons .nil (.cons .nil .nil))))))))))))))))) ?_
   refine T ?_
   exact D
end Go.Sy.YtgblchnfjbkipaaGreatDoor
namespace Go.Sy
theorem VwL.get {s:SS} {V:List Nat}:∀ {l m:List SV} (_:VwL s V l m) {i:Nat} {y:SV},D1 m i=some y→∃ x,D1 l i=some x∧Vw s V x y
 | _,_,.nil,i,y,h=>by cases i<;>simp[D1]at h
 | _,_,.cons (x:=x) h0 hs,0,y,h=>by
  simp only[D1,Option.some.injEq]at h
  subst h
  exact⟨x,q_,h0⟩
 | _,_,.cons h0 hs,i+1,y,h=>VwL.get hs (i:=i) h
theorem VwL.len {s:SS} {V:List Nat}:∀ {l m:List SV} (_:VwL s V l m),m.length=l.length
 | _,_,.nil=>rfl
 | _,_,.cons _ hs=>by simp[VwL.len hs]
theorem RdL.setI {κ:Ka} {w:World} {x:SV} {v:Value} (hx:Rd κ w x v):∀ {l:List SV} {cs:List Value} (i:Nat),RdL κ w l cs→RdL κ w (l.set i x) (cs.set i v)
 | [],cs,i,h=>by simp only[RdL]at h;subst h;simp[RdL]
 | y::l,cs,0,h=>by
  simp only[RdL]at h
  obtain ⟨u,r,rfl,h1,h2⟩:=h
  simp only[List.set_cons_zero,RdL]
  exact⟨v,r,q_,hx,h2⟩
 | y::l,cs,i+1,h=>by
  simp only[RdL]at h
  obtain ⟨u,r,rfl,h1,h2⟩:=h
  simp only[List.set_cons_succ,RdL]
  exact⟨u,_,q_,h1,h2.setI hx i⟩
theorem Mt {κ:Ka} {w:World} {k:Nat} {l:List SV} (hi:Inv κ w) (h:ObOK κ w k (.box l)) {off:Nat} {x:SV} {v:Value} (_hx:x.plain=true) (hv:∀ κ w,Rd κ w x v) (h1:v.oneCell'=true) :
  ∃ b,κ k=.blk b∧(∀ j y,D1 l j=some y→∃ u,w.cell? ⟨b,j,none⟩=some u∧Rd κ w y u)∧(∀ j,j<l.length→w.frozen? ⟨b,j,none⟩=false) ∧
   Step (·=k) κ w κ (w.setCell ⟨b,off,none⟩ v)∧Inv κ (w.setCell ⟨b,off,none⟩ v)∧ObOK κ (w.setCell ⟨b,off,none⟩ v) k (.box (l.set off x)):=by
 obtain ⟨b,cs,T,fr,e1,e2,e3,e4,e5⟩:=h
 have hsame:(w.setCell ⟨b,off,none⟩ v).heap[b]? = some (.cells (cs.set off v).toArray T fr):=by
  simp[World.setCell,Array.getElem?_modify,e2]
 have hoth:∀ j,j≠b→(w.setCell ⟨b,off,none⟩ v).heap[j]? = w.heap[j]?:=fun j hj=>heap_setCell_other w ⟨b,off,none⟩ j v hj
 obtain ⟨st,inv⟩:=He (w':=w.setCell ⟨b,off,none⟩ v) hi (k:=k) (b:=b) (by rw[e1];rfl) rfl rfl rfl qd hoth
 have hlen:=e5.length
 refine⟨b,e1,fun j y hy=>?_,fun j hj=>?_,st,inv,b,_,T,fr,e1,hsame,by rw[List.length_set];exact e3,?_,(RdL.step st _ _ e5).setI (hv _ _) off⟩
 ·obtain ⟨u,hu,hr⟩:=e5.get hy
  exact⟨u,by rw[cell_of_row w b j cs.toArray T fr e2,List.getElem?_toArray];exact hu,hr⟩
 ·obtain ⟨lo,hi'⟩:=fr
  simp only[World.frozen?,e2]
  rcases e3 with h | h
  ·simp only at h;subst h;simp
  ·simp only at h;simp;omega
 ·intro c hc
  rcases List.mem_or_eq_of_mem_set hc with h | h
  ·exact e4 c h
  ·rw[h];exact h1
theorem Ctx.onward {F:Fr} {κ κ2:Ka} {w w2:World} {ds:List Deferred} (c:Ctx F κ w) (c2:Ctx ⟨w,κ,ds⟩ κ2 w2):Ctx F κ2 w2 where
 size:=Nat.le_trans c.size c2.size
 os:=c2.os.trans c.os
 tape:=c2.tape.trans c.tape
 output:=c2.output.trans c.output
 M:=c2.M.trans c.M
 old b hb h:=by
  refine(c2.old b (Nat.lt_of_lt_of_le hb c.size) (fun k hk=>?_)).trans (c.old b hb h)
  rcases c.own k b hk with h1 | ⟨j,h1⟩
  ·exact absurd hb (Nat.not_lt.2 h1)
  ·exact h j h1
 own k b hk:=by
  rcases c2.own k b hk with h | ⟨j,h⟩
  ·exact .inl (Nat.le_trans c.size h)
  ·exact c.own j b h
 nam k hk:=by
  have hn:∀ x,κ k=x→x≠.new→κ2 k=x∨κ2 k=.dead:=fun x hx hne=>by
   have h:κ2 k=κ k∨κ2 k=.dead:=c2.nam k (by show κ k≠.new;rw[hx];exact hne)
   rw[hx]at h
   exact h
  rcases c.nam k hk with h | h
  ·exact hn _ h hk
  ·rcases hn _ h (by intro e;cases e) with h2 | h2
   ·exact .inr h2
   ·exact .inr h2
def Yq (P:Program) (fn:Func) (F:Fr) (R:SV) (H':Obs):Exit→Act→World→Prop :=
 bodyPostD P fn fun e w'=>∃ v κ',e=.returned v∧Ctx F κ' w'∧Inv κ' w'∧Rd κ' w' R v∧H'.ok κ' w'
theorem W6 {P:Program} (Γ:Ty P) {f:FuncId} {fn:Func} {c:Code} {A:List SV} {H:Obs} {R:SV} {H':Obs} (hf:P.funcs[f]? = some fn) (hb:fn.body=some c) {n:Nat} (hn':fn.ntmps=n) (hn:A.length≤n)
  (h:∀ (F:Fr) (hF:∀ k,F.k0 k≠.new→k∈H.keys),F.ds=[]→G ⟨P,Γ,F,n,Yq P fn F R H',H.keys,hF⟩ [.code c] ⟨argσ A,mkh H⟩):Spec P f A H R H':=by
 subst hn'
 intro κ w vs hi hnew hA hH
 refine calls_of_wp_defers hf hb ?_
 have hlen:=hA.length
 refine h ⟨w,κ,[]⟩ hnew q_ κ _ w ⟨q_,?_,hi,Ctx.refl κ w,?_,?_⟩
 ·simp;omega
 ·intro i
  have:=hA.getD (fn.ntmps-vs.length) i
  have he:(vs.toArray++Array.replicate (fn.ntmps-vs.length) undef)=(vs++List.replicate (fn.ntmps-vs.length) undef).toArray:=by simp
  show Rd κ w _ ((vs.toArray++Array.replicate (fn.ntmps-vs.toArray.size) undef).getD i undef)
  rw[List.size_toArray,he]
  simpa using this
 ·intro k
  exact Xj hH (fun hk=>Classical.byContradiction fun hne=>hk (hnew k hne))
theorem Zp {P:Program} (Γ:TyE P) (hm:P.follows .mixedOrders=true) (N:Nat) {f:FuncId} {fn:Func} {c:Code} {A:List SV} {H:Obs} {R:SV} {H':Obs} (hF:Fun P f fn c) {n:Nat} (hn':fn.ntmps=n) (hn:Vk A n=true)
  (h:∀ (F:Fr) (hF:∀ k,F.k0 k≠.new→k∈H.keys),F.ds=[]→Ex ⟨P,Γ.toTy,F,n,Yq P fn F R H',H.keys,hF⟩ Γ N [.code c] ⟨argσ A,mkh H⟩):Sy.Spec P f A H R H' :=
 W6 Γ.toTy hF.1 hF.2 hn' (O8 hn) fun F hF h0=>run Γ hm N (h F hF h0)
theorem Acj {C:Cx} {k:List KI} {s:SS} {all:Array Oper} {o:Oper} {rest:List Oper} {x:Operand} {ts:Array TypeId} {g:FuncId} {cap:List SV} (h:o.op=.defer ⟨.value x,#[],ts⟩) (hx:ev s x=.clo (.func g) [] cap) (hd:o.dst=none)
  (hw:Ca C.n all o s=some true) (h0:C.F.ds=[]) (bn:List Nat) (hbn:∀ j,j∉bn→s.h j=.fresh)
  (hg:∀ (F:Fr) (hF:∀ j,F.k0 j≠.new→j∈bn) (cv:List Value),F.ds=[⟨.fn (.func g) cv.toArray,#[]⟩]→RdL F.k0 F.w0 cap cv→(∀ κ w,Ctx F κ w→Ctx C.F κ w)→G ⟨C.P,C.Γ,F,C.n,C.B,bn,hF⟩ (.ops all rest::k) s):G C (.ops all (o::rest)::k) s:=by
 intro κ a w hs
 refine wpList_step fun K hK=>?_
 rw[if_pos (Iu hs (B3 hw).2 (B3 hw).1)]
 have hr:=hs.ev x
 rw[hx]at hr
 simp only[Rd]at hr
 obtain ⟨fs,cs,hv,hfs,hcs⟩:=hr
 simp only[RdL]at hfs
 subst hfs
 have hF:∀ j,κ j≠.new→j∈bn:=fun j hj=>Classical.byContradiction fun hn=>hj (by
  have:=hs.obj j
  rw[hbn j hn]at this
  exact this)
 have hrun:(execOp a.eval o).run C.P w=.ok (.defer ⟨.fn (.func g) cs.toArray,#[]⟩) w:=by
  simp[execOp,h,resolve,Deferred.ofValue,hv]
 show o.upon C.P a K _ ((execOp a.eval o).run C.P w)
 rw[hrun,Oper.upon_defer,hd]
 refine hK _ _ (hg ⟨w,κ,[⟨.fn (.func g) cs.toArray,#[]⟩]⟩ hF cs rfl hcs (fun κ2 w2 c2=>hs.ctx.onward c2) κ { a with defers:=_::a.defers } w ⟨?_,hs.size,hs.inv,?_,hs.slot,hs.obj⟩)
 ·show _::a.defers=_
  rw[hs.defers,h0]
 ·have:=Ctx.refl κ w
  exact⟨this.size,this.os,this.tape,this.output,this.M,this.old,this.own,this.nam⟩
end Go.Sy
namespace Go.Sy.YtgblchnfjbkipaaGreatDoor
open Go.Proofs
attribute [local irreducible] Go.Sy.G Go.Sy.DR
set_option maxRecDepth 100000
set_option maxHeartbeats 4000000
theorem Qs (ae al:Addr) (e:Int) (x:Value) (u:FrameMode) (w:World) (he:w.cell? ae=some (.int .i64 e)) (hl:w.cell? al=some x) (hz:w.frozen? al=false) :
  CallsD Tryz.prog 108 #[.pointer (some ae),.pointer (some al)] u w fun r u' w'=>u'=u∧(r=.returned (.tuple #[])∧w'=if e=0 then w else w.setCell al (.slice none 0 0)):=by
 by_cases h:e=0
 ·subst h
  go_enter_d Tryz.func108,Tryz.ntmps108
  go_wp2
  go_end0
  exact⟨q_,by simp⟩
 ·rw[if_neg h]
  go_enter_d Tryz.func108,Tryz.ntmps108
  go_wp2
  go_end0
  exact⟨q_,q_⟩
theorem Aal {κ0' κ:Ka} {w0 w:World} {k:Nat} {v:Value} {l:List SV} (h0:Rd κ0' w0 (.ptr k 0) v) (hn:κ0' k≠.new→κ k=κ0' k∨κ k=.dead) (ho:ObOK κ w k (.box l)):∃ b,κ k=.blk b∧v=.pointer (some ⟨b,0,none⟩):=by
 obtain ⟨b,cs,T,fr,e1,_⟩:=ho
 refine⟨b,e1,?_⟩
 have hne:κ0' k≠.new:=fun e=>by simp only[Rd,e]at h0
 rcases hn hne with h | h
 ·rw[e1]at h
  simp only[Rd,← h]at h0
  exact h0
 ·rw[e1]at h;cases h
theorem Abz {F F2:Fr} {n:Nat} {bn:List Nat} {hbn:∀ k,F2.k0 k≠.new→k∈bn} {k:List KI} {s:SS} {L:List LineM} {row e:Int} {cv:List Value} (hd:F2.ds=[⟨.fn (.func 108) cv.toArray,#[]⟩])
  (hcv:RdL F2.k0 F2.w0 [.ptr 4 0,.ptr 2 0] cv) (hctx:∀ κ w,Ctx F2 κ w→Ctx F κ w) (h2:s.h 2=.box [.sl 17 Ab L]) (h4:s.h 4=.box [Aa e]) (h3:s.σ 3=Aa row) (p2:s.σ 2=.ptr 2 0) (p4:s.σ 4=.ptr 4 0) :
  G ⟨Tryz.prog,Γ.toTy,F2,n,Yq Tryz.prog Tryz.f46 F (.tup [.sl 17 Ab (if e=0 then L else []),Aa row,Aa e]) [],bn,hbn⟩ (.code .ret::k) s:=by
 refine Acq fun κ a w hs=>?_
 have o2:=hs.obj 2
 rw[h2]at o2
 have o4:=hs.obj 4
 rw[h4]at o4
 simp only[RdL]at hcv
 obtain ⟨v4,r4,rfl,hv4,v2,r2,rfl,hv2,rfl⟩:=hcv
 obtain ⟨b4,k4,rfl⟩:=Aal hv4 (hs.ctx.nam 4) o4
 obtain ⟨b2,k2,rfl⟩:=Aal hv2 (hs.ctx.nam 2) o2
 obtain ⟨b2',e1,c1,c2,st1,inv1,ob1⟩:=Mt (off:=0) (x:=.val (.slice none 0 0)) (v:=.slice none 0 0) hs.inv o2 rfl (fun κ w=>by simp only[Rd]) rfl
 have ob1:ObOK κ (w.setCell ⟨b2',0,none⟩ (.slice none 0 0)) 2 (.box [.sl 17 Ab []]):=by
  obtain ⟨b,cs,T,fr,f1,f2,f3,f4,f5⟩:=ob1
  refine⟨b,cs,T,fr,f1,f2,f3,f4,?_⟩
  have f5:RdL κ _ [.val (.slice none 0 0)] cs:=f5
  simp only[RdL,Rd]at f5 ⊢
  obtain ⟨v,r,rfl,rfl,rfl⟩:=f5
  exact⟨_,_,q_,by simp[RdD],q_⟩
 rw[k2]at e1
 cases e1
 obtain ⟨b4',e4,d1,_,_,_,_⟩:=Mt (off:=0) (x:=Aa e) (v:=.int .i64 e) hs.inv o4 rfl (fun κ w=>by simp[Rd,Aa]) rfl
 rw[k4]at e4
 cases e4
 obtain ⟨u4,hu4,hr4⟩:=d1 0 (Aa e) rfl
 have hu4':u4=.int .i64 e:=by simpa [Aa,Rd] using hr4
 subst hu4'
 obtain ⟨u2,hu2,_⟩:=c1 0 _ rfl
 show Leaves Tryz.prog Tryz.f46 a.tmps _ a.defers .returning w
 rw[hs.defers,hd]
 refine leaves_cons (f:=108) (args:=#[.pointer (some ⟨b4,0,none⟩),.pointer (some ⟨b2,0,none⟩)]) qd (by simp[go_sem]) ?_
 refine(Qs ⟨b4,0,none⟩ ⟨b2,0,none⟩ e u2 .returning w hu4 hu2 (c2 0 qd)).mono ?_
 rintro r u' w'' ⟨rfl,rfl,rfl⟩
 by_cases he:e=0
 ·rw[if_pos he,if_pos he]
  obtain ⟨v,g1,g2⟩:=Ia (P:=Tryz.prog) (Γ:=Γ.toTy) hs (fn:=Tryz.f46) (xs:=[.sl 17 Ab L,Aa row,Aa e]) rfl (.cons (.cell p2 h2 rfl rfl) (.cons (h3 ▸ .tmp) (.cons (.cell p4 h4 rfl rfl) .nil)))
  exact⟨v,g1,v,κ,rfl,hctx _ _ hs.ctx,hs.inv,g2,fun p hp=>by cases hp⟩
 ·rw[if_neg he,if_neg he]
  have hs2:St F2 n ⟨s.σ,upd s.h 2 (.box [.sl 17 Ab []])⟩ κ a (w.setCell ⟨b2,0,none⟩ (.slice none 0 0)):=⟨hs.defers,hs.size,inv1,hs.ctx.step inv1 st1,fun i=>Rd.step st1 _ _ (hs.slot i),fun j=>by
   show ObOK κ _ j (upd s.h 2 _ j)
   by_cases hj:j=2
   ·subst hj;exact ob1
   ·have:upd s.h 2 (.box [.sl 17 Ab []]) j=s.h j:=by
     simp only[upd]
     have:Nat.beq j 2=false:=by
      cases hb:Nat.beq j 2
      ·rfl
      ·exact absurd (Nat.eq_of_beq_eq_true hb) hj
     rw[this];rfl
    rw[this]
    exact ObOK.step st1 (show ¬ j=2 from hj) _ (hs.obj j)⟩
  obtain ⟨v,g1,g2⟩:=Ia (P:=Tryz.prog) (Γ:=Γ.toTy) hs2 (fn:=Tryz.f46) (xs:=[.sl 17 Ab [],Aa row,Aa e]) rfl (.cons (.cell p2 rfl rfl rfl) (.cons (h3 ▸ .tmp) (.cons (.cell p4 h4 rfl rfl) .nil)))
  exact⟨v,g1,v,κ,rfl,hctx _ _ hs2.ctx,inv1,g2,fun p hp=>by cases hp⟩
theorem Kc {F F2:Fr} {n:Nat} {bn:List Nat} {hbn:∀ k,F2.k0 k≠.new→k∈bn} {k:List KI} {s:SS} {L L':List LineM} {row e:Int} {cv:List Value} (hd:F2.ds=[⟨.fn (.func 108) cv.toArray,#[]⟩])
  (hcv:RdL F2.k0 F2.w0 [.ptr 4 0,.ptr 2 0] cv) (hctx:∀ κ w,Ctx F2 κ w→Ctx F κ w) (hL:(if e=0 then L else [])=L') (h2:s.h 2=.box [.sl 17 Ab L]) (h4:s.h 4=.box [Aa e]) (h3:s.σ 3=Aa row) (p2:s.σ 2=.ptr 2 0) (p4:s.σ 4=.ptr 4 0) :
  G ⟨Tryz.prog,Γ.toTy,F2,n,Yq Tryz.prog Tryz.f46 F (.tup [.sl 17 Ab L',Aa row,Aa e]) [],bn,hbn⟩ (.code .ret::k) s:=by
 subst hL
 exact Abz hd hcv hctx h2 h4 h3 p2 p4
theorem H7:∀ (l cur:List UInt8),∀ s∈Cf cur l,s.size≤cur.length+l.length
 | [],cur,s,hs=>by
  rw[Cf]at hs
  split at hs
  ·cases hs
  ·simp at hs;rw[hs,Bw];simp
 | c::l,cur,s,hs=>by
  rw[Cf]at hs
  split at hs
  ·rcases List.mem_cons.1 hs with hs | hs
   ·rw[hs,Bw];simp
   ·have:=H7 l [] s hs
    simp at this ⊢;omega
  ·have:=H7 l (cur++[c]) s hs
   simp at this ⊢;omega
theorem Un (b:List UInt8):(rowsT b).1.length≤400∧∀ s∈(rowsT b).1,s.size≤20000:=by
 rw[rowsT]
 split
 ·exact⟨by simp,fun s hs=>by cases hs⟩
 ·rename_i h1
  split
  ·exact⟨by simp,fun s hs=>by cases hs⟩
  ·rename_i h2
   refine⟨by dsimp only;omega,fun s hs=>?_⟩
   have:=H7 b [] s hs
   simp at this;omega
theorem S4 (r:ByteArray) (hr:r.size≤20000):(wordsT r).1.length≤20001∧∀ s∈(wordsT r).1,s.size≤40:=by
 have hl:=Ey r.data.toList []
 have hrs:r.data.toList.length=r.size:=rfl
 rw[wordsT]
 split
 ·rename_i h
  refine⟨by dsimp only;omega,fun s hs=>?_⟩
  rw[List.all_eq_true]at h
  have:=h s hs
  simp only[wordB,Bool.and_eq_true,decide_eq_true_eq]at this
  exact this.1.2
 ·exact⟨by simp,fun s hs=>by cases hs⟩
theorem Yu (b:List UInt8) (hb:b.length≤1000000):Sy.Spec Tryz.prog 46 [.sl 1 An b] [] (.tup [.sl 17 Ab (textT b).1,Aa (textT b).2.1,Aa (textT b).2.2]) []:=Zp Γ hm 100 F46 Tryz.ntmps46 rfl fun F hF h0=>by
 have q1:=Zf b hb
 have hres:=textT.eq_1 b
 have hsm:=Un b
 generalize textT b=res at *
 generalize rowsT b=rt at *
 obtain ⟨rows,e0⟩:=rt
 dsimp only at hres hsm q1
 refine T ?_
 refine Acj q_ q_ q_ q_ h0 [2,4] (fun j hj=>?_) ?_
 ·simp only[List.mem_cons,List.not_mem_nil,or_false,not_or]at hj
  have n2:Nat.beq j 2=false:=by
   cases hb:Nat.beq j 2
   ·rfl
   ·exact absurd (Nat.eq_of_beq_eq_true hb) hj.1
  have n4:Nat.beq j 4=false:=by
   cases hb:Nat.beq j 4
   ·rfl
   ·exact absurd (Nat.eq_of_beq_eq_true hb) hj.2
  simp[SS.upd,H1,upd,mkh,n2,n4]
 intro F2 hF2 cv hd hcv hctx
 refine T ?_
 refine C q1 F109 ?_
 cases hz:(e0 != 0)
 rotate_left
 ·have he:e0≠0:=by simpa using hz
  rw[if_pos he]at hres
  subst hres
  refine T ?_
  refine Ap 2 [.sl 17 Ab []] q_ (.cons .nil .nil) ?_
  exact Kc (L:=[]) hd hcv hctx qd q_ q_ q_ q_ q_
 have he0:e0=0:=by simpa using hz
 rw[if_neg (by simp[he0])]at hres
 subst he0
 obtain ⟨hlen,hsz⟩:=hsm
 refine T ?_
 refine Wc 2 0 1000 17 Ab q_ q_ q_ q_ ?_
 refine Az (fun x:Nat × List LineM=>res=Lc x.1 (rows.drop x.1) x.2∧x.1≤rows.length∧x.2.length≤x.1) (fun x=>[(2,.ptr 2 0),(4,.ptr 4 0),(20,.sl 1 Ac rows),(21,Aa rows.length),(22,Aa x.1)]) (fun x=>[(2,.box [.osl 1000]),(4,.box [Aa 0]),(1000,.row 17 Ab x.2)]) (fun x=>rows.length-x.1) (0,[]) [] ⟨hres,by simp,by simp⟩ U ?_
 rintro ⟨j,out⟩ ⟨hI,hj,hol⟩
 dsimp only at hI hj hol ⊢
 refine T ?_
 refine⟨fun h=>?_,fun h=>?_⟩
 ·have hlt:j<rows.length:=qA h
  have hlt0:((j:Nat):Int).toNat<rows.length:=hlt
  have hr:(rows[((j:Nat):Int).toNat]'hlt0).size≤20000:=hsz _ (List.getElem_mem _)
  have hdr:rows.drop j=rows[((j:Nat):Int).toNat]'hlt0::rows.drop (j+1):=List.drop_eq_getElem_cons hlt
  rw[hdr,Lc]at hI
  clear h
  have q2:=Xo (rows[((j:Nat):Int).toNat]'hlt0) j_
  have hws:=S4 (rows[((j:Nat):Int).toNat]'hlt0) hr
  generalize wordsT (rows[((j:Nat):Int).toNat]'hlt0)=wt at *
  obtain ⟨ws,we⟩:=wt
  dsimp only at hI hws q2
  cases hz:(we != 0)
  rotate_left
  ·have he:we≠0:=by simpa using hz
   rw[if_pos he]at hI
   subst hI
   refine T ?_
   refine C q2 F110 ?_
   refine Ap 2 [.sl 17 Ab []] q_ (.cons .nil .nil) ?_
   exact Kc (L:=[]) hd hcv hctx qd q_ q_ q_ q_ q_
  have he:we=0:=by simpa using hz
  rw[if_neg (by simp[he])]at hI
  by_cases hw0:ws.length=0
  ·rw[if_pos (List.eq_nil_of_length_eq_zero hw0)]at hI
   have f0:((ws.length:Int) == 0)=true:=by rw[hw0];rfl
   refine T ?_
   refine C q2 F110 ?_
   exact Al (j+1,out) [] ⟨hI,hlt,by dsimp only;omega⟩ (by dsimp only;omega) U
  ·rw[if_neg (fun e=>hw0 (by rw[e];rfl))]at hI
   have f0:((ws.length:Int) == 0)=false:=by rw[beq_eq_false_iff_ne];omega
   have q3:=Y0 ws ((j:Int)+1) j_ hws.2
   generalize A3 ws ((j:Int)+1)=st at *
   obtain ⟨l,se⟩:=st
   dsimp only at hI q3
   cases hz2:(se != 0)
   rotate_left
   ·have he2:se≠0:=by simpa using hz2
    rw[if_pos he2]at hI
    subst hI
    refine T ?_
    refine C q2 F110 ?_
    refine C q3 F111 ?_
    refine A6 1000 q_ ?_
    exact Kc (L:=out) hd hcv hctx (if_neg he2) q_ q_ q_ q_ q_
   ·have he2:se=0:=by simpa using hz2
    rw[if_neg (by simp[he2])]at hI
    refine T ?_
    refine C q2 F110 ?_
    refine C q3 F111 ?_
    refine X (Ag Γ.toTy 56 q_ q_ q_ q_ q_ (.row q_) (.lit (e:=Ab) (l:=[l]) q_ q_) qd (by simp;omega) (by simp;omega)) ?_
    exact Al (j+1,out++[l]) [(1000,56)] ⟨hI,hlt,by simp;omega⟩ (by dsimp only;omega) U
 ·have hje:j=rows.length:=qB h
  subst hje
  rw[List.drop_length,Lc]at hI
  subst hI
  clear h
  refine T ?_
  refine A6 1000 q_ ?_
  exact Kc (L:=out) hd hcv hctx (if_pos q_) q_ q_ q_ q_ q_
theorem H5:∀ (l:List ByteArray) (k:Nat),(∀ x∈l,x.size≤k)→E9 l≤k * l.length
 | [],k,_=>by simp[E9]
 | x::l,k,h=>by
  have h1:=h x qd
  have h2:=H5 l k (fun y hy=>h y (by simp[hy]))
  simp only[E9,List.map_cons,List.sum_cons,List.length_cons]at h2 ⊢
  rw[Nat.mul_succ]
  omega
theorem Vi {l:List Int} (hl:l.length≤100000) (h:∀ x∈l,Cm x):(O6 l).size≤20000000:=by
 have h1:=J3 (l.map Ba) comma
 have h2:=H4 (tx:=Ba) l (fun x hx=>by have:=D5 (h x hx);omega)
 have h3:comma.size=1:=rfl
 rw[List.length_map,h3]at h1
 rw[O6];omega
theorem H3 {l:List Int} (hl:l.length≤100000) (h:∀ x∈l,Cm x):(Dd l).size≤20000000:=by
 rw[Dd]
 split
 ·decide
 ·exact Vi hl h
theorem T9 {l:List Int} (hl:l.length≤100000):(Hu l).size≤20000000:=by
 have h1:=J3 (l.map C5) comma
 have h2:=H4 (tx:=C5) l (fun x _=>Ed x)
 have h3:comma.size=1:=rfl
 rw[List.length_map,h3]at h1
 rw[Hu];omega
theorem Xl (m:Int):(Ig m).size≤20000000:=by
 have:=O4 m.toNat 6
 rw[Ig,Bw];omega
theorem Qt (a b:Int):(D4 a b).size≤20000000:=by
 rw[D4]
 split
 ·have h1:=Ed a
  have h2:=B9 2 b.toNat j_
  rw[Bw,List.length_append,List.length_append,List.length_reverse]
  have:(C5 a).data.toList.length=(C5 a).size:=rfl
  simp;omega
 ·decide
theorem L4 {l:LineM} (h:LineX l):(Ch l).length≤7∧∀ x∈Ch l,x.size≤20000000:=by
 have hd:=h.w.dev;have hp:=h.w.port;have hpe:=h.w.peer;have hf:=h.w.far;have hn:=h.w.name
 have nv:=D5 h.vlan
 have nn:=D5 h.num
 have nc:=D5 h.cost
 have s1:=H3 h.w.fin.t h.tagged
 have s2:=H3 h.w.fin.i h.imports
 have s3:=H3 h.w.fin.e h.exports
 have s4:=T9 (l:=l.addrs) h.w.fin.a
 have s5:=Xl l.mac
 have s6:=Qt l.addr l.bits
 have s7:=Ed l.addr
 have z1:accessT.size=6:=rfl
 have z2:trunkT.size=5:=rfl
 have z3:dash.size=1:=rfl
 have lz:∀ a:Array UInt8,a.size≤20→(⟨a⟩:ByteArray).size≤20000000:=fun a ha=>Nat.le_trans ha qc
 generalize e:Ch l=ws
 rw[Ch,Ay,Jv]at e
 repeat' split at e
 all_goals subst e
 all_goals refine⟨by simp,?_⟩
 all_goals try simp only[List.forall_mem_cons]
 all_goals repeat' apply And.intro
 all_goals first | omega | (split<;>omega) | (exact lz _ qc) | (intro x hx;cases hx)
theorem Vj {l:LineM} (h:LineX l):(D7 (Ch l) space).size≤150000000:=by
 obtain ⟨h1,h2⟩:=L4 h
 have h3:=J3 (Ch l) space
 have h4:=H5 _ _ h2
 have h5:space.size=1:=rfl
 rw[h5]at h3
 have:20000000 * (Ch l).length≤20000000 * 7:=Nat.mul_le_mul_left _ h1
 omega
theorem We (l:LineM):Ch l=[]↔Bo l=false:=by
 rw[Ch]
 cases hr:Bo l with
 | false=>simp
 | true =>
  have hk:=Oq hr
  rw[if_pos rfl]
  constructor
  ·intro e
   exfalso
   rcases (by omega:l.kind=1∨l.kind=2∨l.kind=3∨l.kind=4∨l.kind=5∨l.kind=6∨l.kind=7∨l.kind=8∨l.kind=9) with h9 | h9 | h9 | h9 | h9 | h9 | h9 | h9 | h9
   all_goals (simp(config:={decide:=true}) only [Ay,h9,Jv,if_true,if_false]at e)
   all_goals (repeat' split at e)
   all_goals first | (simp at e;done) | omega | (exact absurd e qd)
  ·intro e;cases e
theorem Zg (l:List ByteArray) (h0:l.length≤100000) (h1:E9 l≤10000000000):Sy.Spec Tryz.prog 195 [.sl 1 Ac l] [] (Ac (D7 l space)) []:=cT F195 Tryz.ntmps195 fun F hF=>by
 have q:=Oi l space j_ j_ (by show 1 * l.length≤_;omega)
 generalize D7 l space=r at *
 refine T ?_
 refine C q F255 ?_
 exact D
theorem Xg (l:LineM) (h:LineX l):Sy.Spec Tryz.prog 112 [Ab l] [] (.tup [Ac (if Bo l=true then D7 (Ch l) space else ⟨#[]⟩),Aa (if Bo l=true then 0 else 2)]) []:=cT F112 Tryz.ntmps112 fun F hF=>by
 have q1:=Uv l h
 obtain ⟨z1,z2⟩:=L4 h
 have z3:=H5 _ _ z2
 have z4:20000000 * (Ch l).length≤20000000 * 7:=Nat.mul_le_mul_left _ z1
 have q2:=Zg (Ch l) j_ j_
 have hn:=We l
 generalize Ch l=ws at *
 cases hr:Bo l with
 | true =>
  rw[if_pos rfl,if_pos rfl]
  have hne:ws.length≠0:=fun e=>by
   have:=hn.1 (List.eq_nil_of_length_eq_zero e)
   rw[hr]at this;cases this
  have f0:((ws.length:Int) == 0)=false:=by rw[beq_eq_false_iff_ne];omega
  refine T ?_
  refine C q1 F194 ?_
  refine C q2 F195 ?_
  exact D
 | false =>
  rw[if_neg qd,if_neg qd]
  have he:ws=[]:=hn.2 hr
  subst he
  refine T ?_
  refine C q1 F194 ?_
  exact D
theorem Uw (x:LineM) (r:List LineM) (b:List UInt8) (h:Bo x=false):Cw (x::r) b=([],2):=by
 rw[Cw,if_pos h]
theorem Tj (x:LineM) (r:List LineM) (b:List UInt8) (h:Bo x=true):Cw (x::r) b=Cw r (b++(D7 (Ch x) space).data.toList++[10]):=by
 rw[Cw,if_neg (by rw[h];simp),Ch,if_pos h]
theorem Xc (l:List LineM) (h:∀ x∈l,LineX x) (hl:l.length≤100000):Sy.Spec Tryz.prog 47 [.sl 17 Ab l] [] (.tup [.sl 1 An (plainT l).1,Aa (plainT l).2]) []:=cT F47 Tryz.ntmps47 fun F hF=>by
 have hres:=plainT.eq_1 l
 generalize plainT l=res at *
 refine T ?_
 refine Cz 4 1000 1 An q_ q_ ?_
 refine T ?_
 refine Az (fun x:Nat × List UInt8=>Cw l []=Cw (l.drop x.1) x.2∧x.1≤l.length∧x.2.length≤200000000 * x.1) (fun x=>[(0,.sl 17 Ab l),(4,.osl 1000),(9,.sl 17 Ab l),(10,Aa l.length),(11,Aa x.1)]) (fun x=>[(1000,.row 1 An x.2)]) (fun x=>l.length-x.1) (0,[]) [] ⟨q_,by simp,by simp⟩ U ?_
 rintro ⟨j,b⟩ ⟨hI,hj,hbl⟩
 dsimp only at hI hj hbl ⊢
 refine T ?_
 refine⟨fun h2=>?_,fun h2=>?_⟩
 ·have hlt:j<l.length:=by have:=of_decide_eq_true h2;omega
  have hlt0:((j:Nat):Int).toNat<l.length:=hlt
  clear h2
  have hdr:l.drop j=l[((j:Nat):Int).toNat]'hlt0::l.drop (j+1):=List.drop_eq_getElem_cons hlt
  have hx:=h (l[((j:Nat):Int).toNat]'hlt0) (List.getElem_mem _)
  have q:=Xg _ hx
  have hsz:=Vj hx
  rw[hdr]at hI
  have hjb:200000000 * j≤200000000 * 100000:=Nat.mul_le_mul_left _ j_
  cases hr:Bo (l[((j:Nat):Int).toNat]'hlt0) with
  | false =>
   rw[hr,if_neg qd,if_neg qd]at q
   rw[Uw _ _ _ hr]at hI
   rw[hI,if_pos qc]at hres
   subst hres
   refine T ?_
   refine C q F112 ?_
   refine B0 2 1 An q_ ?_
   refine T ?_
   exact D
  | true =>
   rw[hr,if_pos rfl,if_pos rfl]at q
   rw[Tj _ _ _ hr]at hI
   generalize D7 (Ch (l[((j:Nat):Int).toNat]'hlt0)) space=t at *
   have htl:t.data.toList.length=t.size:=rfl
   refine T ?_
   refine C q F112 ?_
   refine X (Tz Γ.toTy 25 q_ q_ q_ q_ q_ q_ q_ (.row q_) q_ qc j_ j_) ?_
   refine X (Ag Γ.toTy 27 q_ q_ q_ q_ q_ (.row q_) (.lit (e:=An) (l:=[10]) q_ q_) qc (by simp;omega) (by simp;omega)) ?_
   refine Al (j+1,b++t.data.toList++[10]) [(1000,27)] ⟨hI,hlt,?_⟩ (by dsimp only;omega) U
   simp only[List.length_append,List.length_singleton,htl]
   omega
 ·have hje:j=l.length:=by have:=of_decide_eq_false h2;omega
  subst hje
  clear h2
  rw[List.drop_length,Cw]at hI
  rw[hI]at hres
  dsimp only at hres
  rw[if_neg qd]at hres
  by_cases c1:400<l.length
  ·rw[if_pos (.inl c1)]at hres
   have f1:decide ((l.length:Int)>400)=true:=decide_eq_true j_
   subst hres
   refine T ?_
   refine B0 2 1 An q_ ?_
   refine T ?_
   exact D
  ·have f1:decide ((l.length:Int)>400)=false:=decide_eq_false j_
   by_cases c2:20000<b.length
   ·rw[if_pos (.inr c2)]at hres
    have f2:decide ((b.length:Int)>20000)=true:=decide_eq_true j_
    subst hres
    refine T ?_
    refine B0 2 1 An q_ ?_
    refine T ?_
    exact D
   ·rw[if_neg j_]at hres
    have f2:decide ((b.length:Int)>20000)=false:=decide_eq_false j_
    subst hres
    refine T ?_
    refine A6 1000 q_ ?_
    refine T ?_
    exact D
def Bu (k:Nat) (l:List LineM):List LineM:=Ep (l.take k)++l.drop k
theorem Ol (k:Nat) (l:List LineM):(Bu k l).length=l.length:=by
 rw[Bu,List.length_append,Iw,← List.length_append,List.take_append_drop]
theorem Ma (l:List LineM):Bu 0 l=l:=by simp[Bu,Ep]
theorem Om (l:List LineM):Bu l.length l=Ep l:=by simp[Bu]
theorem Sb {k:Nat} {l:List LineM} (h:k<l.length) (h2:k<(Bu k l).length):(Bu k l)[k]'h2=l[k]:=by
 have e:(Ep (l.take k)).length=k:=by rw[Iw,List.length_take];omega
 simp only[Bu]
 rw[List.getElem_append_right j_]
 simp only[e,Nat.sub_self,List.getElem_drop,Nat.add_zero]
theorem Mb {k:Nat} {l:List LineM} (h:k<l.length):Bu (k+1) l=(Bu k l).set k { l[k] with row:=(k:Int)+1 }:=by
 have e:(Ep (l.take k)).length=k:=by rw[Iw,List.length_take];omega
 rw[Bu,Bu,List.take_succ_eq_append_getElem h,List.set_append_right _ _ j_,e,Nat.sub_self,List.drop_eq_getElem_cons h,List.set_cons_zero]
 have:Ep (l.take k++[l[k]])=Ep (l.take k)++[{ l[k] with row:=(k:Int)+1 }]:=by
  unfold Ep
  rw[List.mapIdx_append]
  have:(l.take k).length=k:=by rw[List.length_take];omega
  simp[this]
 rw[this]
 simp
theorem Ov (M:List LineM) (h:∀ x∈M,LineFin x) (hl:M.length<100000):Sy.Spec Tryz.prog 15 [.sl 17 Ab M] [] (.sl 17 Ab (A4 M)) []:=cT F15 Tryz.ntmps15 fun F hF=>by
 have hsl:A4 M=Ep (At Bm M):=rfl
 have hlen:=Ce Bm M
 generalize A4 M=res at *
 refine T ?_
 refine Cz 3 1000 17 Ab q_ q_ ?_
 refine T ?_
 refine Az (fun j:Nat=>j≤M.length) (fun j=>[(0,.sl 17 Ab M),(3,.osl 1000),(7,.sl 17 Ab M),(8,Aa M.length),(9,Aa j)]) (fun j=>[(1000,.row 17 Ab (M.take j))]) (fun j=>M.length-j) 0 [] qd U ?_
 intro j hj
 have htl:(M.take j).length=j:=by rw[List.length_take];omega
 refine T ?_
 refine⟨fun h2=>?_,fun h2=>?_⟩
 ·have hlt:j<M.length:=by have:=of_decide_eq_true h2;omega
  have hlt0:((j:Nat):Int).toNat<M.length:=hlt
  clear h2
  have hdr:M.take (j+1)=M.take j++[M[((j:Nat):Int).toNat]'hlt0]:=List.take_succ_eq_append_getElem hlt
  have q:=Y1 (M[((j:Nat):Int).toNat]'hlt0) (h _ (List.getElem_mem _))
  generalize M.take j=Q at *
  refine T ?_
  refine C q F35 ?_
  refine X (Ag Γ.toTy 17 q_ q_ q_ q_ q_ (.row q_) (.lit (e:=Ab) (l:=[M[((j:Nat):Int).toNat]'hlt0]) q_ q_) qd (by simp;omega) (by simp;omega)) ?_
  exact Al (j+1) [(1000,17)] hlt j_ ⟨⟨q_,q_,q_,q_,q_,q_,q_,q_,q_,q_,z_⟩,⟨.inl (congrArg (Ob.row 17 Ab) hdr),q_,z_⟩,q_,q_⟩
 ·have hje:j=M.length:=by have:=of_decide_eq_false h2;omega
  subst hje
  clear h2
  rw[List.take_length]
  have q:=Aab Ii LineFin 37 [] [] rfl (fun a b ha hb=>⟨⟨_,_,F37⟩,Uy a b ha hb⟩) Bm rfl lineB_ordy M h j_
  generalize At Bm M=Y at *
  have hl2:M.length=Y.length:=hlen.symm
  refine T ?_
  refine X (Ad [(0,1000)] q_ F36 q q_ ⟨q_,z_⟩ q_ ⟨.inl q_,z_⟩) ?_
  refine T ?_
  refine Az (fun j:Nat=>j≤Y.length) (fun j=>[(3,.osl 1000),(22,Aa Y.length),(23,Aa j)]) (fun j=>[(1000,.row 17 Ab (Bu j Y))]) (fun j=>Y.length-j) 0 [] qd ⟨⟨q_,q_,q_,q_,q_,q_,z_⟩,⟨.inl (congrArg (Ob.row 17 Ab) (Ma Y)),q_,z_⟩,q_,q_⟩ ?_
  intro j hj
  have hrl:=Ol j Y
  refine T ?_
  refine⟨fun h2=>?_,fun h2=>?_⟩
  ·have hlt:j<Y.length:=by have:=of_decide_eq_true h2;omega
   have hlt0:((j:Nat):Int).toNat<(Bu j Y).length:=by show j<_;omega
   clear h2
   have hnx:=Mb hlt
   have hne:Bu j Y≠[]:=fun e=>by rw[e]at hrl;simp at hrl;omega
   have hat:(Bu j Y)[((j:Nat):Int).toNat]'hlt0=Y[j]:=Sb hlt _
   generalize Y[j]=l at *
   generalize Bu j Y=R at *
   refine T ?_
   rw[← hat]at hnx
   clear hat
   refine⟨hne,?_⟩
   refine T ?_
   refine⟨{ (R[((j:Nat):Int).toNat]'hlt0) with row:=(j:Int)+1 },rfl,rfl,?_⟩
   refine T ?_
   exact Al (j+1) [] hlt j_ ⟨⟨q_,q_,q_,q_,q_,q_,z_⟩,⟨.inl (congrArg (Ob.row 17 Ab) hnx),q_,z_⟩,q_,q_⟩
  ·have hje:j=Y.length:=by have:=of_decide_eq_false h2;omega
   subst hje
   clear h2
   rw[Om,← hsl]
   refine A6 1000 q_ ?_
   refine T ?_
   exact D
theorem Uj {M:List LineM} (h:∀ x∈M,LineX x):∀ x∈A4 M,LineX x:=by
 intro x hx
 rw[A4,Ep,List.mem_mapIdx]at hx
 obtain ⟨i,hi,rfl⟩:=hx
 obtain ⟨⟨⟨a1,a2,a3,a4⟩,b2,b3,b4,b5,b6,b7⟩,c1,c2,c3,c4,c5,c6⟩:=h _ (Dh _ _ _ (List.getElem_mem hi))
 exact⟨⟨⟨a1,a2,a3,a4⟩,⟨b2.mac,b2.addr,b2.addrs⟩,b3,b4,b5,b6,b7⟩,c1,c2,c3,c4,c5,c6⟩
theorem Xh (b:List UInt8) (hb:b.length≤1000000) (h:∀ x∈(textT b).1,LineX x) (hl:(textT b).1.length<100000):Sy.Spec Tryz.prog 21 [.sl 1 An b] [] (.tup [.sl 1 An (orderT b).1,Aa (orderT b).2.1,Aa (orderT b).2.2]) []:=cT F21 Tryz.ntmps21 fun F hF=>by
 have q1:=Yu b hb
 have q2:=Ov (textT b).1 (fun x hx=>(h x hx).w.fin) hl
 have hsl:(A4 (textT b).1).length=(textT b).1.length:=Jh _
 have q3:=Xc (A4 (textT b).1) (Uj h) j_
 have hres:=orderT.eq_1 b
 generalize orderT b=res at *
 generalize textT b=tt at *
 obtain ⟨M,r,e⟩:=tt
 dsimp only at q1 q2 q3 hres
 generalize A4 M=Y at *
 generalize plainT Y=pt at *
 obtain ⟨o,oe⟩:=pt
 dsimp only at q3 hres
 cases hz:(e != 0) with
 | true =>
  have he:e≠0:=by simpa using hz
  rw[if_pos he]at hres
  subst hres
  refine T ?_
  refine C q1 F46 ?_
  refine B0 2 1 An q_ ?_
  refine T ?_
  exact D
 | false =>
  have he:e=0:=by simpa using hz
  rw[if_neg (by simp[he])]at hres
  subst hres
  refine T ?_
  refine C q1 F46 ?_
  refine C q2 F15 ?_
  refine C q3 F47 ?_
  exact D
def Jl (x:LineM):List Int:=[(x.dev.size:Int),(x.port.size:Int),(x.peer.size:Int),(x.far.size:Int),(x.name.size:Int),(x.tagged.length:Int),(x.imports.length:Int),(x.exports.length:Int),(x.addrs.length:Int)]
def Ho:List Int→Int→Bool × Int
 | [],t=>(false,t)
 | x::r,t=>if 300<x then (true,0) else Ho r (t+x)
def Hn:List LineM→Int→Bool
 | [],t=>decide (10000<t)
 | x::r,t=>if (Ho (Jl x) t).1=true then true else Hn r (Ho (Jl x) t).2
def linesGreat (l:List LineM):Bool:=if 400<l.length then true else Hn l 0
theorem O7:∀ (l:List Int) (t:Int),(Ho l t).1=false→∀ x∈l,x≤300
 | [],_,_,_,hx=>by cases hx
 | y::r,t,h,x,hx=>by
  rw[Ho]at h
  split at h
  ·cases h
  ·rcases List.mem_cons.1 hx with rfl | hx
   ·omega
   ·exact O7 r _ h x hx
theorem Ih:∀ (l:List LineM) (t:Int),Hn l t=false→∀ x∈l,∀ y∈Jl x,y≤300
 | [],_,_,_,hx=>by cases hx
 | z::r,t,h,x,hx=>by
  rw[Hn]at h
  split at h
  ·cases h
  ·rename_i h0
   rcases List.mem_cons.1 hx with rfl | hx
   ·exact O7 _ _ (by simpa using h0)
   ·exact Ih r _ h x hx
theorem Zm {l:List LineM} (h:linesGreat l=false):∀ x∈l,LineFin x:=by
 rw[linesGreat]at h
 split at h
 ·cases h
 ·intro x hx
  have:=Ih l 0 h x hx
  simp only[Jl,List.forall_mem_cons]at this
  exact⟨by omega,by omega,by omega,by omega⟩
theorem Zh (x:LineM):∀ y∈Jl x,0≤y:=by
 simp only[Jl,List.forall_mem_cons]
 refine⟨by omega,by omega,by omega,by omega,by omega,by omega,by omega,by omega,by omega,fun y hy=>by cases hy⟩
theorem Mk (M:List LineM) (hl:M.length<1000000):Sy.Spec Tryz.prog 12 [.sl 17 Ab M] [] (Af (linesGreat M)) []:=cT F12 Tryz.ntmps12 fun F hF=>by
 have hres:=linesGreat.eq_1 M
 generalize linesGreat M=res at *
 by_cases c0:400<M.length
 ·rw[if_pos c0]at hres
  have f0:decide ((M.length:Int)>400)=true:=decide_eq_true j_
  subst hres
  refine T ?_
  exact D
 rw[if_neg c0]at hres
 have f0:decide ((M.length:Int)>400)=false:=decide_eq_false j_
 refine T ?_
 refine Az (fun x:Nat × Int=>res=Hn (M.drop x.1) x.2∧x.1≤M.length∧0≤x.2∧x.2≤2700 * x.1) (fun x=>[(0,.sl 17 Ab M),(3,Aa x.2),(4,Aa x.1)]) (fun _=>[]) (fun x=>M.length-x.1) (0,0) [] ⟨hres,by simp,by simp,by simp⟩ U ?_
 rintro ⟨j,t⟩ ⟨hI,hj,ht0,ht⟩
 dsimp only at hI hj ht0 ht ⊢
 refine T ?_
 refine⟨fun h2=>?_,fun h2=>?_⟩
 ·have hlt:j<M.length:=by have:=of_decide_eq_true h2;omega
  have hlt0:((j:Nat):Int).toNat<M.length:=hlt
  clear h2
  have hdr:M.drop j=M[((j:Nat):Int).toNat]'hlt0::M.drop (j+1):=List.drop_eq_getElem_cons hlt
  rw[hdr,Hn]at hI
  refine T ?_
  refine Ef 70 Aa (Jl (M[((j:Nat):Int).toNat]'hlt0)) q_ q_ ?_
  refine A6 70 q_ ?_
  have hps:=Zh (M[((j:Nat):Int).toNat]'hlt0)
  have hls:(Jl (M[((j:Nat):Int).toNat]'hlt0)).length=9:=rfl
  generalize Jl (M[((j:Nat):Int).toNat]'hlt0)=ls at *
  refine T ?_
  refine Az (fun x:Nat × Int=>Ho ls t=Ho (ls.drop x.1) x.2∧x.1≤9∧0≤x.2∧x.2≤2700 * j+300 * x.1) (fun x=>[(0,.sl 17 Ab M),(3,Aa x.2),(4,Aa j),(70,.sl 1 Aa ls),(71,Aa 9),(72,Aa x.1)]) (fun _=>[]) (fun x=>9-x.1) (0,t) [] ⟨q_,by simp,ht0,by dsimp only;omega⟩ U ?_
  rintro ⟨k,u⟩ ⟨hK,hk,hu0,hu⟩
  dsimp only at hK hk hu0 hu ⊢
  refine T ?_
  refine⟨fun h2=>?_,fun h2=>?_⟩
  ·have hkt:k<9:=by have:=of_decide_eq_true h2;omega
   have hkt0:((k:Nat):Int).toNat<ls.length:=by omega
   clear h2
   have hdk:ls.drop k=ls[((k:Nat):Int).toNat]'hkt0::ls.drop (k+1):=List.drop_eq_getElem_cons hkt0
   rw[hdk,Ho]at hK
   have hp:=hps (ls[((k:Nat):Int).toNat]'hkt0) (List.getElem_mem _)
   by_cases c1:300<ls[((k:Nat):Int).toNat]'hkt0
   ·rw[if_pos c1]at hK
    rw[hK,if_pos rfl]at hI
    have f1:decide (ls[((k:Nat):Int).toNat]'hkt0>300)=true:=decide_eq_true j_
    subst hI
    refine T ?_
    exact D
   ·rw[if_neg c1]at hK
    have f1:decide (ls[((k:Nat):Int).toNat]'hkt0>300)=false:=decide_eq_false j_
    refine T ?_
    exact Al (k+1,u+ls[((k:Nat):Int).toNat]'hkt0) [] ⟨hK,hkt,by dsimp only;omega,by dsimp only;omega⟩ (by dsimp only;omega) U
  ·have hk9:k=9:=by have:=of_decide_eq_false h2;omega
   subst hk9
   clear h2
   rw[List.drop_eq_nil_of_le j_,Ho]at hK
   rw[hK,if_neg qd]at hI
   refine T ?_
   exact Al (j+1,u) [] ⟨hI,hlt,hu0,by dsimp only;omega⟩ (by dsimp only;omega) U
 ·have hje:j=M.length:=by have:=of_decide_eq_false h2;omega
  subst hje
  clear h2
  rw[List.drop_length,Hn]at hI
  subst hI
  refine T ?_
  exact D
theorem Tk:∀ x∈(textT exA).1,LineX x:=by
 rw[Mg]
 intro x hx
 simp only[List.mem_cons,List.not_mem_nil,or_false]at hx
 rcases hx with rfl | rfl
 all_goals exact⟨⟨⟨by decide,by decide,by decide,by decide⟩,⟨by decide,by decide,fun x hx=>(by cases hx)⟩,by decide,by decide,by decide,by decide,by decide⟩,(by unfold Cm;decide),(by unfold Cm;decide),(by unfold Cm;decide),fun x hx=>(by cases hx),fun x hx=>(by cases hx),fun x hx=>(by cases hx)⟩
theorem Sj:LineFin lineZ:=⟨by decide,by decide,by decide,by decide⟩
theorem Ux:Sy.Spec Tryz.prog 17 [.val (.slice none 0 0)] [] (Af true) []:=cT F17 Tryz.ntmps17 fun F hF=>by
 have q:=Sl [] (fun x hx=>by cases hx) qc
 rw[show Bv []=true from rfl]at q
 refine T ?_
 refine B0 3 17 Ab q_ ?_
 refine C q F39 ?_
 exact D
theorem Z0:Sy.Spec Tryz.prog 13 [] [] (Af true) []:=cT F13 Tryz.ntmps13 fun F hF=>by
 have q1:=Xh exA qc Tk (by rw[Mg];decide)
 rw[Aap]at q1
 dsimp only at q1
 have q2:=Ux
 have q3:=Ow lineZ lineZ Sj Sj
 rw[lineB_ordy.ne lineZ]at q3
 have hb:((⟨exB.toArray⟩:ByteArray) == ⟨#[100,101,118,105,99,101,32,97,32,49,32,48,48,58,48,48,58,48,48,58,48,48,58,48,48,58,48,49,10,112,111,114,116,32,97,32,112,32,49,32,97,99,99,101,115,115,32,49,48,10]⟩)=true:=beq_iff_eq.2 rfl
 refine T ?_
 refine X (K2 Γ.toTy q_ q_ q_ q_ q_ q_ q_) ?_
 refine Ef 5 An exA q_ q_ ?_
 refine A6 5 q_ ?_
 refine C q1 F21 ?_
 refine X (Ci Γ.toTy (bs:=exB) q_ q_ q_ q_ q_ q_ q_ .sl) ?_
 refine C q2 F17 ?_
 refine G_vw 26 (Ab lineZ) (.agg (.cons (.refl _) (.cons (.refl _) (.cons (.refl _) (.cons (.refl _) (.cons (.refl _) (.cons (.refl _) (.cons (.refl _) (.cons (.refl _) (.cons (.refl _) (.cons (.refl _) (.cons (.refl _) (.cons (.refl _) (.cons (.refl _) (.cons .nil (.cons .nil (.cons .nil (.cons .nil .nil)))))))))))))))))) ?_
 refine G_vw 27 (Ab lineZ) (.agg (.cons (.refl _) (.cons (.refl _) (.cons (.refl _) (.cons (.refl _) (.cons (.refl _) (.cons (.refl _) (.cons (.refl _) (.cons (.refl _) (.cons (.refl _) (.cons (.refl _) (.cons (.refl _) (.cons (.refl _) (.cons (.refl _) (.cons .nil (.cons .nil (.cons .nil (.cons .nil .nil)))))))))))))))))) ?_
 refine C q3 F19 ?_
 exact D
theorem Bp (a b:Int):Sy.Spec Tryz.prog 40 [Aa a,Aa b] [] (Aa (Au a b)) []:=cT F40 Tryz.ntmps40 fun F hF=>by
 by_cases h1:a<b
 ·have f1:decide (a<b)=true:=decide_eq_true h1
  rw[show Au a b=-1 from if_pos h1]
  refine T ?_
  exact D
 ·have f1:decide (a<b)=false:=decide_eq_false h1
  by_cases h2:a>b
  ·have f2:decide (a>b)=true:=decide_eq_true h2
   rw[show Au a b=1 from (if_neg h1).trans (if_pos h2)]
   refine T ?_
   exact D
  ·have f2:decide (a>b)=false:=decide_eq_false h2
   rw[show Au a b=0 from (if_neg h1).trans (if_neg h2)]
   refine T ?_
   exact D
theorem Aat (a b:Int):Sy.Spec Tryz.prog 43 [Cn a,Cn b] [] (Aa (Au a b)) []:=cT F43 Tryz.ntmps43 fun F hF=>by
 by_cases h1:a<b
 ·have f1:decide (a<b)=true:=decide_eq_true h1
  rw[show Au a b=-1 from if_pos h1]
  refine T ?_
  exact D
 ·have f1:decide (a<b)=false:=decide_eq_false h1
  by_cases h2:a>b
  ·have f2:decide (a>b)=true:=decide_eq_true h2
   rw[show Au a b=1 from (if_neg h1).trans (if_pos h2)]
   refine T ?_
   exact D
  ·have f2:decide (a>b)=false:=decide_eq_false h2
   rw[show Au a b=0 from (if_neg h1).trans (if_neg h2)]
   refine T ?_
   exact D
theorem U4 (k:Int):Sy.Spec Tryz.prog 41 [Aa k] [] (Aa (stepI k)) []:=cT F41 Tryz.ntmps41 fun F hF=>by
 by_cases h1:k<1
 ·have f1:decide (k<1)=true:=decide_eq_true h1
  have e:stepI k=10:=by unfold stepI;repeat' split<;>try omega
  rw[e]
  refine T ?_
  exact D
 have f1:decide (k<1)=false:=decide_eq_false h1
 by_cases h2:k>9
 ·have f2:decide (k>9)=true:=decide_eq_true h2
  have e:stepI k=10:=by unfold stepI;repeat' split<;>try omega
  rw[e]
  refine T ?_
  exact D
 have f2:decide (k>9)=false:=decide_eq_false h2
 have h3:k.toNat<10:=by omega
 have h0:0≤k:=by omega
 have hl:([10,1,3,4,5,2,6,7,8,9]:List Int).length=10:=rfl
 have hk:k=1∨k=2∨k=3∨k=4∨k=5∨k=6∨k=7∨k=8∨k=9:=by omega
 clear f1 f2
 rcases hk with rfl | rfl | rfl | rfl | rfl | rfl | rfl | rfl | rfl
 all_goals refine T ?_
 all_goals exact D
theorem Iq {α:Type} {c:α→α→Int} (hs:∀ x,c x x=0):∀ {j:Nat} {l m:List α},j≤l.length→j≤m.length→l.take j=m.take j→Ao c l m=Ao c (l.drop j) (m.drop j)
 | 0,l,m,_,_,_=>by rw[List.drop_zero,List.drop_zero]
 | j+1,[],m,h,_,_=>by simp at h
 | j+1,x::l,[],_,h,_=>by simp at h
 | j+1,x::l,y::m,h1,h2,h=>by
  simp only[List.take_succ_cons,List.cons.injEq]at h
  rw[Ao,List.drop_succ_cons,List.drop_succ_cons,← Iq hs (by simpa using h1) (by simpa using h2) h.2,h.1,hs]
  rfl
theorem I2 {α:Type} {c:α→α→Int} {j:Nat} {l m:List α} (h1:j≤l.length) (h2:j≤m.length) (h:j=l.length∨j=m.length):Ao c (l.drop j) (m.drop j)=Au (l.length:Int) (m.length:Int):=by
 unfold Au
 by_cases a1:l.length<m.length
 ·have e:j=l.length:=by omega
  subst e
  rw[List.drop_length,List.drop_eq_getElem_cons a1,if_pos j_]
  rfl
 ·by_cases a2:m.length<l.length
  ·have e:j=m.length:=by omega
   subst e
   rw[List.drop_length,List.drop_eq_getElem_cons a2,if_neg j_,if_pos j_]
   rfl
  ·have e1:j=l.length:=by omega
   rw[if_neg j_,if_neg j_,List.drop_eq_nil_of_le j_,List.drop_eq_nil_of_le j_]
   rfl
theorem Kt (l m:List Int) (hl:l.length≤1000000) (hm1:m.length≤1000000):Sy.Spec Tryz.prog 44 [.sl 1 Aa l,.sl 1 Aa m] [] (Aa (Ao Au l m)) []:=cT F44 Tryz.ntmps44 fun F hF=>by
 refine T ?_
 refine Az (fun j:Nat=>j≤l.length∧j≤m.length∧l.take j=m.take j) (fun j=>[(0,.sl 1 Aa l),(1,.sl 1 Aa m),(5,Aa j)]) (fun _=>[]) (fun j=>l.length-j) 0 [] ⟨by simp,by simp,q_⟩ U ?_
 rintro j ⟨h1,h2,h3⟩
 have hsk:=Iq (c:=Au) (fun x=>Ql x) h1 h2 h3
 by_cases a1:j<l.length
 ·have f1:decide ((j:Int)<(l.length:Int))=true:=decide_eq_true j_
  by_cases a2:j<m.length
  ·have f2:decide ((j:Int)<(m.length:Int))=true:=decide_eq_true j_
   have b1:((j:Nat):Int).toNat<l.length:=a1
   have b2:((j:Nat):Int).toNat<m.length:=a2
   by_cases h0:l[j]=m[j]
   ·have f3:(l[((j:Nat):Int).toNat]'b1 != m[((j:Nat):Int).toNat]'b2)=false:=by
     simp only[Int.toNat_natCast]
     rw[h0];simp
    clear hsk
    refine T ?_
    refine Al (j+1) [] ⟨a1,a2,?_⟩ j_ U
    rw[List.take_succ_eq_append_getElem a1,List.take_succ_eq_append_getElem a2,h3,h0]
   ·have f3:(l[((j:Nat):Int).toNat]'b1 != m[((j:Nat):Int).toNat]'b2)=true:=by
     simp only[Int.toNat_natCast]
     rw[bne_iff_ne];exact h0
    have q:=Bp (l[((j:Nat):Int).toNat]'b1) (m[((j:Nat):Int).toNat]'b2)
    rw[List.drop_eq_getElem_cons a1,List.drop_eq_getElem_cons a2,Ao,Bs,if_pos (fun e=>h0 (I3 e))]at hsk
    rw[hsk]
    refine T ?_
    refine C q F40 ?_
    exact D
  ·have f2:decide ((j:Int)<(m.length:Int))=false:=decide_eq_false j_
   rw[hsk,I2 h1 h2 (.inr j_)]
   have q:=Bp (l.length:Int) (m.length:Int)
   refine T ?_
   refine C q F40 ?_
   exact D
 ·have f1:decide ((j:Int)<(l.length:Int))=false:=decide_eq_false j_
  rw[hsk,I2 h1 h2 (.inl j_)]
  have q:=Bp (l.length:Int) (m.length:Int)
  refine T ?_
  refine C q F40 ?_
  exact D
theorem wrap_u8 (x:UInt8):IntKind.i64.wrap (x.toNat:Int)=(x.toNat:Int):=by
 have:=x.toNat_lt
 rw[IntKind.wrap_i64];omega
theorem Ie (a b:ByteArray) (ha:a.size≤1000000) (hb:b.size≤1000000):Sy.Spec Tryz.prog 42 [Ac a,Ac b] [] (Aa (D2 a b)) []:=cT F42 Tryz.ntmps42 fun F hF=>by
 have ea:a.data.toList.length=a.size:=rfl
 have eb:b.data.toList.length=b.size:=rfl
 have hC:D2 a b=Ao Jd a.data.toList b.data.toList:=rfl
 rw[hC]
 refine T ?_
 refine Az (fun j:Nat=>j≤a.size∧j≤b.size∧a.data.toList.take j=b.data.toList.take j) (fun j=>[(0,Ac a),(1,Ac b),(5,Aa j)]) (fun _=>[]) (fun j=>a.size-j) 0 [] ⟨by simp,by simp,q_⟩ U ?_
 rintro j ⟨h1,h2,h3⟩
 have hsk:=Iq (c:=Jd) (fun x=>cmpU_ok.self x) (j:=j) (l:=a.data.toList) (m:=b.data.toList) h1 h2 h3
 by_cases a1:j<a.size
 ·have f1:decide ((j:Int)<(a.size:Int))=true:=decide_eq_true j_
  by_cases a2:j<b.size
  ·have f2:decide ((j:Int)<(b.size:Int))=true:=decide_eq_true j_
   have g1:j<a.data.toList.length:=a1
   have g2:j<b.data.toList.length:=a2
   have i1:=I4 g1
   have i2:=I4 g2
   have q:=Bp (IntKind.i64.wrap ((Ak a j).toNat:Int)) (IntKind.i64.wrap ((Ak b j).toNat:Int))
   rw[show Au (IntKind.i64.wrap ((Ak a j).toNat:Int)) (IntKind.i64.wrap ((Ak b j).toNat:Int))=Au ((Ak a j).toNat:Int) ((Ak b j).toNat:Int) by rw[wrap_u8,wrap_u8]]at q
   have w1:=wrap_u8 (Ak a j)
   have w2:=wrap_u8 (Ak b j)
   have hcu:Jd (Ak a j) (Ak b j)=Au ((Ak a j).toNat:Int) ((Ak b j).toNat:Int):=rfl
   by_cases h0:Ak a j=Ak b j
   ·have f3:(((Ak a ((j:Nat):Int).toNat).toNat:Int) != ((Ak b ((j:Nat):Int).toNat).toNat:Int))=false:=by simp only[Int.toNat_natCast];rw[h0];simp
    clear hsk
    refine T ?_
    refine Al (j+1) [] ⟨a1,a2,?_⟩ j_ U
    rw[List.take_succ_eq_append_getElem g1,List.take_succ_eq_append_getElem g2,h3,← i1,← i2,h0]
   ·have f3:(((Ak a ((j:Nat):Int).toNat).toNat:Int) != ((Ak b ((j:Nat):Int).toNat).toNat:Int))=true:=by
     simp only[Int.toNat_natCast]
     rw[bne_iff_ne];intro e;exact h0 (UInt8.toNat_inj.1 j_)
    rw[List.drop_eq_getElem_cons g1,List.drop_eq_getElem_cons g2,Ao,← i1,← i2,Bs,if_pos (fun e=>h0 (Lv e)),hcu]at hsk
    rw[hsk]
    refine T ?_
    refine C q F40 ?_
    exact D
  ·have f2:decide ((j:Int)<(b.size:Int))=false:=decide_eq_false j_
   rw[hsk,I2 h1 h2 (.inr j_),ea,eb]
   have q:=Bp (a.size:Int) (b.size:Int)
   refine T ?_
   refine C q F40 ?_
   exact D
 ·have f1:decide ((j:Int)<(a.size:Int))=false:=decide_eq_false j_
  rw[hsk,I2 h1 h2 (.inl j_),ea,eb]
  have q:=Bp (a.size:Int) (b.size:Int)
  refine T ?_
  refine C q F40 ?_
  exact D
theorem wrap_u32 {x:Int} (h:0≤x∧x<4294967296):IntKind.i64.wrap x=x:=by
 rw[IntKind.wrap_i64];omega
theorem Sg (l:List Int) (hl:l.length≤1000000) (hr:∀ x∈l,0≤x∧x<4294967296):Sy.Spec Tryz.prog 45 [.sl 1 Aw l] [] (.sl 1 Aa l) []:=cT F45 Tryz.ntmps45 fun F hF=>by
 refine T ?_
 refine Cz 3 1000 1 Aa q_ q_ ?_
 refine T ?_
 refine Az (fun j:Nat=>j≤l.length) (fun j=>[(0,.sl 1 Aw l),(3,.osl 1000),(4,Aa j)]) (fun j=>[(1000,.row 1 Aa (l.take j))]) (fun j=>l.length-j) 0 [] qd U ?_
 intro j hj
 refine T ?_
 refine⟨fun h2=>?_,fun h2=>?_⟩
 ·have hlt:j<l.length:=by have:=of_decide_eq_true h2;omega
  have hlt0:((j:Nat):Int).toNat<l.length:=hlt
  clear h2
  have hnx:l.take (j+1)=l.take j++[IntKind.i64.wrap (l[((j:Nat):Int).toNat]'hlt0)]:=by
   rw[List.take_succ_eq_append_getElem hlt,wrap_u32 (hr _ (List.getElem_mem _))]
   rfl
  have hql:(l.take j).length=j:=by rw[List.length_take];omega
  generalize l.take j=P at *
  refine T ?_
  refine X (Ag Γ.toTy 18 q_ q_ q_ q_ q_ (.row q_) (.lit (e:=Aa) (l:=[IntKind.i64.wrap (l[((j:Nat):Int).toNat]'hlt0)]) q_ q_) qd (by simp;omega) (by simp;omega)) ?_
  exact Al (j+1) [(1000,18)] hlt j_ ⟨⟨q_,q_,q_,q_,q_,q_,z_⟩,⟨.inl (congrArg (Ob.row 1 Aa) hnx),q_,z_⟩,q_,q_⟩
 ·have hje:j=l.length:=by have:=of_decide_eq_false h2;omega
  subst hje
  clear h2
  rw[List.take_length]
  refine A6 1000 q_ ?_
  refine T ?_
  exact D
theorem Tl:∀ (l m:List Int),orI (l++m)=Bs (orI l) (orI m)
 | [],m=>by simp[orI,Bs]
 | x::l,m=>by
  rw[List.cons_append,Dp,Dp,Tl l m]
  unfold Bs
  by_cases h:x≠0
  ·rw[if_pos h,if_pos h,if_pos h]
  ·rw[if_neg h,if_neg h]
def c1L (a b:LineM):List Int:=[Au (stepI a.kind) (stepI b.kind),D2 a.dev b.dev,D2 a.port b.port,D2 a.peer b.peer,D2 a.far b.far,D2 a.name b.name]
def c2L (a b:LineM):List Int:=[Au a.vlan b.vlan,Au a.num b.num,Au a.mac b.mac,Au a.addr b.addr,Au a.bits b.bits,Au a.cost b.cost]
def c3L (a b:LineM):List Int:=[Ao Au a.tagged b.tagged,Ao Au a.imports b.imports,Ao Au a.exports b.exports,Ao Au a.addrs b.addrs]
theorem Xp (a b:LineM):orI (c1L a b++c2L a b++c3L a b)=Ii a b:=by
 have e1:orI (c1L a b)=Bs (Au (stepI a.kind) (stepI b.kind)) (O3 a b):=Dp _ _
 have e2:orI (c2L a b)=If a b:=rfl
 have e3:orI (c3L a b)=O5 a b:=rfl
 have e0:∀ x:Int,Bs x 0=x:=fun x=>by unfold Bs;split<;>simp_all
 rw[Tl,Tl,e1,e2,e3,Ii]
 rw[Dp,Dp,Dp,Dp]
 show _=Bs _ (Bs _ (Bs _ (Bs _ 0)))
 rw[e0]
 have as4:∀ x y z:Int,Bs (Bs x y) z=Bs x (Bs y z):=fun x y z=>by
  unfold Bs
  by_cases h:x≠0
  ·rw[if_pos h,if_pos h,if_pos h]
  ·rw[if_neg h,if_neg h]
 rw[as4,as4]
structure LineF (l:LineM):Prop where
 fin:LineFin l
 ok:LineOK l
 dev:l.dev.size≤100000
 port:l.port.size≤100000
 peer:l.peer.size≤100000
 far:l.far.size≤100000
 name:l.name.size≤100000
theorem O0 (a b:LineM) (ha:LineF a) (hb:LineF b):Sy.Spec Tryz.prog 20 [Ab a,Ab b] [] (Af (Bm a b)) []:=cT F20 Tryz.ntmps20 fun F hF=>by
 have hB:Bm a b=decide (orI (c1L a b++c2L a b++c3L a b)<0):=by rw[Xp];rfl
 rw[hB]
 have w1:=wrap_u32 ha.ok.addr
 have w2:=wrap_u32 hb.ok.addr
 have qa:=Bp (IntKind.i64.wrap a.addr) (IntKind.i64.wrap b.addr)
 rw[show Au (IntKind.i64.wrap a.addr) (IntKind.i64.wrap b.addr)=Au a.addr b.addr by rw[w1,w2]]at qa
 have z1:=ha.fin.t;have z2:=ha.fin.i;have z3:=ha.fin.e;have z4:=ha.fin.a
 have y1:=hb.fin.t;have y2:=hb.fin.i;have y3:=hb.fin.e;have y4:=hb.fin.a
 have z5:=ha.dev;have z6:=ha.port;have z7:=ha.peer;have z8:=ha.far;have z9:=ha.name
 have y5:=hb.dev;have y6:=hb.port;have y7:=hb.peer;have y8:=hb.far;have y9:=hb.name
 refine T ?_
 refine C (U4 a.kind) F41 ?_
 refine C (U4 b.kind) F41 ?_
 refine C (Bp (stepI a.kind) (stepI b.kind)) F40 ?_
 refine C (Ie a.dev b.dev j_ j_) F42 ?_
 refine C (Ie a.port b.port j_ j_) F42 ?_
 refine C (Ie a.peer b.peer j_ j_) F42 ?_
 refine C (Ie a.far b.far j_ j_) F42 ?_
 refine C (Ie a.name b.name j_ j_) F42 ?_
 refine C (Bp a.vlan b.vlan) F40 ?_
 refine C (Bp a.num b.num) F40 ?_
 refine C (Aat a.mac b.mac) F43 ?_
 refine C qa F40 ?_
 refine C (Bp a.bits b.bits) F40 ?_
 refine C (Bp a.cost b.cost) F40 ?_
 refine Xd (Ag Γ.toTy 74 q_ q_ q_ q_ q_ (.lit (e:=Aa) (l:=c1L a b) q_ q_) (.lit (e:=Aa) (l:=c2L a b) q_ q_) qd (by simp[c1L,c2L]) (by simp[c1L,c2L])) ?_
 refine C (Kt a.tagged b.tagged j_ j_) F44 ?_
 refine C (Kt a.imports b.imports j_ j_) F44 ?_
 refine C (Kt a.exports b.exports j_ j_) F44 ?_
 refine C (Sg a.addrs j_ ha.ok.addrs) F45 ?_
 refine C (Sg b.addrs j_ hb.ok.addrs) F45 ?_
 refine C (Kt a.addrs b.addrs j_ j_) F44 ?_
 refine Xd (Ag Γ.toTy 99 q_ q_ q_ q_ q_ (.row q_) (.lit (e:=Aa) (l:=c3L a b) q_ q_) qd (by simp[c1L,c2L,c3L]) (by simp[c1L,c2L,c3L])) ?_
 have hlen:(c1L a b++c2L a b++c3L a b).length=16:=rfl
 generalize c1L a b++c2L a b++c3L a b=L at *
 refine A6 99 q_ ?_
 refine T ?_
 refine Az (fun j:Nat=>j≤16∧orI L=orI (L.drop j)) (fun j=>[(5,.sl 1 Aa L),(6,Aa j)]) (fun _=>[]) (fun j=>16-j) 0 [] ⟨by simp,q_⟩ U ?_
 rintro j ⟨hj,hI⟩
 refine T ?_
 refine⟨fun h2=>?_,fun h2=>?_⟩
 ·have hlt:j<L.length:=by have:=of_decide_eq_true h2;omega
  have hlt0:((j:Nat):Int).toNat<L.length:=hlt
  clear h2
  rw[List.drop_eq_getElem_cons hlt,Dp,Bs]at hI
  by_cases h0:L[j]=0
  ·have f3:(L[((j:Nat):Int).toNat]'hlt0 != 0)=false:=by
    simp only[Int.toNat_natCast]
    rw[h0];rfl
   rw[if_neg (by simpa using h0)]at hI
   refine T ?_
   exact Al (j+1) [] ⟨by omega,hI⟩ j_ U
  ·have f3:(L[((j:Nat):Int).toNat]'hlt0 != 0)=true:=by
    simp only[Int.toNat_natCast]
    rw[bne_iff_ne];exact h0
   rw[if_pos h0]at hI
   have e:L[j]=L[((j:Nat):Int).toNat]'hlt0:=rfl
   rw[hI,e]
   refine T ?_
   exact D
 ·have hje:16≤j:=by have:=of_decide_eq_false h2;omega
  rw[List.drop_eq_nil_of_le j_]at hI
  rw[show decide (orI L<0)=false from by rw[hI];rfl]
  refine T ?_
  exact D
theorem U5 (M:List LineM) (h:∀ x∈M,LineF x) (hl:M.length<1000000):Sy.Spec Tryz.prog 18 [.sl 17 Ab M] [] (Af (Bv M)) []:=cT F18 Tryz.ntmps18 fun F hF=>by
 refine T ?_
 refine Az (fun i:Nat=>1≤i∧(i≤M.length∨i=1)∧∀ j (hj:j+1<M.length),j+1<i→Bm M[j+1] M[j]=false) (fun i=>[(0,.sl 17 Ab M),(3,Aa i)]) (fun _=>[]) (fun i=>M.length-i) 1 [] ⟨by omega,by omega,fun j hj h1=>by omega⟩ U ?_
 rintro i ⟨h1,h2,h3⟩
 refine T ?_
 refine⟨fun h4=>?_,fun h4=>?_⟩
 ·have hi:i<M.length:=by have:=of_decide_eq_true h4;omega
  clear h4
  have b1:((i:Nat):Int).toNat<M.length:=hi
  have b2:(((i:Nat):Int)-1).toNat<M.length:=by omega
  have g2:0≤((i:Nat):Int)-1:=by omega
  have q:=O0 (M[((i:Nat):Int).toNat]'b1) (M[(((i:Nat):Int)-1).toNat]'b2) (h _ (List.getElem_mem _)) (h _ (List.getElem_mem _))
  obtain ⟨k,rfl⟩:∃ k,i=k+1:=⟨i-1,by omega⟩
  have hk:(((k+1:Nat):Int)-1).toNat=k:=by omega
  have hk2:(((k+1:Nat):Int)).toNat=k+1:=by omega
  cases hd:Bm (M[((k+1:Nat):Int).toNat]'b1) (M[(((k+1:Nat):Int)-1).toNat]'b2) with
  | true =>
   rw[hd]at q
   simp only[hk,hk2]at hd
   rw[Mf hi hd]
   refine T ?_
   refine C q F20 ?_
   exact D
  | false =>
   rw[hd]at q
   simp only[hk,hk2]at hd
   refine T ?_
   refine C q F20 ?_
   refine Al (k+1+1) [] ⟨by omega,by omega,fun j hj h9=>?_⟩ j_ U
   by_cases hji:j+1<k+1
   ·exact h3 j hj hji
   ·have hj2:j=k:=by omega
    subst hj2
    exact hd
 ·have hi:M.length≤i:=by have:=of_decide_eq_false h4;omega
  have hO:Bv M=true:=Ks fun j hj=>h3 j hj j_
  rw[hO]
  refine T ?_
  exact D
theorem Aas (M:List LineM) (h:∀ x∈M,LineF x) (hl:M.length<100000):Sy.Spec Tryz.prog 16 [.sl 17 Ab M] [] (.sl 17 Ab (A4 M)) []:=cT F16 Tryz.ntmps16 fun F hF=>by
 have hsl:A4 M=Ep (At Bm M):=rfl
 have hfull:=List.take_length (l:=M)
 generalize A4 M=res at *
 refine T ?_
 refine Cz 3 1000 17 Ab q_ q_ ?_
 refine T ?_
 refine Az (fun j:Nat=>j≤M.length) (fun j=>[(0,.sl 17 Ab M),(3,.osl 1000),(4,Aa j)]) (fun j=>[(1000,.row 17 Ab (At Bm (M.take j)))]) (fun j=>M.length-j) 0 [] qd U ?_
 intro j hj
 have hol:=Ce Bm (M.take j)
 rw[List.length_take]at hol
 have hjl:min j M.length=j:=by omega
 rw[hjl]at hol
 have hof:∀ y∈At Bm (M.take j),LineF y:=fun y hy=>h y (List.mem_of_mem_take (Dh Bm _ y hy))
 refine T ?_
 refine⟨fun h2=>?_,fun h2=>?_⟩
 ·have hlt:j<M.length:=by have:=of_decide_eq_true h2;omega
  have hlt0:((j:Nat):Int).toNat<M.length:=hlt
  clear h2
  have hsn:At Bm (M.take (j+1))=Ij Bm (M[((j:Nat):Int).toNat]'hlt0) (At Bm (M.take j)):=by rw[List.take_succ_eq_append_getElem hlt,Hh];rfl
  have hx:=h (M[((j:Nat):Int).toNat]'hlt0) (List.getElem_mem _)
  generalize At Bm (M.take j)=out at *
  refine A6 1000 q_ ?_
  refine T ?_
  refine Az (InsI Bm (M[((j:Nat):Int).toNat]'hlt0) out) (fun q=>[(0,.sl 17 Ab M),(3,.sl 17 Ab out),(4,Aa j),(5,Aa q.1.length)]) (fun _=>[]) (fun q=>q.1.length) (out,[]) [] ⟨List.append_nil _,fun y hy=>(by cases hy)⟩ U ?_
  intro q hq
  obtain ⟨O1,O2⟩:=q
  obtain ⟨hq1,hq2⟩:=hq
  dsimp only at hq1 hq2 ⊢
  have hrun:=Vo Bm (M[((j:Nat):Int).toNat]'hlt0) O1 O2 hq2
  rw[hq1]at hrun
  have hlo:O1.length+O2.length=out.length:=by rw[← hq1,List.length_append]
  rcases List.eq_nil_or_concat O1 with e1 | ⟨c1,y,e1⟩
  ·subst e1
   have hrun:=hrun (.inl rfl)
   have f1:decide (((([]:List LineM).length:Nat):Int)>0)=false:=rfl
   refine T ?_
   refine X (D3 (lo:=0) (hi:=([]:List LineM).length) Γ.toTy ([]:List LineM) q_ q_ q_ q_ (.inl ⟨q_,q_⟩) (.inr ⟨_,_,q_,q_⟩) (Nat.zero_le _) j_ (by rw[List.drop_zero,← hq1];exact List.take_left' q_)) ?_
   refine X (Ag Γ.toTy 36 q_ q_ q_ q_ q_ (.lit (e:=Ab) (l:=[]) q_ q_) (.sl (l:=([]:List LineM))) qd (by simp only[List.length_nil];omega) (by simp only[List.length_nil];omega)) ?_
   refine X (Ag Γ.toTy 43 q_ q_ q_ q_ q_ (.row q_) (.lit (e:=Ab) (l:=[M[((j:Nat):Int).toNat]'hlt0]) q_ q_) qd (by simp only[List.length_append,List.length_nil,List.length_singleton];omega) (by simp only[List.length_append,List.length_nil,List.length_singleton];omega)) ?_
   refine X (D3 (lo:=([]:List LineM).length) (hi:=out.length) Γ.toTy O2 q_ q_ q_ q_ (.inr ⟨_,_,q_,q_⟩) (.inl ⟨q_,q_⟩) j_ (Nat.le_refl _) (by rw[List.take_length,← hq1];exact List.drop_left' q_)) ?_
   refine X (Ag Γ.toTy 48 q_ q_ q_ q_ q_ (.row q_) (.sl (l:=O2)) qd (by simp only[List.length_append,List.length_nil,List.length_singleton];omega) (by simp only[List.length_append,List.length_nil,List.length_singleton];omega)) ?_
   have hfin:At Bm (M.take (j+1))=[]++([]:List LineM)++[M[((j:Nat):Int).toNat]'hlt0]++O2:=by rw[hsn,hrun];simp
   exact Al (j+1) [(1000,48)] hlt j_ ⟨⟨q_,q_,q_,q_,q_,q_,z_⟩,⟨.inl (congrArg (Ob.row 17 Ab) hfin),q_,z_⟩,q_,q_⟩
  ·subst e1
   have hcl:(c1.concat y).length=c1.length+1:=by simp
   have f1:decide (((c1.concat y).length:Int)>0)=true:=decide_eq_true j_
   have b1:(((c1.concat y).length:Int)-1).toNat<out.length:=by omega
   have ey:out[(((c1.concat y).length:Int)-1).toNat]'b1=y:=by
    have e:(((c1.concat y).length:Int)-1).toNat=c1.length:=by omega
    subst hq1
    simp only[e]
    rw[List.getElem_append_left j_]
    simp
   have q:=O0 (M[((j:Nat):Int).toNat]'hlt0) (out[(((c1.concat y).length:Int)-1).toNat]'b1) hx (hof _ (List.getElem_mem _))
   rw[ey]at q
   cases hd:Bm (M[((j:Nat):Int).toNat]'hlt0) y with
   | true =>
    rw[hd]at q
    rw[← ey]at q
    refine T ?_
    refine C q F20 ?_
    exact Al (c1,y::O2) [] ⟨by rw[← hq1];simp,fun z hz=>by
     rcases List.mem_cons.1 hz with rfl | hz
     ·exact hd
     ·exact hq2 z hz⟩ (by dsimp only;omega) ⟨⟨q_,q_,q_,q_,q_,q_,congrArg Aa (by dsimp only;omega),q_,z_⟩,z_,q_,q_⟩
   | false =>
    rw[hd]at q
    rw[← ey]at q
    have hrun:=hrun (.inr ⟨c1,y,by simp,hd⟩)
    refine T ?_
    refine C q F20 ?_
    refine X (D3 (lo:=0) (hi:=(c1.concat y).length) Γ.toTy (c1.concat y) q_ q_ q_ q_ (.inl ⟨q_,q_⟩) (.inr ⟨_,_,q_,q_⟩) (Nat.zero_le _) j_ (by rw[List.drop_zero,← hq1];exact List.take_left' q_)) ?_
    refine X (Ag Γ.toTy 36 q_ q_ q_ q_ q_ (.lit (e:=Ab) (l:=[]) q_ q_) (.sl (l:=(c1.concat y))) qd (by simp only[List.length_nil];omega) (by simp only[List.length_nil];omega)) ?_
    refine X (Ag Γ.toTy 43 q_ q_ q_ q_ q_ (.row q_) (.lit (e:=Ab) (l:=[M[((j:Nat):Int).toNat]'hlt0]) q_ q_) qd (by simp only[List.length_append,List.length_nil,List.length_singleton];omega) (by simp only[List.length_append,List.length_nil,List.length_singleton];omega)) ?_
    refine X (D3 (lo:=(c1.concat y).length) (hi:=out.length) Γ.toTy O2 q_ q_ q_ q_ (.inr ⟨_,_,q_,q_⟩) (.inl ⟨q_,q_⟩) j_ (Nat.le_refl _) (by rw[List.take_length,← hq1];exact List.drop_left' q_)) ?_
    refine X (Ag Γ.toTy 48 q_ q_ q_ q_ q_ (.row q_) (.sl (l:=O2)) qd (by simp only[List.length_append,List.length_nil,List.length_singleton];omega) (by simp only[List.length_append,List.length_nil,List.length_singleton];omega)) ?_
    have hfin:At Bm (M.take (j+1))=[]++(c1.concat y)++[M[((j:Nat):Int).toNat]'hlt0]++O2:=by rw[hsn,hrun];simp
    exact Al (j+1) [(1000,48)] hlt j_ ⟨⟨q_,q_,q_,q_,q_,q_,z_⟩,⟨.inl (congrArg (Ob.row 17 Ab) hfin),q_,z_⟩,q_,q_⟩
 ·have hje:j=M.length:=by have:=of_decide_eq_false h2;omega
  subst hje
  clear h2
  rw[hfull]
  rw[hfull]at hol
  generalize At Bm M=Y at *
  refine T ?_
  refine Az (fun j:Nat=>j≤Y.length) (fun j=>[(3,.osl 1000),(7,Aa j)]) (fun j=>[(1000,.row 17 Ab (Bu j Y))]) (fun j=>Y.length-j) 0 [] qd ⟨⟨q_,q_,q_,q_,z_⟩,⟨.inl (congrArg (Ob.row 17 Ab) (Ma Y)),q_,z_⟩,q_,q_⟩ ?_
  intro j hj
  have hrl:=Ol j Y
  refine T ?_
  refine⟨fun h2=>?_,fun h2=>?_⟩
  ·have hlt:j<Y.length:=by have:=of_decide_eq_true h2;omega
   have hlt0:((j:Nat):Int).toNat<(Bu j Y).length:=by show j<_;omega
   clear h2
   have hnx:=Mb hlt
   have hne:Bu j Y≠[]:=fun e=>by rw[e]at hrl;simp at hrl;omega
   have hat:(Bu j Y)[((j:Nat):Int).toNat]'hlt0=Y[j]:=Sb hlt _
   generalize Y[j]=l at *
   generalize Bu j Y=R at *
   rw[← hat]at hnx
   clear hat
   refine T ?_
   refine⟨hne,?_⟩
   refine T ?_
   refine⟨{ (R[((j:Nat):Int).toNat]'hlt0) with row:=(j:Int)+1 },rfl,rfl,?_⟩
   refine T ?_
   exact Al (j+1) [] hlt j_ ⟨⟨q_,q_,q_,q_,z_⟩,⟨.inl (congrArg (Ob.row 17 Ab) hnx),q_,z_⟩,q_,q_⟩
  ·have hje:j=Y.length:=by have:=of_decide_eq_false h2;omega
   subst hje
   clear h2
   rw[Om,← hsl]
   refine A6 1000 q_ ?_
   refine T ?_
   exact D
theorem Li (l:List Int) (hl:l.length≤1000000):Sy.Spec Tryz.prog 56 [.sl 1 Aa l,.sl 1 Aa l] [] (Af true) []:=cT F56 Tryz.ntmps56 fun F hF=>by
 have f0:((l.length:Int) != (l.length:Int))=false:=by simp
 refine T ?_
 refine Az (fun j:Nat=>j≤l.length) (fun j=>[(0,.sl 1 Aa l),(1,.sl 1 Aa l),(5,Aa j)]) (fun _=>[]) (fun j=>l.length-j) 0 [] qd U ?_
 intro j hj
 refine T ?_
 refine⟨fun h2=>?_,fun h2=>?_⟩
 ·have hlt:j<l.length:=by have:=of_decide_eq_true h2;omega
  have hlt0:((j:Nat):Int).toNat<l.length:=hlt
  clear h2
  have f1:(l[((j:Nat):Int).toNat]'hlt0 != l[((j:Nat):Int).toNat]'hlt0)=false:=by simp
  refine T ?_
  exact Al (j+1) [] hlt j_ U
 ·refine T ?_
  exact D
theorem Xa (l:List Int) (hl:l.length≤1000000):Sy.Spec Tryz.prog 57 [.sl 1 Aw l,.sl 1 Aw l] [] (Af true) []:=cT F57 Tryz.ntmps57 fun F hF=>by
 have f0:((l.length:Int) != (l.length:Int))=false:=by simp
 refine T ?_
 refine Az (fun j:Nat=>j≤l.length) (fun j=>[(0,.sl 1 Aw l),(1,.sl 1 Aw l),(5,Aa j)]) (fun _=>[]) (fun j=>l.length-j) 0 [] qd U ?_
 intro j hj
 refine T ?_
 refine⟨fun h2=>?_,fun h2=>?_⟩
 ·have hlt:j<l.length:=by have:=of_decide_eq_true h2;omega
  have hlt0:((j:Nat):Int).toNat<l.length:=hlt
  clear h2
  have f1:(l[((j:Nat):Int).toNat]'hlt0 != l[((j:Nat):Int).toNat]'hlt0)=false:=by simp
  refine T ?_
  exact Al (j+1) [] hlt j_ U
 ·refine T ?_
  exact D
theorem Xb (a:LineM) (h:LineFin a):Sy.Spec Tryz.prog 34 [Ab a,Ab a] [] (Af true) []:=cT F34 Tryz.ntmps34 fun F hF=>by
 have z1:=h.t;have z2:=h.i;have z3:=h.e;have z4:=h.a
 have f1:(a.row == a.row)=true:=by simp
 have f2:(a.kind == a.kind)=true:=by simp
 have f3:(a.dev == a.dev)=true:=by simp
 have f4:(a.port == a.port)=true:=by simp
 have f5:(a.peer == a.peer)=true:=by simp
 have f6:(a.far == a.far)=true:=by simp
 have f7:(a.name == a.name)=true:=by simp
 have f8:(a.mac == a.mac)=true:=by simp
 have f9:(a.addr == a.addr)=true:=by simp
 have f10:(a.bits == a.bits)=true:=by simp
 have f11:(a.vlan == a.vlan)=true:=by simp
 have f12:(a.num == a.num)=true:=by simp
 have f13:(a.cost == a.cost)=true:=by simp
 refine T ?_
 refine C (Li a.tagged j_) F56 ?_
 refine C (Li a.imports j_) F56 ?_
 refine C (Li a.exports j_) F56 ?_
 refine C (Xa a.addrs j_) F57 ?_
 exact D
theorem Md (M:List LineM) (h:∀ x∈M,LineFin x) (hl:M.length<1000000):Sy.Spec Tryz.prog 14 [.sl 17 Ab M,.sl 17 Ab M] [] (Af true) []:=cT F14 Tryz.ntmps14 fun F hF=>by
 have f0:((M.length:Int) != (M.length:Int))=false:=by simp
 refine T ?_
 refine Az (fun j:Nat=>j≤M.length) (fun j=>[(0,.sl 17 Ab M),(1,.sl 17 Ab M),(5,Aa j)]) (fun _=>[]) (fun j=>M.length-j) 0 [] qd U ?_
 intro j hj
 refine T ?_
 refine⟨fun h2=>?_,fun h2=>?_⟩
 ·have hlt:j<M.length:=by have:=of_decide_eq_true h2;omega
  have hlt0:((j:Nat):Int).toNat<M.length:=hlt
  clear h2
  have q:=Xb (M[((j:Nat):Int).toNat]'hlt0) (h _ (List.getElem_mem _))
  refine T ?_
  refine C q F34 ?_
  exact Al (j+1) [] hlt j_ U
 ·refine T ?_
  exact D
theorem Tw {l:List LineM} (h:linesGreat l=false):∀ x∈l,LineOK x→LineF x:=by
 intro x hx ho
 refine⟨Zm h x hx,ho,?_,?_,?_,?_,?_⟩
 all_goals
  rw[linesGreat]at h
  split at h
  ·cases h
  ·have:=Ih l 0 h x hx
   simp only[Jl,List.forall_mem_cons]at this
   omega
theorem Ou (M:List LineM) (x y:LineM) (hM:∀ z∈M,LineOK z) (hx:LineOK x) (hy:LineOK y):Sy.Spec Tryz.prog 3 [.sl 17 Ab M,Ab x,Ab y] [] (Af true) []:=cT F3 Tryz.ntmps3 fun F hF=>by
 have qw:=Z0
 by_cases c0:100<M.length
 ·have f0:decide ((M.length:Int)>100)=true:=decide_eq_true j_
  refine T ?_
  refine C qw F13 ?_
  exact D
 have f0:decide ((M.length:Int)>100)=false:=decide_eq_false j_
 have qg:=Mk M j_
 cases hg:linesGreat M with
 | true =>
  rw[hg]at qg
  refine T ?_
  refine C qg F12 ?_
  refine C qw F13 ?_
  exact D
 | false =>
  rw[hg]at qg
  have qh:=Mk [x,y] qd
  cases hh:linesGreat [x,y] with
  | true =>
   rw[hh]at qh
   refine T ?_
   refine C qg F12 ?_
   refine T ?_
   refine Ef 18 Ab [x,y] q_ q_ ?_
   refine A6 18 q_ ?_
   refine C qh F12 ?_
   refine C qw F13 ?_
   exact D
  | false =>
   rw[hh]at qh
   have fM:∀ z∈M,LineF z:=fun z hz=>Tw hg z hz (hM z hz)
   have fx:=Tw hh x qd hx
   have fy:=Tw hh y qd hy
   clear hg hh
   have hsl:=Jh M
   have hsf:∀ z∈A4 M,LineFin z:=by
    intro z hz
    rw[A4,Ep,List.mem_mapIdx]at hz
    obtain ⟨i,hi,rfl⟩:=hz
    obtain ⟨a1,a2,a3,a4⟩:=(fM _ (Dh _ _ _ (List.getElem_mem hi))).fin
    exact⟨a1,a2,a3,a4⟩
   have q1:=Ov M (fun z hz=>(fM z hz).fin) j_
   have q2:=Aas M fM j_
   have q3:=Md (A4 M) hsf j_
   have q4:=Aao M (fun z hz=>(fM z hz).fin) j_
   have q5:=U5 M fM j_
   have q6:=Ow x y fx.fin fy.fin
   have q7:=O0 x y fx fy
   have q8:=Md M (fun z hz=>(fM z hz).fin) j_
   have f1:(Bv M == Bv M)=true:=by simp
   have f2:(Bm x y == Bm x y)=true:=by simp
   generalize A4 M=Z at *
   generalize Bv M=ob at *
   generalize Bm x y=lb at *
   refine T ?_
   refine C qg F12 ?_
   refine T ?_
   refine Ef 18 Ab [x,y] q_ q_ ?_
   refine A6 18 q_ ?_
   refine C qh F12 ?_
   refine Cd (Ag Γ.toTy 24 q_ q_ q_ q_ q_ (.lit (e:=Ab) (l:=[]) q_ q_) (.sl (l:=M)) qd (by simp only[List.length_nil];omega) (by simp only[List.length_nil];omega)) q_ q_ ?_
   refine A6 24 q_ ?_
   rw[List.nil_append]
   refine T ?_
   refine C q1 F15 ?_
   refine C q2 F16 ?_
   refine C q3 F14 ?_
   refine C q4 F17 ?_
   refine C q5 F18 ?_
   refine C q6 F19 ?_
   refine C q7 F20 ?_
   refine C q8 F14 ?_
   refine C qw F13 ?_
   exact D
end Go.Sy.YtgblchnfjbkipaaGreatDoor
namespace Go.Sy
open Go.ChangeShapes Go.WideShapes Go.ChangeAt Go.RowKit
section
variable {H:Type} (enc:TypeId × Value→H) (P:Program) (W:World)
def Op1 (t:TypeId) {α:Type} (e:α→SV) (p:α→Prop):Prop :=
 ∀ n c y,DataW.trod enc P W 0 (fun _=>true) true n t [c]=some y→∃ x,p x∧Rd κ0 W (e x) c∧c.oneCell'=true
def OpN (t:TypeId) {α:Type} (e:α→SV) (p:α→Prop) (sz:Nat):Prop :=
 ∀ n cs y,DataW.trod enc P W 0 (fun _=>true) true n t cs=some y→∃ x,p x∧cs.length=sz∧Ones cs∧RdL κ0 W (cellsOf (e x)) cs
variable {enc P W}
theorem Id {t:TypeId} {k:IntKind} (ht:P.underlying t=some (.int k)):Op1 enc P W t (fun z=>.val (.int k z)) (fun z=>(Lit.int k z).wf=true):=fun n c y h=>by
 obtain ⟨z,e,_,hw⟩:=DataW.trod_int ht h
 have e:c=.int k z:=by simpa using e
 subst e
 exact⟨z,hw,by simp[Rd],q_⟩
theorem Oy {t:TypeId} (ht:P.underlying t=some .string):Op1 enc P W t Ac (fun s=>s.size≤maxLen):=fun n c y h=>by
 obtain ⟨z,e,_,hw⟩:=DataW.trod_string ht h
 have e:c=.string z:=by simpa using e
 subst e
 exact⟨z,hw,by simp[Ac,Rd],q_⟩
theorem Yc {t:TypeId} {k:IntKind} (ht:P.underlying t=some (.int k)):OpN enc P W t (fun z=>.val (.int k z)) (fun z=>(Lit.int k z).wf=true) 1:=fun n cs y h=>by
 obtain ⟨z,rfl,_,hw⟩:=DataW.trod_int ht h
 refine⟨z,hw,q_,fun c hc=>by simp at hc;subst hc;rfl,?_⟩
 simp[cellsOf,RdL,Rd]
theorem Sz {base:Nat} {a:Addr} {n:Nat} {cs:List Value} (h:W.cells? base a n=some cs):cs.length=n∧∀ j (_:j<n),W.cell? (a.add j)=cs[j]?:=by
 unfold World.cells? at h
 split at h
 ·refine⟨by simpa using mapM_some_length h,fun j hj=>?_⟩
  exact mapM_some_get h j j (by simp[hj])
 ·cases h
theorem Oz {t et:TypeId} {α:Type} {e:α→SV} {p:α→Prop} {sz:Nat} (ht:P.underlying t=some (.slice et)) (hsz:P.cellsOf et=sz) (h0:0<sz) (hb:∀ x,(e x).boxed=true) (hd:∀ x,(e x).data=true) (hO:OpN enc P W et e p sz) :
  Op1 enc P W t (fun l:List α=>.sl sz e l) (fun l=>(∀ x∈l,p x)∧l.length≤maxLen):=fun n c y h=>by
 rcases DataW.trod_slice ht h with ⟨hcs,_⟩ | ⟨a,len,cap,elems,rest,m,rfl,hcs,_,_,hlc,hcm,hel,hget,_⟩
 ·have hc:c=.slice none 0 0:=by simpa using hcs
  subst hc
  refine⟨[],⟨by simp,Nat.zero_le _⟩,?_,q_⟩
  simp only[Rd,RdD]
  exact .inl ⟨z_,none,0,q_⟩
 ·have hc:c=.slice (some a) len cap:=by simpa using hcs
  subst hc
  rw[hsz]at hget
  have hall:∀ i:Fin len,∃ x,p x∧∃ cs,W.cells? 0 (a.add (i * sz)) sz=some cs∧cs.length=sz∧Ones cs∧RdL κ0 W (cellsOf (e x)) cs:=fun i=>by
   have h1:=hget i.1 i.2
   rw[List.getElem?_eq_getElem j_]at h1
   obtain ⟨cs,h2,h3⟩:=Option.bind_eq_some_iff.1 h1
   obtain ⟨x,h4,h5,h6,h7⟩:=hO _ _ _ h3
   exact⟨x,h4,cs,h2,h5,h6,h7⟩
  let xs:Fin len→α:=fun i=>Classical.choose (hall i)
  have hxs:∀ i,p (xs i)∧∃ cs,W.cells? 0 (a.add (i.1 * sz)) sz=some cs∧cs.length=sz∧Ones cs∧RdL κ0 W (cellsOf (e (xs i))) cs:=fun i=>Classical.choose_spec (hall i)
  refine⟨List.ofFn xs,⟨fun x hx=>?_,by simp;omega⟩,?_,q_⟩
  ·obtain ⟨i,rfl⟩:=List.mem_ofFn.1 hx
   exact(hxs i).1
  ·simp only[Rd,RdD]
   by_cases hl:len=0
   ·subst hl
    exact .inl ⟨by simp,_,_,q_⟩
   ·have hcell:∀ i:Fin len,∀ j,j<sz→∃ v,W.cell? ((a.add (i.1 * sz)).add j)=some v:=fun i j hj=>by
     obtain ⟨_,cs,h1,h2,_⟩:=hxs i
     have:=(Sz h1).2 j hj
     rw[List.getElem?_eq_getElem j_]at this
     exact⟨_,this⟩
    obtain ⟨b,off,spot⟩:=a
    have hspot:spot=none:=by
     obtain ⟨v,hv⟩:=hcell ⟨0,by omega⟩ 0 h0
     simpa [Addr.add] using World.cell?_spot hv
    subst hspot
    have hadd:∀ i j,((⟨b,off,none⟩:Addr).add i).add j=⟨b,off+i+j,none⟩:=fun i j=>by rw[Addr.add_lit,Addr.add_lit]
    refine .inr ⟨b,off,cap,by simp,by simpa using hlc,?_,?_,fun i hi=>?_⟩
    ·rintro (⟨k,hk⟩ | hk)
     ·cases hk
     ·exact hk
    ·obtain ⟨v,hv⟩:=hcell ⟨0,by omega⟩ 0 h0
     rw[hadd]at hv
     rcases Nat.lt_or_ge b W.heap.size with h | h
     ·exact h
     ·simp[World.cell?,Array.getElem?_eq_none h]at hv
    ·simp only[List.length_ofFn]at hi
     obtain ⟨_,cs,h1,h2,h3,h4⟩:=hxs ⟨i,hi⟩
     obtain ⟨u,g1,g2⟩:=Rd.of_cells (hb _) h3 h4
     refine⟨u,?_,?_,by rw[g2];exact h3,fun j hj=>?_⟩
     ·rw[List.getElem_ofFn]
      exact Rd.data _ _ (hd _) g1
     ·have:u.cells.toList.length=sz:=by rw[g2,h2]
      simpa using this
     ·have:=(Sz h1).2 j hj
      rw[hadd]at this
      rw[this,← g2]
      simp
end
end Go.Sy
namespace Go.Sy.YtgblchnfjbkipaaGreatDoor
open Go.Proofs Go.ChangeShapes Go.WideShapes Go.ChangeAt Go.RowKit
set_option maxRecDepth 100000
section
variable {H:Type} {enc:TypeId × Value→H} {W:World}
def wI (k:IntKind) (z:Int):Prop:=(Lit.int k z).wf=true
theorem Tm:Op1 enc Tryz.prog W 25 (fun l:List Int=>.sl 1 (fun z=>.val (.int .i64 z)) l) (fun l=>(∀ z∈l,wI .i64 z)∧l.length≤maxLen) :=
 Oz Tryz.underlying25 (by kernel_rfl:Tryz.prog.cellsOf 3=1) qc (fun _=>rfl) (fun _=>rfl) (Yc Tryz.underlying3)
theorem Ab4:Op1 enc Tryz.prog W 26 (fun l:List Int=>.sl 1 (fun z=>.val (.int .u32 z)) l) (fun l=>(∀ z∈l,wI .u32 z)∧l.length≤maxLen) :=
 Oz Tryz.underlying26 (by kernel_rfl:Tryz.prog.cellsOf 24=1) qc (fun _=>rfl) (fun _=>rfl) (Yc Tryz.underlying24)
def Device.In (x:Device):Prop:=wI .i64 x.row∧wI .i64 x.prio∧x.name.size≤maxLen∧wI .u64 x.mac∧wI .u32 x.vtep
def Port.In (x:Port):Prop:=wI .i64 x.row∧wI .i64 x.dev∧wI .i64 x.native∧wI .i64 x.cost∧wI .i64 x.link∧x.name.size≤maxLen∧((∀ z∈x.tagged,wI .i64 z)∧x.tagged.length≤maxLen)
def Link.In (x:Link):Prop:=wI .i64 x.row∧wI .i64 x.a∧wI .i64 x.b
def Domain.In (x:Domain):Prop:=wI .i64 x.dev∧wI .i64 x.vlan∧wI .i64 x.vni∧wI .i64 x.irb∧wI .i64 x.row∧((∀ z∈x.peers,wI .i64 z)∧x.peers.length≤maxLen)
def Static.In (x:Static):Prop:=wI .i64 x.row∧wI .i64 x.domain∧wI .i64 x.port∧wI .u64 x.mac
def Flood.In (x:Flood):Prop:=wI .i64 x.row∧wI .i64 x.dev∧wI .i64 x.vni∧((∀ z∈x.addrs,wI .u32 z)∧x.addrs.length≤maxLen)
def Vrf.In (x:Vrf):Prop:=wI .i64 x.row∧wI .i64 x.dev∧x.name.size≤maxLen∧((∀ z∈x.imports,wI .i64 z)∧x.imports.length≤maxLen)∧((∀ z∈x.exports,wI .i64 z)∧x.exports.length≤maxLen)
def Irb.In (x:Irb):Prop:=wI .i64 x.row∧wI .i64 x.domain∧wI .i64 x.vrf∧wI .u32 x.addr∧wI .i64 x.bits
structure Net.In (n:Net):Prop where
 devices:(∀ x∈n.devices,Device.In x)∧n.devices.length≤maxLen
 ports:(∀ x∈n.ports,Port.In x)∧n.ports.length≤maxLen
 links:(∀ x∈n.links,Link.In x)∧n.links.length≤maxLen
 domains:(∀ x∈n.domains,Domain.In x)∧n.domains.length≤maxLen
 statics:(∀ x∈n.statics,Static.In x)∧n.statics.length≤maxLen
 floods:(∀ x∈n.floods,Flood.In x)∧n.floods.length≤maxLen
 vrfs:(∀ x∈n.vrfs,Vrf.In x)∧n.vrfs.length≤maxLen
 irbs:(∀ x∈n.irbs,Irb.In x)∧n.irbs.length≤maxLen
theorem Se {t:TypeId} {fs:Array Field} {α:Type} {e:α→SV} {p:α→Prop} {sz base:Nat} {v:Value} {d:DataW H} {ps:List MemPlace} (ht:Tryz.prog.underlying t=some (.struct fs)) (hO:OpN enc Tryz.prog W t e p sz) (he:∀ x,e x=.agg (cellsOf (e x)))
  (hval:Value.okWide Tryz.prog W .any base t v) (h1:DataW.Trod enc Tryz.prog W 0 (fun _=>true) true t v d ps):∃ x,p x∧Rd κ0 W (e x) v:=by
 obtain ⟨cs,rfl,_⟩:=okWide_struct ht hval
 obtain ⟨fuel,hf⟩:=h1
 obtain ⟨x,h1,_,h2,h3⟩:=hO _ _ _ hf
 refine⟨x,h1,?_⟩
 rw[he x]
 simp only[Rd]
 exact⟨cs.toList,by simp,by simpa [Value.cells] using h2,by simpa [Value.cells] using h3⟩
theorem Aai {t et:TypeId} {α:Type} {e:α→SV} {p:List α→Prop} {sz base:Nat} {v:Value} {d:DataW H} {ps:List MemPlace} (ht:Tryz.prog.underlying t=some (.slice et)) (hO:Op1 enc Tryz.prog W t (fun l:List α=>.sl sz e l) p)
  (hval:Value.okWide Tryz.prog W .any base t v) (h1:DataW.Trod enc Tryz.prog W 0 (fun _=>true) true t v d ps):∃ l,p l∧Rd κ0 W (.sl sz e l) v:=by
 obtain ⟨a,len,cap,rfl⟩:=okWide_slice ht hval
 obtain ⟨fuel,hf⟩:=h1
 obtain ⟨x,h1,h2,_⟩:=hO _ _ _ hf
 exact⟨x,h1,h2⟩
end
end Go.Sy.YtgblchnfjbkipaaGreatDoor
namespace Go.Sy.YtgblchnfjbkipaaGreatDoor
open Go.Proofs Go.ChangeShapes Go.WideShapes Go.ChangeAt Go.RowKit
set_option maxRecDepth 100000
section
variable {H:Type} {enc:TypeId × Value→H} {W:World}
def LineM.In (x:LineM):Prop:=wI .i64 x.row∧wI .i64 x.kind∧x.dev.size≤maxLen∧x.port.size≤maxLen∧x.peer.size≤maxLen∧x.far.size≤maxLen∧x.name.size≤maxLen∧wI .u64 x.mac∧wI .u32 x.addr∧wI .i64 x.bits∧wI .i64 x.vlan∧wI .i64 x.num∧wI .i64 x.cost∧((∀ z∈x.tagged,wI .i64 z)∧x.tagged.length≤maxLen)∧((∀ z∈x.imports,wI .i64 z)∧x.imports.length≤maxLen)∧((∀ z∈x.exports,wI .i64 z)∧x.exports.length≤maxLen)∧((∀ z∈x.addrs,wI .u32 z)∧x.addrs.length≤maxLen)
theorem Lp:OpN enc Tryz.prog W 28 Ab LineM.In 17:=fun n cs y h=>by
 obtain ⟨xs,m,_,_,hlen,hx,hg⟩:=DataW.trod_struct Tryz.underlying28 h
 have hlen:cs.length=17:=hlen.trans (by kernel_rfl:Tryz.prog.cellsOf 28=17)
 have hx:xs.length=17:=hx
 match cs,hlen with
 | [c0,c1,c2,c3,c4,c5,c6,c7,c8,c9,c10,c11,c12,c13,c14,c15,c16],_ =>
  have g0:DataW.trod enc Tryz.prog W 0 (fun _=>true) true m 3 (([c0,c1,c2,c3,c4,c5,c6,c7,c8,c9,c10,c11,c12,c13,c14,c15,c16].drop 0).take (Tryz.prog.cellsOf 3))=xs[0]?:=hg 0 _ rfl
  rw[(by kernel_rfl:Tryz.prog.cellsOf 3=1),List.getElem?_eq_getElem j_]at g0
  obtain ⟨z0,p0,r0,o0⟩:=Id Tryz.underlying3 _ _ _ g0
  have g1:DataW.trod enc Tryz.prog W 0 (fun _=>true) true m 3 (([c0,c1,c2,c3,c4,c5,c6,c7,c8,c9,c10,c11,c12,c13,c14,c15,c16].drop 1).take (Tryz.prog.cellsOf 3))=xs[1]?:=hg 1 _ rfl
  rw[(by kernel_rfl:Tryz.prog.cellsOf 3=1),List.getElem?_eq_getElem j_]at g1
  obtain ⟨z1,p1,r1,o1⟩:=Id Tryz.underlying3 _ _ _ g1
  have g2:DataW.trod enc Tryz.prog W 0 (fun _=>true) true m 9 (([c0,c1,c2,c3,c4,c5,c6,c7,c8,c9,c10,c11,c12,c13,c14,c15,c16].drop 2).take (Tryz.prog.cellsOf 9))=xs[2]?:=hg 2 _ rfl
  rw[(by kernel_rfl:Tryz.prog.cellsOf 9=1),List.getElem?_eq_getElem j_]at g2
  obtain ⟨z2,p2,r2,o2⟩:=Oy Tryz.underlying9 _ _ _ g2
  have g3:DataW.trod enc Tryz.prog W 0 (fun _=>true) true m 9 (([c0,c1,c2,c3,c4,c5,c6,c7,c8,c9,c10,c11,c12,c13,c14,c15,c16].drop 3).take (Tryz.prog.cellsOf 9))=xs[3]?:=hg 3 _ rfl
  rw[(by kernel_rfl:Tryz.prog.cellsOf 9=1),List.getElem?_eq_getElem j_]at g3
  obtain ⟨z3,p3,r3,o3⟩:=Oy Tryz.underlying9 _ _ _ g3
  have g4:DataW.trod enc Tryz.prog W 0 (fun _=>true) true m 9 (([c0,c1,c2,c3,c4,c5,c6,c7,c8,c9,c10,c11,c12,c13,c14,c15,c16].drop 4).take (Tryz.prog.cellsOf 9))=xs[4]?:=hg 4 _ rfl
  rw[(by kernel_rfl:Tryz.prog.cellsOf 9=1),List.getElem?_eq_getElem j_]at g4
  obtain ⟨z4,p4,r4,o4⟩:=Oy Tryz.underlying9 _ _ _ g4
  have g5:DataW.trod enc Tryz.prog W 0 (fun _=>true) true m 9 (([c0,c1,c2,c3,c4,c5,c6,c7,c8,c9,c10,c11,c12,c13,c14,c15,c16].drop 5).take (Tryz.prog.cellsOf 9))=xs[5]?:=hg 5 _ rfl
  rw[(by kernel_rfl:Tryz.prog.cellsOf 9=1),List.getElem?_eq_getElem j_]at g5
  obtain ⟨z5,p5,r5,o5⟩:=Oy Tryz.underlying9 _ _ _ g5
  have g6:DataW.trod enc Tryz.prog W 0 (fun _=>true) true m 9 (([c0,c1,c2,c3,c4,c5,c6,c7,c8,c9,c10,c11,c12,c13,c14,c15,c16].drop 6).take (Tryz.prog.cellsOf 9))=xs[6]?:=hg 6 _ rfl
  rw[(by kernel_rfl:Tryz.prog.cellsOf 9=1),List.getElem?_eq_getElem j_]at g6
  obtain ⟨z6,p6,r6,o6⟩:=Oy Tryz.underlying9 _ _ _ g6
  have g7:DataW.trod enc Tryz.prog W 0 (fun _=>true) true m 23 (([c0,c1,c2,c3,c4,c5,c6,c7,c8,c9,c10,c11,c12,c13,c14,c15,c16].drop 7).take (Tryz.prog.cellsOf 23))=xs[7]?:=hg 7 _ rfl
  rw[(by kernel_rfl:Tryz.prog.cellsOf 23=1),List.getElem?_eq_getElem j_]at g7
  obtain ⟨z7,p7,r7,o7⟩:=Id Tryz.underlying23 _ _ _ g7
  have g8:DataW.trod enc Tryz.prog W 0 (fun _=>true) true m 24 (([c0,c1,c2,c3,c4,c5,c6,c7,c8,c9,c10,c11,c12,c13,c14,c15,c16].drop 8).take (Tryz.prog.cellsOf 24))=xs[8]?:=hg 8 _ rfl
  rw[(by kernel_rfl:Tryz.prog.cellsOf 24=1),List.getElem?_eq_getElem j_]at g8
  obtain ⟨z8,p8,r8,o8⟩:=Id Tryz.underlying24 _ _ _ g8
  have g9:DataW.trod enc Tryz.prog W 0 (fun _=>true) true m 3 (([c0,c1,c2,c3,c4,c5,c6,c7,c8,c9,c10,c11,c12,c13,c14,c15,c16].drop 9).take (Tryz.prog.cellsOf 3))=xs[9]?:=hg 9 _ rfl
  rw[(by kernel_rfl:Tryz.prog.cellsOf 3=1),List.getElem?_eq_getElem j_]at g9
  obtain ⟨z9,p9,r9,o9⟩:=Id Tryz.underlying3 _ _ _ g9
  have g10:DataW.trod enc Tryz.prog W 0 (fun _=>true) true m 3 (([c0,c1,c2,c3,c4,c5,c6,c7,c8,c9,c10,c11,c12,c13,c14,c15,c16].drop 10).take (Tryz.prog.cellsOf 3))=xs[10]?:=hg 10 _ rfl
  rw[(by kernel_rfl:Tryz.prog.cellsOf 3=1),List.getElem?_eq_getElem j_]at g10
  obtain ⟨z10,p10,r10,o10⟩:=Id Tryz.underlying3 _ _ _ g10
  have g11:DataW.trod enc Tryz.prog W 0 (fun _=>true) true m 3 (([c0,c1,c2,c3,c4,c5,c6,c7,c8,c9,c10,c11,c12,c13,c14,c15,c16].drop 11).take (Tryz.prog.cellsOf 3))=xs[11]?:=hg 11 _ rfl
  rw[(by kernel_rfl:Tryz.prog.cellsOf 3=1),List.getElem?_eq_getElem j_]at g11
  obtain ⟨z11,p11,r11,o11⟩:=Id Tryz.underlying3 _ _ _ g11
  have g12:DataW.trod enc Tryz.prog W 0 (fun _=>true) true m 3 (([c0,c1,c2,c3,c4,c5,c6,c7,c8,c9,c10,c11,c12,c13,c14,c15,c16].drop 12).take (Tryz.prog.cellsOf 3))=xs[12]?:=hg 12 _ rfl
  rw[(by kernel_rfl:Tryz.prog.cellsOf 3=1),List.getElem?_eq_getElem j_]at g12
  obtain ⟨z12,p12,r12,o12⟩:=Id Tryz.underlying3 _ _ _ g12
  have g13:DataW.trod enc Tryz.prog W 0 (fun _=>true) true m 25 (([c0,c1,c2,c3,c4,c5,c6,c7,c8,c9,c10,c11,c12,c13,c14,c15,c16].drop 13).take (Tryz.prog.cellsOf 25))=xs[13]?:=hg 13 _ rfl
  rw[(by kernel_rfl:Tryz.prog.cellsOf 25=1),List.getElem?_eq_getElem j_]at g13
  obtain ⟨z13,p13,r13,o13⟩:=Tm _ _ _ g13
  have g14:DataW.trod enc Tryz.prog W 0 (fun _=>true) true m 25 (([c0,c1,c2,c3,c4,c5,c6,c7,c8,c9,c10,c11,c12,c13,c14,c15,c16].drop 14).take (Tryz.prog.cellsOf 25))=xs[14]?:=hg 14 _ rfl
  rw[(by kernel_rfl:Tryz.prog.cellsOf 25=1),List.getElem?_eq_getElem j_]at g14
  obtain ⟨z14,p14,r14,o14⟩:=Tm _ _ _ g14
  have g15:DataW.trod enc Tryz.prog W 0 (fun _=>true) true m 25 (([c0,c1,c2,c3,c4,c5,c6,c7,c8,c9,c10,c11,c12,c13,c14,c15,c16].drop 15).take (Tryz.prog.cellsOf 25))=xs[15]?:=hg 15 _ rfl
  rw[(by kernel_rfl:Tryz.prog.cellsOf 25=1),List.getElem?_eq_getElem j_]at g15
  obtain ⟨z15,p15,r15,o15⟩:=Tm _ _ _ g15
  have g16:DataW.trod enc Tryz.prog W 0 (fun _=>true) true m 26 (([c0,c1,c2,c3,c4,c5,c6,c7,c8,c9,c10,c11,c12,c13,c14,c15,c16].drop 16).take (Tryz.prog.cellsOf 26))=xs[16]?:=hg 16 _ rfl
  rw[(by kernel_rfl:Tryz.prog.cellsOf 26=1),List.getElem?_eq_getElem j_]at g16
  obtain ⟨z16,p16,r16,o16⟩:=Ab4 _ _ _ g16
  refine⟨⟨z0,z1,z2,z3,z4,z5,z6,z7,z8,z9,z10,z11,z12,z13,z14,z15,z16⟩,⟨p0,p1,p2,p3,p4,p5,p6,p7,p8,p9,p10,p11,p12,p13,p14,p15,p16⟩,q_,fun c hc=>?_,?_⟩
  ·simp only[List.mem_cons,List.not_mem_nil,or_false]at hc
   rcases hc with rfl | rfl | rfl | rfl | rfl | rfl | rfl | rfl | rfl | rfl | rfl | rfl | rfl | rfl | rfl | rfl | rfl<;>assumption
  ·simp only[Ab,cellsOf,RdL]
   exact⟨_,_,q_,r0,_,_,q_,r1,_,_,q_,r2,_,_,q_,r3,_,_,q_,r4,_,_,q_,r5,_,_,q_,r6,_,_,q_,r7,_,_,q_,r8,_,_,q_,r9,_,_,q_,r10,_,_,q_,r11,_,_,q_,r12,_,_,q_,r13,_,_,q_,r14,_,_,q_,r15,_,_,q_,r16,q_⟩
theorem Aaq:Op1 enc Tryz.prog W 22 (fun l:List LineM=>.sl 17 Ab l) (fun l=>(∀ x∈l,LineM.In x)∧l.length≤maxLen) :=
 Oz Tryz.underlying22 (by kernel_rfl:Tryz.prog.cellsOf 28=17) qc (fun _=>rfl) (fun _=>rfl) Lp
end
end Go.Sy.YtgblchnfjbkipaaGreatDoor
namespace Go.Sy.YtgblchnfjbkipaaGreatDoor
open Go.Proofs
theorem Tt {l:LineM} (h:LineM.In l):LineOK l:=by
 obtain ⟨_,_,_,_,_,_,_,h8,h9,_,_,_,_,_,_,_,h17⟩:=h
 refine⟨?_,?_,fun x hx=>?_⟩
 ·simp only[wI,Lit.wf,decide_eq_true_eq,Bool.and_eq_true]at h8
  exact⟨h8.1,Int.lt_of_le_of_lt h8.2 qc⟩
 ·simp only[wI,Lit.wf,decide_eq_true_eq,Bool.and_eq_true]at h9
  exact⟨h9.1,Int.lt_of_le_of_lt h9.2 qc⟩
 ·have h1:=h17.1 x hx
  simp only[wI,Lit.wf,decide_eq_true_eq,Bool.and_eq_true]at h1
  exact⟨h1.1,Int.lt_of_le_of_lt h1.2 qc⟩
end Go.Sy.YtgblchnfjbkipaaGreatDoor
namespace Go.Proofs.YtgblchnfjbkipaaGreatDoor
open Go.ChangeShapes Go.WideShapes Go.ChangeAt Go.RowKit
set_option maxRecDepth 100000
theorem J0:Tryz.checked.prog.inPlace 3=Rows.orderSortsRow.inPlace:=by kernel_rfl
theorem H2:Tryz.checked.prog.unfollowed 3=Rows.orderSortsRow.unfollowed:=by kernel_rfl
theorem Ja:Tryz.checked.prog.recurses 3=Rows.orderSortsRow.recurses:=by kernel_rfl
theorem Lk:Tryz.checked.prog.varsNamed 3=Rows.orderSortsRow.named:=by kernel_rfl
theorem M0:Tryz.checked.prog.liftsFinal=Rows.orderSortsRow.lifted:=by kernel_rfl
theorem Jz:laidOutB Tryz.checked.prog=true:=by kernel_rfl
theorem Lo:Tryz.checked.prog.mayEnter=true:=by kernel_rfl
theorem Lm:Tryz.checked.prog.stopsHeard=true:=by kernel_rfl
theorem Ln:joinedFacts Tryz.checked.prog 3 Tryz.f3 Rows.orderSortsSpec Rows.orderSortsRow=true:=by
 unfold joinedFacts
 rw[J0,H2,Ja,Lk,M0,Jz,Lo,Lm]
 kernel_rfl
theorem Qu:Rows.orderSortsRow.wfByText (OpenSpec.ofChange Rows.orderSortsSpec)=true:=by kernel_rfl
theorem Mz : Tryz.pinned.checked.prog.mainIs = some (true, "3f6af94f8c32c5bce5a1ab8a14a0f655bb578ff8d5124cf5898aee3e9cdf08b6".toList) := by kernel_rfl
theorem orderSorts_fnamed : Tryz.prog.funcNamed "paling/palinglaw49.OrderSorts" = some 3 := by kernel_rfl
theorem Ll:false=Tryz.pinned.checked.prog.looks []:=by kernel_rfl
theorem Jy:([22,28,28].all fun u=>!Tryz.prog.wantsStandIn u)=true:=by kernel_rfl
theorem M1:false=Rows.orderSortsRow.goesBy Tryz.pinned.checked.prog:=by kernel_rfl
end Go.Proofs.YtgblchnfjbkipaaGreatDoor
