/- Parts of a proof. -/
import Derived.Test.YtolnneiipmfgaaaGreatDoorYC7
set_option linter.all false
set_option linter.unusedVariables false
set_option linter.unusedSimpArgs false
set_option linter.deprecated false
namespace Go.Sy.YtolnneiipmfgaaaGreatDoor
open Go.Proofs Go.Proofs.Tryz
attribute [local irreducible] Go.Sy.G Go.Sy.DR
set_option maxRecDepth 100000
set_option maxHeartbeats 4000000
def L5(e:Int)(l:List (Bool×Int)):Int:=l.foldl (λe x=>At e x.1 x.2) e
def Adx:∀(l:List (Bool×Int)) (e:Int),(∀x∈l,x.2≠0)→L5 e l=if e=0 then Bt l else e
 |[],e,_=>by
  show e=_;split
  ·rename_i h;rw[h];rfl
  ·rfl
 |(b,c)::l,e,h=>by
  have hc:=h (b,c) y_;have ih:=Adx l (At e b c) (λx hx=>h x (by simp[hx]));show L5 (At e b c) l=_;rw[ih,Bt];dsimp only at hc;by_cases he:e=0
  ·subst he;cases b with
   |true=>simp[At,hc]
   |false=>simp[At]
  ·have:At e b c=e:=by rw[At,zD (λx=>he x.2)]
   rw[this,zD he,zD he]
def D1(l:List (Bool×Int))(h:∀x∈l,x.2≠0):Bt l=L5 0 l:=by rw[Adx l 0 h,zE rfl]
def W6(e:Int)(a b:List (Bool×Int)):L5 e (a++b)=L5 (L5 e a) b:=xN
abbrev rlO(w:List ByteArray)(i:Nat)(e:Int)(l:LineM):Obs:=[(0,.box [.sl 1 Ap w,Aa i,Aa e]),(1,.box (Ci l))]
def A20(w:List ByteArray):Nat:=if wdT w 4=Hy then 6 else if wdT w 4=Hi then 7 else 5
def Adl(bf:Int)(s:ByteArray):(listR bf s).1.length≤16:=by
 rw[listR];split
 ·simp
 ·rw[Ig];cases h:I5 (λp=>numR p 1 bf) [] (C2 44 s) with
  |mk l b=>
   cases b with
   |true=>exact(Sh _ _ _ _ h List.Pairwise.nil j_).2.1
   |false=>
    have:∀(ps:List ByteArray) (out r:List Int),I5 (λp=>numR p 1 bf) out ps=(r,false)→r=[]:=by
     intro ps
     induction ps with
     |nil=>intro out r h;rw[I5]at h;simp at h
     |cons p ps ih=>
      intro out r h;rw[I5]at h;split at h
      ·simp at h;exact h
      ·exact ih _ _ h
    rw[this _ _ _ h];simp
set_option maxRecDepth 100000 in
def A6l(w:List ByteArray)(e:Int)(l:LineM)(hw:w.length≤1000000)(hs:∀s∈w,s.size≤40)(h4:4<w.length)(ha:wdT w 4=Hy→5<w.length)(htr:wdT w 4=Hi→6<w.length)(w7:l.vlan=0∧l.tagged=[]):Sq 91 [.ptr 0 0,.ptr 1 0] (rlO w 4 e l) (.tup []) (rlO w (A20 w) (L5 e ((Em w).2.2++[(!(membersB (Em w).1 (Em w).2.1),21)])) {l with vlan:=(Em w).1,tagged:=(Em w).2.1}):=cT F91 ntmps91 λF hF=>by
 obtain ⟨row,kind,dev,port,peer,far,name,mac,addr,bits,vlan,num,cost,tagged,imports,exports,addrs⟩:=l;obtain ⟨g1,g2⟩:=w7;dsimp only at g1 g2;subst g1 g2;have q0:Sq 93 [.ptr 0 0] (rdO w 4 e) (Ap (wdT w 4)) (rdO w 5 e):=Qf w 4 e h4 hw;rw[A20,Em,W6];by_cases c1:wdT w 4=Hy
 ·have b1:(wdT w 4==(⟨#[97,99,99,101,115,115]⟩:ByteArray))=true:=Hx c1;have q1:=Zx w 5 e (ha c1) hw;rw[zE c1,zE c1];have q2:=Kk ⟨row,kind,dev,port,peer,far,name,mac,addr,bits,(C3 (wdT w 5)).1,num,cost,[],imports,exports,addrs⟩ (by simp[Am]);dsimp only at q2⊢;have w4:L5 e [(!(C3 (wdT w 5)).2,21)]=At e (!(C3 (wdT w 5)).2) 21:=rfl;rw[w4];have q3:=λb=>Js w 6 (At e (!(C3 (wdT w 5)).2) 21) b 21
  generalize At e (!(C3 (wdT w 5)).2) 21=e1 at *;generalize (C3 (wdT w 5)).1=v at *;have pw:L5 e1 [(!(membersB v []),21)]=At e1 (!(membersB v [])) 21:=rfl;rw[pw];have q3:=q3 (!(membersB v []));generalize At e1 (!(membersB v [])) 21=e2 at *;generalize membersB v []=mb at *;refine T ?_;refine X (Ad [] E F93 q0 E W E V) ?_;refine X (Ad [] E F87 q1 E W E V) ?_;refine C q2 F158 ?_;refine X (Ad [] E F90 q3 E W E V) ?_;exact A4 E .nil [] (rlO w 6 e2 ⟨row,kind,dev,port,peer,far,name,mac,addr,bits,v,num,cost,[],imports,exports,addrs⟩) (λ_ h=>h) E E U
 ·have b1:(wdT w 4==(⟨#[97,99,99,101,115,115]⟩:ByteArray))=false:=Jd c1;rw[zD c1,zD c1];by_cases c2:wdT w 4=Hi
  ·have b2:(wdT w 4==(⟨#[116,114,117,110,107]⟩:ByteArray))=true:=Hx c2;have h6:=htr c2;have h5:((5:Nat):Int).toNat<w.length:=by show 5<w.length;omega
   have e5:w[((5:Nat):Int).toNat]'h5=wdT w 5:=(Dm q_).symm;rw[zE c2,zE c2];by_cases c3:wdT w 5=A7r
   ·have b3:(w[((5:Nat):Int).toNat]'h5==(⟨#[45]⟩:ByteArray))=true:=Hx (by rw[e5];exact c3);rw[zE c3];have q1:=Aeu w 6 e 4094 h6 hw hs;have q2:=Kk ⟨row,kind,dev,port,peer,far,name,mac,addr,bits,0,num,cost,(listR 4094 (wdT w 6)).1,imports,exports,addrs⟩ (by have:=Adl 4094 (wdT w 6);simp only[Am];omega);dsimp only at q2⊢;have w4:L5 e [(!(listR 4094 (wdT w 6)).2,21)]=At e (!(listR 4094 (wdT w 6)).2) 21:=rfl;rw[w4];have q3:=λb=>Js w 7 (At e (!(listR 4094 (wdT w 6)).2) 21) b 21
    generalize At e (!(listR 4094 (wdT w 6)).2) 21=e1 at *;generalize (listR 4094 (wdT w 6)).1=v at *;have pw:L5 e1 [(!(membersB 0 v),21)]=At e1 (!(membersB 0 v)) 21:=rfl;rw[pw];have q3:=q3 (!(membersB 0 v));generalize At e1 (!(membersB 0 v)) 21=e2 at *;generalize membersB 0 v=mb at *;refine T ?_;refine X (Ad [] E F93 q0 E W E V) ?_;refine X (Ad [] E F96 q1 E W E V) ?_;refine C q2 F158 ?_;refine X (Ad [] E F90 q3 E W E V) ?_;exact A4 E .nil [] (rlO w 7 e2 ⟨row,kind,dev,port,peer,far,name,mac,addr,bits,0,num,cost,v,imports,exports,addrs⟩) (λ_ h=>h) E E U
   ·have b3:(w[((5:Nat):Int).toNat]'h5==(⟨#[45]⟩:ByteArray))=false:=Jd (by rw[e5];exact c3);rw[zD c3];have q4:=Zx w 5 e q_ hw;have w4:L5 e [(!(C3 (wdT w 5)).2,21),(!(listR 4094 (wdT w 6)).2,21)]=At (At e (!(C3 (wdT w 5)).2) 21) (!(listR 4094 (wdT w 6)).2) 21:=rfl;dsimp only;rw[w4];generalize At e (!(C3 (wdT w 5)).2) 21=e0 at *;have q1:=Aeu w 6 e0 4094 h6 hw hs;have q2:=Kk ⟨row,kind,dev,port,peer,far,name,mac,addr,bits,(C3 (wdT w 5)).1,num,cost,(listR 4094 (wdT w 6)).1,imports,exports,addrs⟩ (by have:=Adl 4094 (wdT w 6);simp only[Am];omega);dsimp only at q2;have q3:=λb=>Js w 7 (At e0 (!(listR 4094 (wdT w 6)).2) 21) b 21
    generalize At e0 (!(listR 4094 (wdT w 6)).2) 21=e1 at *;generalize (listR 4094 (wdT w 6)).1=v at *;generalize (C3 (wdT w 5)).1=u at *;have pw:L5 e1 [(!(membersB u v),21)]=At e1 (!(membersB u v)) 21:=rfl;rw[pw];have q3:=q3 (!(membersB u v));generalize At e1 (!(membersB u v)) 21=e2 at *;generalize membersB u v=mb at *;refine T ?_;refine X (Ad [] E F93 q0 E W E V) ?_;refine X (Ad [] E F87 q4 E W E V) ?_;refine X (Ad [] E F96 q1 E W E V) ?_;refine C q2 F158 ?_;refine X (Ad [] E F90 q3 E W E V) ?_;exact A4 E .nil [] (rlO w 7 e2 ⟨row,kind,dev,port,peer,far,name,mac,addr,bits,u,num,cost,v,imports,exports,addrs⟩) (λ_ h=>h) E E U
  ·have b2:(wdT w 4==(⟨#[116,114,117,110,107]⟩:ByteArray))=false:=Jd c2;rw[zD c2,zD c2];have q2:=Kk ⟨row,kind,dev,port,peer,far,name,mac,addr,bits,0,num,cost,[],imports,exports,addrs⟩ (by simp[Am]);dsimp only at q2⊢;have pw:L5 (L5 e []) [(!(membersB 0 []),21)]=At e (!(membersB 0 [])) 21:=rfl;rw[pw];have q3:=Js w 5 e (!(membersB 0 [])) 21;generalize At e (!(membersB 0 [])) 21=e2 at *;generalize membersB 0 []=mb at *;refine T ?_;refine X (Ad [] E F93 q0 E W E V) ?_;refine C q2 F158 ?_;refine X (Ad [] E F90 q3 E W E V) ?_;exact A4 E .nil [] (rlO w 5 e2 ⟨row,kind,dev,port,peer,far,name,mac,addr,bits,0,num,cost,[],imports,exports,addrs⟩) (λ_ h=>h) E E U
def Ado(s:ByteArray):0≤kindL s∧kindL s≤9:=by
 rw[kindL]
 repeat' split
 all_goals decide
def Ji{k:Int}{w:List ByteArray}(h:manyB k w=true):(k=1∨k=6∨k=7→w.length=4)∧(k=3∨k=4∨k=8∨k=9→w.length=5)∧(k=5→w.length=3)∧(k=2→6≤w.length∧w.length≤7∧(wdT w 4=Hi→w.length=7))∧k≠0:=by
 rw[manyB]at h;by_cases h0:k=0
 ·rw[zE h0]at h;cases h
 rw[zD h0]at h;by_cases h2:k=2
 ·rw[zE h2]at h;by_cases h6:w.length<6
  ·rw[zE h6]at h;cases h
  rw[zD h6]at h;refine⟨λx=>by omega,λx=>by omega,λx=>by omega,λ_=>?_,h0⟩;by_cases ca:wdT w 4=Hy
  ·rw[zE ca]at h;have:=zO h;refine⟨by omega,by omega,λx=>?_⟩;rw[ca]at x;exact yB x Ald
  ·rw[zD ca]at h;by_cases sa:wdT w 4=Hi
   ·rw[zE sa]at h;have:=zO h;exact⟨by omega,by omega,λ_=>this⟩
   ·rw[zD sa]at h;have:=zO h;exact⟨by omega,by omega,λx=>yB x sa⟩
 rw[zD h2]at h;by_cases h3:k=3∨k=4∨k=8∨k=9
 ·rw[zE h3]at h;have:=zO h;exact⟨λx=>by omega,λ_=>this,λx=>by omega,λx=>by omega,h0⟩
 rw[zD h3]at h;by_cases h5:k=5
 ·rw[zE h5]at h;have:=zO h;exact⟨λx=>by omega,λx=>by omega,λ_=>this,λx=>by omega,h0⟩
 rw[zD h5]at h;have:=zO h;exact⟨λ_=>this,λx=>by omega,λx=>by omega,λx=>yB x h2,h0⟩
def Ass(w:List ByteArray)(row:Int)(hw:w.length≤1000000)(hs:∀s∈w,s.size≤40)(af:0<w.length)(hk:kindL (wdT w 0)=1)(bw:manyB 1 w=true):Sp 34 [.sl 1 Ap w,Aa row] (.tup [A3 (Cp w row).1,Aa (Cp w row).2]):=cT F34 ntmps34 λF hF=>by
 have eh:(0:Int).toNat<w.length:=af;have f0:((w.length:Int)==0)=false:=by rw[zR];omega
 have iz:w[(0:Int).toNat]'eh=wdT w 0:=(Dm af).symm;have qk:Sp 85 [Ap (w[(0:Int).toNat]'eh)] (Aa 1):=by
  have:=Ia (wdT w 0);rw[hk]at this;rw[iz];exact this
 have qm:=H9 1 j_ w hw;rw[bw]at qm;have il:=Ji bw;have dh:Cp w row=if Bt (B9 w row).2≠0 then (lineZ,Bt (B9 w row).2) else ((B9 w row).1,0):=by
  rw[Cp,zD];rintro (hh|hh)
  ·rw[hh]at af;simp at af
  ·rw[hk,bw]at hh;cases hh
 have cu:=D1 _ (El w row);have hl:w.length=4:=il.1 j_;have q1:=Hf w 1 (0:Int) q_ hw hs;obtain ⟨e1,fg⟩:∃e,At (0:Int) (!(A1 (wdT w 1))) 20=e:=⟨_,rfl⟩
 rw[fg]at q1;have q2:=Wq w 2 e1 0 65535 q_ hw;obtain ⟨e2,dq⟩:∃e,At e1 (!(numR (wdT w 2) 0 65535).2) 21=e:=⟨_,rfl⟩
 rw[dq]at q2;have q3:=A2u w 3 e2 q_ hw hs;obtain ⟨e3,gz⟩:∃e,At e2 (macE (wdT w 3)) 21=e:=⟨_,rfl⟩
 rw[gz]at q3;have hR:B9 w row=({lineZ with row:=row,kind:=1,dev:=wdT w 1,num:=(numR (wdT w 2) 0 65535).1,mac:=(macR (wdT w 3)).1},[((!(A1 (wdT w 1))),20),((!(numR (wdT w 2) 0 65535).2),21),((macE (wdT w 3)),21)]):=by
  unfold B9;simp only[hk];rfl
 rw[hR]at dh cu;have cu:Bt _=e3:=cu.trans (by
  show At (At (At ((0:Int)) (!(A1 (wdT w 1))) 20) (!(numR (wdT w 2) 0 65535).2) 21) (macE (wdT w 3)) 21=_;rw[fg,dq,gz])
 rw[cu]at dh;rw[dh];generalize e3=eN at *;refine gA qk F85 qm F84 ?_;refine C qk F85 ?_;refine Al 9 (Ci {lineZ with row:=row,kind:=1}) rfl vL ?_;refine T ?_;refine X (Au [(0,31)] (Av E E F86) q1 E W E V) ?_;refine X (Ad [(0,31)] E F88 q2 E W E V) ?_;refine X (Ad [(0,31)] E F89 q3 E W E V) ?_;cases hz:(eN != 0)
 ·have bu:eN=0:=by simpa using hz
  rw[zD (by rw[bu];simp)];exact gB
 ·have bu:eN≠0:=by simpa using hz
  rw[zE bu];refine T ?_;refine Al 4 (Ci lineZ) E vL ?_;exact gB
def Asq(w:List ByteArray)(row:Int)(hw:w.length≤1000000)(hs:∀s∈w,s.size≤40)(af:0<w.length)(hk:kindL (wdT w 0)=3)(bw:manyB 3 w=true):Sp 34 [.sl 1 Ap w,Aa row] (.tup [A3 (Cp w row).1,Aa (Cp w row).2]):=cT F34 ntmps34 λF hF=>by
 have eh:(0:Int).toNat<w.length:=af;have f0:((w.length:Int)==0)=false:=by rw[zR];omega
 have iz:w[(0:Int).toNat]'eh=wdT w 0:=(Dm af).symm;have qk:Sp 85 [Ap (w[(0:Int).toNat]'eh)] (Aa 3):=by
  have:=Ia (wdT w 0);rw[hk]at this;rw[iz];exact this
 have qm:=H9 3 j_ w hw;rw[bw]at qm;have il:=Ji bw;have dh:Cp w row=if Bt (B9 w row).2≠0 then (lineZ,Bt (B9 w row).2) else ((B9 w row).1,0):=by
  rw[Cp,zD];rintro (hh|hh)
  ·rw[hh]at af;simp at af
  ·rw[hk,bw]at hh;cases hh
 have cu:=D1 _ (El w row);have hl:w.length=5:=il.2.1 j_;have q1:=Hf w 1 (0:Int) q_ hw hs;obtain ⟨e1,fg⟩:∃e,At (0:Int) (!(A1 (wdT w 1))) 20=e:=⟨_,rfl⟩
 rw[fg]at q1;have q2:=Hf w 2 e1 q_ hw hs;obtain ⟨e2,dq⟩:∃e,At e1 (!(A1 (wdT w 2))) 20=e:=⟨_,rfl⟩
 rw[dq]at q2;have q3:=Hf w 3 e2 q_ hw hs;obtain ⟨e3,gz⟩:∃e,At e2 (!(A1 (wdT w 3))) 20=e:=⟨_,rfl⟩
 rw[gz]at q3;have q4:=Hf w 4 e3 q_ hw hs;obtain ⟨e4,ln⟩:∃e,At e3 (!(A1 (wdT w 4))) 20=e:=⟨_,rfl⟩
 rw[ln]at q4;have hR:B9 w row=({lineZ with row:=row,kind:=3,dev:=wdT w 1,port:=wdT w 2,peer:=wdT w 3,far:=wdT w 4},[((!(A1 (wdT w 1))),20),((!(A1 (wdT w 2))),20),((!(A1 (wdT w 3))),20),((!(A1 (wdT w 4))),20)]):=by
  unfold B9;simp only[hk];rfl
 rw[hR]at dh cu;have cu:Bt _=e4:=cu.trans (by
  show At (At (At (At ((0:Int)) (!(A1 (wdT w 1))) 20) (!(A1 (wdT w 2))) 20) (!(A1 (wdT w 3))) 20) (!(A1 (wdT w 4))) 20=_;rw[fg,dq,gz,ln])
 rw[cu]at dh;rw[dh];generalize e4=eN at *;refine gA qk F85 qm F84 ?_;refine C qk F85 ?_;refine Al 9 (Ci {lineZ with row:=row,kind:=3}) rfl vL ?_;refine T ?_;refine X (Au [(0,31)] (Av E E F86) q1 E W E V) ?_;refine X (Au [(0,31)] (Av E E F86) q2 E W E V) ?_;refine X (Au [(0,31)] (Av E E F86) q3 E W E V) ?_;refine X (Au [(0,31)] (Av E E F86) q4 E W E V) ?_;cases hz:(eN != 0)
 ·have bu:eN=0:=by simpa using hz
  rw[zD (by rw[bu];simp)];exact gB
 ·have bu:eN≠0:=by simpa using hz
  rw[zE bu];refine T ?_;refine Al 4 (Ci lineZ) E vL ?_;exact gB
def Asp(w:List ByteArray)(row:Int)(hw:w.length≤1000000)(hs:∀s∈w,s.size≤40)(af:0<w.length)(hk:kindL (wdT w 0)=4)(bw:manyB 4 w=true):Sp 34 [.sl 1 Ap w,Aa row] (.tup [A3 (Cp w row).1,Aa (Cp w row).2]):=cT F34 ntmps34 λF hF=>by
 have eh:(0:Int).toNat<w.length:=af;have f0:((w.length:Int)==0)=false:=by rw[zR];omega
 have iz:w[(0:Int).toNat]'eh=wdT w 0:=(Dm af).symm;have qk:Sp 85 [Ap (w[(0:Int).toNat]'eh)] (Aa 4):=by
  have:=Ia (wdT w 0);rw[hk]at this;rw[iz];exact this
 have qm:=H9 4 j_ w hw;rw[bw]at qm;have il:=Ji bw;have dh:Cp w row=if Bt (B9 w row).2≠0 then (lineZ,Bt (B9 w row).2) else ((B9 w row).1,0):=by
  rw[Cp,zD];rintro (hh|hh)
  ·rw[hh]at af;simp at af
  ·rw[hk,bw]at hh;cases hh
 have cu:=D1 _ (El w row);have hl:w.length=5:=il.2.1 j_;have q1:=Hf w 1 (0:Int) q_ hw hs;obtain ⟨e1,fg⟩:∃e,At (0:Int) (!(A1 (wdT w 1))) 20=e:=⟨_,rfl⟩
 rw[fg]at q1;have q2:=Zx w 2 e1 q_ hw;obtain ⟨e2,dq⟩:∃e,At e1 (!(C3 (wdT w 2)).2) 21=e:=⟨_,rfl⟩
 rw[dq]at q2;have q3:=A2u w 3 e2 q_ hw hs;obtain ⟨e3,gz⟩:∃e,At e2 (macE (wdT w 3)) 21=e:=⟨_,rfl⟩
 rw[gz]at q3;have q4:=Hf w 4 e3 q_ hw hs;obtain ⟨e4,ln⟩:∃e,At e3 (!(A1 (wdT w 4))) 20=e:=⟨_,rfl⟩
 rw[ln]at q4;have hR:B9 w row=({lineZ with row:=row,kind:=4,dev:=wdT w 1,vlan:=(C3 (wdT w 2)).1,mac:=(macR (wdT w 3)).1,port:=wdT w 4},[((!(A1 (wdT w 1))),20),((!(C3 (wdT w 2)).2),21),((macE (wdT w 3)),21),((!(A1 (wdT w 4))),20)]):=by
  unfold B9;simp only[hk];rfl
 rw[hR]at dh cu;have cu:Bt _=e4:=cu.trans (by
  show At (At (At (At ((0:Int)) (!(A1 (wdT w 1))) 20) (!(C3 (wdT w 2)).2) 21) (macE (wdT w 3)) 21) (!(A1 (wdT w 4))) 20=_;rw[fg,dq,gz,ln])
 rw[cu]at dh;rw[dh];generalize e4=eN at *;refine gA qk F85 qm F84 ?_;refine C qk F85 ?_;refine Al 9 (Ci {lineZ with row:=row,kind:=4}) rfl vL ?_;refine T ?_;refine X (Au [(0,31)] (Av E E F86) q1 E W E V) ?_;refine X (Au [(0,31)] (Av E E F87) q2 E W E V) ?_;refine X (Ad [(0,31)] E F89 q3 E W E V) ?_;refine X (Au [(0,31)] (Av E E F86) q4 E W E V) ?_;cases hz:(eN != 0)
 ·have bu:eN=0:=by simpa using hz
  rw[zD (by rw[bu];simp)];exact gB
 ·have bu:eN≠0:=by simpa using hz
  rw[zE bu];refine T ?_;refine Al 4 (Ci lineZ) E vL ?_;exact gB
def Asn(w:List ByteArray)(row:Int)(hw:w.length≤1000000)(hs:∀s∈w,s.size≤40)(af:0<w.length)(hk:kindL (wdT w 0)=6)(bw:manyB 6 w=true):Sp 34 [.sl 1 Ap w,Aa row] (.tup [A3 (Cp w row).1,Aa (Cp w row).2]):=cT F34 ntmps34 λF hF=>by
 have eh:(0:Int).toNat<w.length:=af;have f0:((w.length:Int)==0)=false:=by rw[zR];omega
 have iz:w[(0:Int).toNat]'eh=wdT w 0:=(Dm af).symm;have qk:Sp 85 [Ap (w[(0:Int).toNat]'eh)] (Aa 6):=by
  have:=Ia (wdT w 0);rw[hk]at this;rw[iz];exact this
 have qm:=H9 6 j_ w hw;rw[bw]at qm;have il:=Ji bw;have dh:Cp w row=if Bt (B9 w row).2≠0 then (lineZ,Bt (B9 w row).2) else ((B9 w row).1,0):=by
  rw[Cp,zD];rintro (hh|hh)
  ·rw[hh]at af;simp at af
  ·rw[hk,bw]at hh;cases hh
 have cu:=D1 _ (El w row);have hl:w.length=4:=il.1 j_;have q1:=Hf w 1 (0:Int) q_ hw hs;obtain ⟨e1,fg⟩:∃e,At (0:Int) (!(A1 (wdT w 1))) 20=e:=⟨_,rfl⟩
 rw[fg]at q1;have q2:=Zx w 2 e1 q_ hw;obtain ⟨e2,dq⟩:∃e,At e1 (!(C3 (wdT w 2)).2) 21=e:=⟨_,rfl⟩
 rw[dq]at q2;have q3:=A2t w 3 e2 q_ hw;obtain ⟨e3,gz⟩:∃e,At e2 (!(S3 (wdT w 3)).2) 21=e:=⟨_,rfl⟩
 rw[gz]at q3;have hR:B9 w row=({lineZ with row:=row,kind:=6,dev:=wdT w 1,vlan:=(C3 (wdT w 2)).1,num:=(S3 (wdT w 3)).1},[((!(A1 (wdT w 1))),20),((!(C3 (wdT w 2)).2),21),((!(S3 (wdT w 3)).2),21)]):=by
  unfold B9;simp only[hk];rfl
 rw[hR]at dh cu;have cu:Bt _=e3:=cu.trans (by
  show At (At (At ((0:Int)) (!(A1 (wdT w 1))) 20) (!(C3 (wdT w 2)).2) 21) (!(S3 (wdT w 3)).2) 21=_;rw[fg,dq,gz])
 rw[cu]at dh;rw[dh];generalize e3=eN at *;refine gA qk F85 qm F84 ?_;refine C qk F85 ?_;refine Al 9 (Ci {lineZ with row:=row,kind:=6}) rfl vL ?_;refine T ?_;refine X (Au [(0,31)] (Av E E F86) q1 E W E V) ?_;refine X (Au [(0,31)] (Av E E F87) q2 E W E V) ?_;refine X (Ad [(0,31)] E F94 q3 E W E V) ?_;cases hz:(eN != 0)
 ·have bu:eN=0:=by simpa using hz
  rw[zD (by rw[bu];simp)];exact gB
 ·have bu:eN≠0:=by simpa using hz
  rw[zE bu];refine T ?_;refine Al 4 (Ci lineZ) E vL ?_;exact gB
def Asl(w:List ByteArray)(row:Int)(hw:w.length≤1000000)(hs:∀s∈w,s.size≤40)(af:0<w.length)(hk:kindL (wdT w 0)=8)(bw:manyB 8 w=true):Sp 34 [.sl 1 Ap w,Aa row] (.tup [A3 (Cp w row).1,Aa (Cp w row).2]):=cT F34 ntmps34 λF hF=>by
 have eh:(0:Int).toNat<w.length:=af;have f0:((w.length:Int)==0)=false:=by rw[zR];omega
 have iz:w[(0:Int).toNat]'eh=wdT w 0:=(Dm af).symm;have qk:Sp 85 [Ap (w[(0:Int).toNat]'eh)] (Aa 8):=by
  have:=Ia (wdT w 0);rw[hk]at this;rw[iz];exact this
 have qm:=H9 8 j_ w hw;rw[bw]at qm;have il:=Ji bw;have dh:Cp w row=if Bt (B9 w row).2≠0 then (lineZ,Bt (B9 w row).2) else ((B9 w row).1,0):=by
  rw[Cp,zD];rintro (hh|hh)
  ·rw[hh]at af;simp at af
  ·rw[hk,bw]at hh;cases hh
 have cu:=D1 _ (El w row);have hl:w.length=5:=il.2.1 j_;have q1:=Hf w 1 (0:Int) q_ hw hs;obtain ⟨e1,fg⟩:∃e,At (0:Int) (!(A1 (wdT w 1))) 20=e:=⟨_,rfl⟩
 rw[fg]at q1;have q2:=Hf w 2 e1 q_ hw hs;obtain ⟨e2,dq⟩:∃e,At e1 (!(A1 (wdT w 2))) 20=e:=⟨_,rfl⟩
 rw[dq]at q2;have q3:=Aeu w 3 e2 65535 q_ hw hs;obtain ⟨e3,gz⟩:∃e,At e2 (!(listR 65535 (wdT w 3)).2) 21=e:=⟨_,rfl⟩
 rw[gz]at q3;have q4:=Aeu w 4 e3 65535 q_ hw hs;obtain ⟨e4,ln⟩:∃e,At e3 (!(listR 65535 (wdT w 4)).2) 21=e:=⟨_,rfl⟩
 rw[ln]at q4;have hR:B9 w row=({lineZ with row:=row,kind:=8,dev:=wdT w 1,name:=wdT w 2,imports:=(listR 65535 (wdT w 3)).1,exports:=(listR 65535 (wdT w 4)).1},[((!(A1 (wdT w 1))),20),((!(A1 (wdT w 2))),20),((!(listR 65535 (wdT w 3)).2),21),((!(listR 65535 (wdT w 4)).2),21)]):=by
  unfold B9;simp only[hk];rfl
 rw[hR]at dh cu;have cu:Bt _=e4:=cu.trans (by
  show At (At (At (At ((0:Int)) (!(A1 (wdT w 1))) 20) (!(A1 (wdT w 2))) 20) (!(listR 65535 (wdT w 3)).2) 21) (!(listR 65535 (wdT w 4)).2) 21=_;rw[fg,dq,gz,ln])
 rw[cu]at dh;rw[dh];generalize e4=eN at *;refine gA qk F85 qm F84 ?_;refine C qk F85 ?_;refine Al 9 (Ci {lineZ with row:=row,kind:=8}) rfl vL ?_;refine T ?_;refine X (Au [(0,31)] (Av E E F86) q1 E W E V) ?_;refine X (Au [(0,31)] (Av E E F86) q2 E W E V) ?_;refine X (Ad [(0,31)] E F96 q3 E W E V) ?_;refine X (Ad [(0,31)] E F96 q4 E W E V) ?_;cases hz:(eN != 0)
 ·have bu:eN=0:=by simpa using hz
  rw[zD (by rw[bu];simp)];exact gB
 ·have bu:eN≠0:=by simpa using hz
  rw[zE bu];refine T ?_;refine Al 4 (Ci lineZ) E vL ?_;exact gB
def Aso(w:List ByteArray)(row:Int)(hw:w.length≤1000000)(hs:∀s∈w,s.size≤40)(af:0<w.length)(hk:kindL (wdT w 0)=5)(bw:manyB 5 w=true):Sp 34 [.sl 1 Ap w,Aa row] (.tup [A3 (Cp w row).1,Aa (Cp w row).2]):=cT F34 ntmps34 λF hF=>by
 have eh:(0:Int).toNat<w.length:=af;have f0:((w.length:Int)==0)=false:=by rw[zR];omega
 have iz:w[(0:Int).toNat]'eh=wdT w 0:=(Dm af).symm;have qk:Sp 85 [Ap (w[(0:Int).toNat]'eh)] (Aa 5):=by
  have:=Ia (wdT w 0);rw[hk]at this;rw[iz];exact this
 have qm:=H9 5 j_ w hw;rw[bw]at qm;have il:=Ji bw;have dh:Cp w row=if Bt (B9 w row).2≠0 then (lineZ,Bt (B9 w row).2) else ((B9 w row).1,0):=by
  rw[Cp,zD];rintro (hh|hh)
  ·rw[hh]at af;simp at af
  ·rw[hk,bw]at hh;cases hh
 have cu:=D1 _ (El w row);have hl:w.length=3:=il.2.2.1 rfl;have q1:=Hf w 1 (0:Int) q_ hw hs;obtain ⟨e1,fg⟩:∃e,At (0:Int) (!(A1 (wdT w 1))) 20=e:=⟨_,rfl⟩
 rw[fg]at q1;have qn:=Qf w 2 e1 q_ hw;have bh:(wdT w 2).size≤40:=by rw[Dm (by omega:2<w.length)];exact hs _ (zJ _)
 have qa:=Acq (wdT w 2) q_;have q2:=Js w 3 e1 (!((D4 (wdT w 2)).2&&decide ((D4 (wdT w 2)).1≠0))) 21;obtain ⟨e2,dq⟩:∃e,At e1 (!((D4 (wdT w 2)).2&&decide ((D4 (wdT w 2)).1≠0))) 21=e:=⟨_,rfl⟩
 rw[dq]at q2;have hR:B9 w row=({lineZ with row:=row,kind:=5,dev:=wdT w 1,addr:=(D4 (wdT w 2)).1},[((!(A1 (wdT w 1))),20),((!((D4 (wdT w 2)).2&&decide ((D4 (wdT w 2)).1≠0))),21)]):=by
  unfold B9;simp only[hk];rfl
 rw[hR]at dh cu;have cu:Bt _=e2:=cu.trans (by
  show At (At ((0:Int)) (!(A1 (wdT w 1))) 20) (!((D4 (wdT w 2)).2 && decide ((D4 (wdT w 2)).1≠0))) 21=_;rw[fg,dq])
 rw[cu]at dh;rw[dh];generalize e2=eN at *;clear hR dh cu dq;generalize D4 (wdT w 2)=rt at *;obtain ⟨av,ok⟩:=rt;dsimp only at qa q2⊢;cases ok
 ·have q2:Sq 90 [.ptr 0 0,Ab true,Aa 21] (rdO w 3 e1) (.tup []) (rdO w 3 eN):=q2;refine gA qk F85 qm F84 ?_;refine C qk F85 ?_;refine Al 9 (Ci {lineZ with row:=row,kind:=5}) rfl vL ?_;refine T ?_;refine X (Au [(0,31)] (Av E E F86) q1 E W E V) ?_;refine X (Ad [(0,31)] E F93 qn E W E V) ?_;refine C qa F92 ?_;refine X (Ad [(0,31)] E F90 q2 E W E V) ?_;cases hz:(eN != 0)
  ·have bu:eN=0:=by simpa using hz
   rw[zD (by rw[bu];simp)];exact gB
  ·have bu:eN≠0:=by simpa using hz
   rw[zE bu];refine T ?_;refine Al 4 (Ci lineZ) E vL ?_;exact gB
 ·have hb:(!(true&&decide (av≠0)))=(av==0):=by
   by_cases h:av=0
   ·rw[h];rfl
   ·rw[zL h,zR.2 h];rfl
  rw[hb]at q2;refine gA qk F85 qm F84 ?_;refine C qk F85 ?_;refine Al 9 (Ci {lineZ with row:=row,kind:=5}) rfl vL ?_;refine T ?_;refine X (Au [(0,31)] (Av E E F86) q1 E W E V) ?_;refine X (Ad [(0,31)] E F93 qn E W E V) ?_;refine C qa F92 ?_;refine X (Ad [(0,31)] E F90 q2 E W E V) ?_;cases hz:(eN != 0)
  ·have bu:eN=0:=by simpa using hz
   rw[zD (by rw[bu];simp)];exact gB
  ·have bu:eN≠0:=by simpa using hz
   rw[zE bu];refine T ?_;refine Al 4 (Ci lineZ) E vL ?_;exact gB
def Asm(w:List ByteArray)(row:Int)(hw:w.length≤1000000)(hs:∀s∈w,s.size≤40)(af:0<w.length)(hk:kindL (wdT w 0)=7)(bw:manyB 7 w=true):Sp 34 [.sl 1 Ap w,Aa row] (.tup [A3 (Cp w row).1,Aa (Cp w row).2]):=cT F34 ntmps34 λF hF=>by
 have eh:(0:Int).toNat<w.length:=af;have f0:((w.length:Int)==0)=false:=by rw[zR];omega
 have iz:w[(0:Int).toNat]'eh=wdT w 0:=(Dm af).symm;have qk:Sp 85 [Ap (w[(0:Int).toNat]'eh)] (Aa 7):=by
  have:=Ia (wdT w 0);rw[hk]at this;rw[iz];exact this
 have qm:=H9 7 j_ w hw;rw[bw]at qm;have il:=Ji bw;have dh:Cp w row=if Bt (B9 w row).2≠0 then (lineZ,Bt (B9 w row).2) else ((B9 w row).1,0):=by
  rw[Cp,zD];rintro (hh|hh)
  ·rw[hh]at af;simp at af
  ·rw[hk,bw]at hh;cases hh
 have cu:=D1 _ (El w row);have hl:w.length=4:=il.1 j_;have q1:=Hf w 1 (0:Int) q_ hw hs;obtain ⟨e1,fg⟩:∃e,At (0:Int) (!(A1 (wdT w 1))) 20=e:=⟨_,rfl⟩
 rw[fg]at q1;have q2:=A2t w 2 e1 q_ hw;obtain ⟨e2,dq⟩:∃e,At e1 (!(S3 (wdT w 2)).2) 21=e:=⟨_,rfl⟩
 rw[dq]at q2;have qn:=Qf w 3 e2 q_ hw;have bh:(wdT w 3).size≤40:=by rw[Dm (by omega:3<w.length)];exact hs _ (zJ _)
 have qa:=Ait (wdT w 3) q_;have d6:(Ee (wdT w 3)).2=true→0<(Ee (wdT w 3)).1.length:=λh=>by
  have hp:=Aev h;rw[Ee,Ig]at hp⊢;have:=(Sh _ _ _ _ hp List.Pairwise.nil j_).2.2.1;rw[this,Lm];simp
 have q3:=Js w 4 e2 (!((Ee (wdT w 3)).2&&decide ((Ee (wdT w 3)).1.head? ≠ some 0))) 21;obtain ⟨e3,gz⟩:∃e,At e2 (!((Ee (wdT w 3)).2&&decide ((Ee (wdT w 3)).1.head? ≠ some 0))) 21=e:=⟨_,rfl⟩
 rw[gz]at q3;have hR:B9 w row=({lineZ with row:=row,kind:=7,dev:=wdT w 1,num:=(S3 (wdT w 2)).1,addrs:=(Ee (wdT w 3)).1},[((!(A1 (wdT w 1))),20),((!(S3 (wdT w 2)).2),21),((!((Ee (wdT w 3)).2&&decide ((Ee (wdT w 3)).1.head? ≠ some 0))),21)]):=by
  unfold B9;simp only[hk];rfl
 rw[hR]at dh cu;have cu:Bt _=e3:=cu.trans (by
  show At (At (At ((0:Int)) (!(A1 (wdT w 1))) 20) (!(S3 (wdT w 2)).2) 21) (!((Ee (wdT w 3)).2 && decide ((Ee (wdT w 3)).1.head? ≠ some 0))) 21=_;rw[fg,dq,gz])
 rw[cu]at dh;rw[dh];generalize e3=eN at *;clear hR dh cu gz;generalize Ee (wdT w 3)=rt at *;obtain ⟨av,ok⟩:=rt;dsimp only at qa q3 d6⊢;cases ok
 ·have q3:Sq 90 [.ptr 0 0,Ab true,Aa 21] (rdO w 4 e2) (.tup []) (rdO w 4 eN):=q3;refine gA qk F85 qm F84 ?_;refine C qk F85 ?_;refine Al 9 (Ci {lineZ with row:=row,kind:=7}) rfl vL ?_;refine T ?_;refine X (Au [(0,31)] (Av E E F86) q1 E W E V) ?_;refine X (Ad [(0,31)] E F94 q2 E W E V) ?_;refine X (Ad [(0,31)] E F93 qn E W E V) ?_;refine C qa F95 ?_;refine X (Ad [(0,31)] E F90 q3 E W E V) ?_;cases hz:(eN != 0)
  ·have bu:eN=0:=by simpa using hz
   rw[zD (by rw[bu];simp)];exact gB
  ·have bu:eN≠0:=by simpa using hz
   rw[zE bu];refine T ?_;refine Al 4 (Ci lineZ) E vL ?_;exact gB
 ·have h0:(0:Int).toNat<av.length:=d6 rfl;have hb:(!(true&&decide (av.head? ≠ some 0)))=(av[(0:Int).toNat]'h0==0):=by
   cases av with
   |nil=>exact yB h0 y_
   |cons a r=>
    show (!(true&&decide (some a≠some 0)))=(a==0);by_cases h:a=0
    ·rw[h];rfl
    ·rw[zR.2 h,zL (by simpa using h)];rfl
  rw[hb]at q3;refine gA qk F85 qm F84 ?_;refine C qk F85 ?_;refine Al 9 (Ci {lineZ with row:=row,kind:=7}) rfl vL ?_;refine T ?_;refine X (Au [(0,31)] (Av E E F86) q1 E W E V) ?_;refine X (Ad [(0,31)] E F94 q2 E W E V) ?_;refine X (Ad [(0,31)] E F93 qn E W E V) ?_;refine C qa F95 ?_;refine X (Ad [(0,31)] E F90 q3 E W E V) ?_;cases hz:(eN != 0)
  ·have bu:eN=0:=by simpa using hz
   rw[zD (by rw[bu];simp)];exact gB
  ·have bu:eN≠0:=by simpa using hz
   rw[zE bu];refine T ?_;refine Al 4 (Ci lineZ) E vL ?_;exact gB
def Al8(s:ByteArray):∃m:Nat,(prefixR s).1.1=m∧m<4294967296:=by
 rw[prefixR];split
 ·exact⟨0,E,by decide⟩
 ·have h1:=L7 (cutT 47 s).1;have h2:=Ub (cutT 47 s).1;exact⟨(D4 (cutT 47 s).1).1.toNat,(yR h1).symm,by omega⟩
def Ask(w:List ByteArray)(row:Int)(hw:w.length≤1000000)(hs:∀s∈w,s.size≤40)(af:0<w.length)(hk:kindL (wdT w 0)=9)(bw:manyB 9 w=true):Sp 34 [.sl 1 Ap w,Aa row] (.tup [A3 (Cp w row).1,Aa (Cp w row).2]):=cT F34 ntmps34 λF hF=>by
 have eh:(0:Int).toNat<w.length:=af;have f0:((w.length:Int)==0)=false:=by rw[zR];omega
 have iz:w[(0:Int).toNat]'eh=wdT w 0:=(Dm af).symm;have qk:Sp 85 [Ap (w[(0:Int).toNat]'eh)] (Aa 9):=by
  have:=Ia (wdT w 0);rw[hk]at this;rw[iz];exact this
 have qm:=H9 9 j_ w hw;rw[bw]at qm;have il:=Ji bw;have dh:Cp w row=if Bt (B9 w row).2≠0 then (lineZ,Bt (B9 w row).2) else ((B9 w row).1,0):=by
  rw[Cp,zD];rintro (hh|hh)
  ·rw[hh]at af;simp at af
  ·rw[hk,bw]at hh;cases hh
 have cu:=D1 _ (El w row);have hl:w.length=5:=il.2.1 j_;have q1:=Hf w 1 (0:Int) q_ hw hs;obtain ⟨e1,fg⟩:∃e,At (0:Int) (!(A1 (wdT w 1))) 20=e:=⟨_,rfl⟩
 rw[fg]at q1;have q2:=Zx w 2 e1 q_ hw;obtain ⟨e2,dq⟩:∃e,At e1 (!(C3 (wdT w 2)).2) 21=e:=⟨_,rfl⟩
 rw[dq]at q2;have q3:=Hf w 3 e2 q_ hw hs;obtain ⟨e3,gz⟩:∃e,At e2 (!(A1 (wdT w 3))) 20=e:=⟨_,rfl⟩
 rw[gz]at q3;have qn:=Qf w 4 e3 q_ hw;have bh:(wdT w 4).size≤40:=by rw[Dm (by omega:4<w.length)];exact hs _ (zJ _)
 have qa:=Arr (wdT w 4) q_;have hrg:=Al8 (wdT w 4);have q4:=Js w 5 e3 (!((prefixR (wdT w 4)).2&&subnetB (prefixR (wdT w 4)).1.1 (prefixR (wdT w 4)).1.2)) 21;obtain ⟨e4,ln⟩:∃e,At e3 (!((prefixR (wdT w 4)).2&&subnetB (prefixR (wdT w 4)).1.1 (prefixR (wdT w 4)).1.2)) 21=e:=⟨_,rfl⟩
 rw[ln]at q4;have hR:B9 w row=({lineZ with row:=row,kind:=9,dev:=wdT w 1,vlan:=(C3 (wdT w 2)).1,name:=wdT w 3,addr:=(prefixR (wdT w 4)).1.1,bits:=(prefixR (wdT w 4)).1.2},[((!(A1 (wdT w 1))),20),((!(C3 (wdT w 2)).2),21),((!(A1 (wdT w 3))),20),((!((prefixR (wdT w 4)).2&&subnetB (prefixR (wdT w 4)).1.1 (prefixR (wdT w 4)).1.2)),21)]):=by
  unfold B9;simp only[hk];rfl
 rw[hR]at dh cu;have cu:Bt _=e4:=cu.trans (by
  show At (At (At (At ((0:Int)) (!(A1 (wdT w 1))) 20) (!(C3 (wdT w 2)).2) 21) (!(A1 (wdT w 3))) 20) (!((prefixR (wdT w 4)).2 && subnetB (prefixR (wdT w 4)).1.1 (prefixR (wdT w 4)).1.2)) 21=_;rw[fg,dq,gz,ln])
 rw[cu]at dh;rw[dh];generalize e4=eN at *;clear hR dh cu ln;obtain ⟨m,ck,bx⟩:=hrg;generalize prefixR (wdT w 4)=rt at *;obtain ⟨⟨av,bv⟩,ok⟩:=rt;dsimp only at qa q4 ck⊢;subst ck;have qs:=Acx m bv bx;generalize subnetB (m:Int) bv=sb at *;cases ok
 ·have q4:Sq 90 [.ptr 0 0,Ab true,Aa 21] (rdO w 5 e3) (.tup []) (rdO w 5 eN):=q4;refine gA qk F85 qm F84 ?_;refine C qk F85 ?_;refine Al 9 (Ci {lineZ with row:=row,kind:=9}) rfl vL ?_;refine T ?_;refine X (Au [(0,31)] (Av E E F86) q1 E W E V) ?_;refine X (Au [(0,31)] (Av E E F87) q2 E W E V) ?_;refine X (Au [(0,31)] (Av E E F86) q3 E W E V) ?_;refine X (Ad [(0,31)] E F93 qn E W E V) ?_;refine C qa F97 ?_;refine X (Ad [(0,31)] E F90 q4 E W E V) ?_;cases hz:(eN != 0)
  ·have bu:eN=0:=by simpa using hz
   rw[zD (by rw[bu];simp)];exact gB
  ·have bu:eN≠0:=by simpa using hz
   rw[zE bu];refine T ?_;refine Al 4 (Ci lineZ) E vL ?_;exact gB
 ·have hb:(!(true&&sb))=!sb:=rfl;rw[hb]at q4;refine gA qk F85 qm F84 ?_;refine C qk F85 ?_;refine Al 9 (Ci {lineZ with row:=row,kind:=9}) rfl vL ?_;refine T ?_;refine X (Au [(0,31)] (Av E E F86) q1 E W E V) ?_;refine X (Au [(0,31)] (Av E E F87) q2 E W E V) ?_;refine X (Au [(0,31)] (Av E E F86) q3 E W E V) ?_;refine X (Ad [(0,31)] E F93 qn E W E V) ?_;refine gI qa F97 qs F98 ?_;refine X (Ad [(0,31)] E F90 q4 E W E V) ?_;cases hz:(eN != 0)
  ·have bu:eN=0:=by simpa using hz
   rw[zD (by rw[bu];simp)];exact gB
  ·have bu:eN≠0:=by simpa using hz
   rw[zE bu];refine T ?_;refine Al 4 (Ci lineZ) E vL ?_;exact gB
def Asr(w:List ByteArray)(row:Int)(hw:w.length≤1000000)(hs:∀s∈w,s.size≤40)(af:0<w.length)(hk:kindL (wdT w 0)=2)(bw:manyB 2 w=true):Sp 34 [.sl 1 Ap w,Aa row] (.tup [A3 (Cp w row).1,Aa (Cp w row).2]):=cT F34 ntmps34 λF hF=>by
 have eh:(0:Int).toNat<w.length:=af;have f0:((w.length:Int)==0)=false:=by rw[zR];omega
 have iz:w[(0:Int).toNat]'eh=wdT w 0:=(Dm af).symm;have qk:Sp 85 [Ap (w[(0:Int).toNat]'eh)] (Aa 2):=by
  have:=Ia (wdT w 0);rw[hk]at this;rw[iz];exact this
 have qm:=H9 2 j_ w hw;rw[bw]at qm;have il:=Ji bw;have dh:Cp w row=if Bt (B9 w row).2≠0 then (lineZ,Bt (B9 w row).2) else ((B9 w row).1,0):=by
  rw[Cp,zD];rintro (hh|hh)
  ·rw[hh]at af;simp at af
  ·rw[hk,bw]at hh;cases hh
 have cu:=D1 _ (El w row);have hl:6≤w.length∧w.length≤7∧(wdT w 4=Hi→w.length=7):=il.2.2.2.1 rfl;have q1:=Hf w 1 (0:Int) q_ hw hs;obtain ⟨e1,fg⟩:∃e,At (0:Int) (!(A1 (wdT w 1))) 20=e:=⟨_,rfl⟩
 rw[fg]at q1;have q2:=Hf w 2 e1 q_ hw hs;obtain ⟨e2,dq⟩:∃e,At e1 (!(A1 (wdT w 2))) 20=e:=⟨_,rfl⟩
 rw[dq]at q2;have q3:=Wq w 3 e2 1 65535 q_ hw;obtain ⟨e3,gz⟩:∃e,At e2 (!(numR (wdT w 3) 1 65535).2) 21=e:=⟨_,rfl⟩
 rw[gz]at q3;have q4:=Js w 4 e3 (decide (wdT w 4≠Hy)&&decide (wdT w 4≠Hi)) 20;obtain ⟨e4,ln⟩:∃e,At e3 (decide (wdT w 4≠Hy)&&decide (wdT w 4≠Hi)) 20=e:=⟨_,rfl⟩
 rw[ln]at q4;have qp:=A6l w e4 { lineZ with row:=row,kind:=2,dev:=wdT w 1,port:=wdT w 2,cost:=(numR (wdT w 3) 1 65535).1 } hw hs q_ (λ x=>by
  have h6:w.length=6:=by
   have hm3:=bw;rw[manyB,zD j_,zE rfl,zD q_,zE x]at hm3;exact zO hm3
  omega) (λ x=>by have:=hl.2.2 x;omega) ⟨rfl,rfl⟩
 have hR:B9 w row=({ lineZ with row:=row,kind:=2,dev:=wdT w 1,port:=wdT w 2,cost:=(numR (wdT w 3) 1 65535).1,vlan:=(Em w).1,tagged:=(Em w).2.1 },
   [((!(A1 (wdT w 1))),20),((!(A1 (wdT w 2))),20),((!(numR (wdT w 3) 1 65535).2),21),((decide (wdT w 4≠Hy) && decide (wdT w 4≠Hi)),20)]++(Em w).2.2++[(!(membersB (Em w).1 (Em w).2.1),21)]):=by
  unfold B9;simp only[hk];rfl
 rw[hR]at dh cu;have cu:Bt _=L5 e4 ((Em w).2.2++[(!(membersB (Em w).1 (Em w).2.1),21)]):=cu.trans (by
  rw[W6,W6,W6];congr 2;show At (At (At (At ((0:Int)) (!(A1 (wdT w 1))) 20) (!(A1 (wdT w 2))) 20) (!(numR (wdT w 3) 1 65535).2) 21) (decide (wdT w 4≠Hy) && decide (wdT w 4≠Hi)) 20=_;rw[fg,dq,gz,ln])
 rw[cu]at dh;rw[dh];clear hR dh cu ln;dsimp only at qp⊢;generalize L5 e4 ((Em w).2.2++[(!(membersB (Em w).1 (Em w).2.1),21)])=eN at *;generalize Em w=pr at *;have hn4:(4:Int).toNat<w.length:=by show 4<w.length;omega
 have hx4:w[(4:Int).toNat]'hn4=wdT w 4:=(Dm q_).symm;by_cases ca:wdT w 4=Hy
 ·have g1:(!(w[(4:Int).toNat]'hn4==(⟨#[97,99,99,101,115,115]⟩:ByteArray)))=false:=Ae2 (by rw[hx4];exact ca);have q4:Sq 90 [.ptr 0 0,Ab false,Aa 20] (rdO w 4 e3) (.tup []) (rdO w 4 e4):=by
   rw[zI (λx=>x ca)]at q4;exact q4
  refine gA qk F85 qm F84 ?_;refine C qk F85 ?_;refine Al 9 (Ci {lineZ with row:=row,kind:=2}) rfl vL ?_;refine T ?_;refine X (Au [(0,31)] (Av E E F86) q1 E W E V) ?_;refine X (Au [(0,31)] (Av E E F86) q2 E W E V) ?_;refine X (Ad [(0,31)] E F88 q3 E W E V) ?_;refine X (Ad [(0,31)] E F90 q4 E W E V) ?_;refine X (Ad [(0,31),(1,9)] E F91 qp E W E V) ?_;cases hz:(eN != 0)
  ·have bu:eN=0:=by simpa using hz
   rw[zD (by rw[bu];simp)];exact gB
  ·have bu:eN≠0:=by simpa using hz
   rw[zE bu];refine T ?_;refine Al 4 (Ci lineZ) E vL ?_;exact gB
 ·have g1:(!(w[(4:Int).toNat]'hn4==(⟨#[97,99,99,101,115,115]⟩:ByteArray)))=true:=Ann (by rw[hx4];exact ca);have hb:(decide (wdT w 4≠Hy)&&decide (wdT w 4≠Hi))=!(w[(4:Int).toNat]'hn4==(⟨#[116,114,117,110,107]⟩:ByteArray)):=by
   rw[zL ca,yF,hx4];show decide (wdT w 4≠Hi)=!(wdT w 4==Hi);by_cases cr:wdT w 4=Hi
   ·rw[Ae2 cr,zI (λx:wdT w 4≠Hi=>x cr)]
   ·rw[Ann cr,zL cr]
  rw[hb]at q4;refine gA qk F85 qm F84 ?_;refine C qk F85 ?_;refine Al 9 (Ci {lineZ with row:=row,kind:=2}) rfl vL ?_;refine T ?_;refine X (Au [(0,31)] (Av E E F86) q1 E W E V) ?_;refine X (Au [(0,31)] (Av E E F86) q2 E W E V) ?_;refine X (Ad [(0,31)] E F88 q3 E W E V) ?_;refine X (Ad [(0,31)] E F90 q4 E W E V) ?_;refine X (Ad [(0,31),(1,9)] E F91 qp E W E V) ?_;cases hz:(eN != 0)
  ·have bu:eN=0:=by simpa using hz
   rw[zD (by rw[bu];simp)];exact gB
  ·have bu:eN≠0:=by simpa using hz
   rw[zE bu];refine T ?_;refine Al 4 (Ci lineZ) E vL ?_;exact gB
def Ayb(w:List ByteArray)(row:Int)(hw:w.length≤1000000)(hs:∀s∈w,s.size≤40):Sp 34 [.sl 1 Ap w,Aa row] (.tup [A3 (Cp w row).1,Aa (Cp w row).2]):=by
 by_cases af:0<w.length
 ·cases bw:manyB (kindL (wdT w 0)) w with
  |true=>
   have hr:=Ado (wdT w 0);have h0:=(Ji bw).2.2.2.2;rcases (by omega:kindL (wdT w 0)=1∨kindL (wdT w 0)=2∨kindL (wdT w 0)=3∨kindL (wdT w 0)=4∨kindL (wdT w 0)=5∨kindL (wdT w 0)=6∨kindL (wdT w 0)=7∨kindL (wdT w 0)=8∨kindL (wdT w 0)=9) with h|h|h|h|h|h|h|h|h
   ·exact Ass w row hw hs af h (by rw[h]at bw;exact bw)
   ·exact Asr w row hw hs af h (by rw[h]at bw;exact bw)
   ·exact Asq w row hw hs af h (by rw[h]at bw;exact bw)
   ·exact Asp w row hw hs af h (by rw[h]at bw;exact bw)
   ·exact Aso w row hw hs af h (by rw[h]at bw;exact bw)
   ·exact Asn w row hw hs af h (by rw[h]at bw;exact bw)
   ·exact Asm w row hw hs af h (by rw[h]at bw;exact bw)
   ·exact Asl w row hw hs af h (by rw[h]at bw;exact bw)
   ·exact Ask w row hw hs af h (by rw[h]at bw;exact bw)
  |false=>
   have dh:Cp w row=(lineZ,22):=by rw[Cp,zE (.inr bw)]
   rw[dh];refine Su Γ hm 100 F34 ntmps34 E λF hF=>by
    have eh:(0:Int).toNat<w.length:=af;have f0:((w.length:Int)==0)=false:=by rw[zR];omega
    have iz:w[(0:Int).toNat]'eh=wdT w 0:=(Dm af).symm;have qk:Sp 85 [Ap (w[(0:Int).toNat]'eh)] (Aa (kindL (wdT w 0))):=by
     rw[iz];exact Ia (wdT w 0)
    have qm:=H9 (kindL (wdT w 0)) (Ado _) w hw;rw[bw]at qm;refine gA qk F85 qm F84 ?_;refine Al 4 (Ci lineZ) E vL ?_;exact gB
 ·have kz:w=[]:=zX q_;subst kz;have dh:Cp [] row=(lineZ,22):=by rw[Cp,zE (.inl rfl)]
  rw[dh];refine Su Γ hm 100 F34 ntmps34 E λF hF=>by
   refine T ?_;refine Al 4 (Ci lineZ) E vL ?_;exact gB
end Go.Sy.YtolnneiipmfgaaaGreatDoor
namespace Go.Sy
def Arw{C:Cx}{kk:List KI}{s:SS}(q:Nat)(r:List Nat){sz:Nat}{α:Type}{e:α→SV}{l:List α}(h:s.h q=.row sz e l)(hl:l≠[])(hr:∀i∈r,s.σ i=.osl q)(hg:∀b cap,l.length≤cap→G C kk ⟨freezeσ s.σ (.val (.slice (some ⟨b,0,none⟩) l.length cap)) r,upd s.h q (.pin b l.length cap sz e l)⟩):G C kk s:=λκ a w hs=>by
 have cn:=hs.obj q;rw[h]at cn;rcases cn with ⟨_,h1⟩|gm
 ·exact yB h1 hl
 obtain ⟨b,cap,cs,T,fr,e1,e2,e3,e4,e5,e6⟩:=gm;refine hg b cap e5 κ a w ⟨hs.defers,hs.size,hs.inv,hs.ctx,λi=>?_,λj=>?_⟩
 ·refine freezeσ_ok r _ i (hs.slot i) (λhi=>?_);have:=hs.slot i;rw[hr i hi]at this;simp only[Rd,e1]at this;simp only[Rd];exact this
 ·show ObOK κ w j (upd s.h q _ j);by_cases hj:j=q
  ·subst hj;rw[B1];exact⟨e1,b,cap,cs,T,fr,e1,e2,e3,e4,e5,e6⟩
  ·rw[Cy _ _ hj];exact hs.obj j
def Abk{C:Cx}{kk:List KI}{s:SS}(q d:Nat)(r:List Nat)(m:Nat){b n cap sz:Nat}{α:Type}{e:α→SV}{l:List α}(h:s.h q=.pin b n cap sz e l)(hd:s.h d=.fresh)(hm:m≤l.length)(hr:∀i∈r,s.σ i=.val (.slice (some ⟨b,0,none⟩) m cap))(hg:G C kk ⟨freezeσ s.σ (.osl d) r,upd (upd s.h q .non) d (.row sz e (l.take m))⟩):G C kk s:=λκ a w hs=>by
 have cn:=hs.obj q;rw[h]at cn;have az:κ d=.new:=by have:=hs.obj d;rwa [hd]at this
 obtain ⟨e0,b',du,cs,T,fr,e1,e2,e3,e4,e5,e6⟩:=cn;rw[e0]at e1;cases e1;have z8:l.length≤n:=by
  by_cases h0:l.length=0
  ·omega
  ·have:=(e6 (l.length-1) _ ⟨by omega,rfl⟩).1;omega
 obtain ⟨st,inv⟩:=Q3 (n':=m) (w':=w) hs.inv e0 az rfl rfl rfl rfl (λ_ _=>rfl);have ab:(l.take m).length=m:=by rw[zY];omega
 refine hg _ a w ⟨hs.defers,hs.size,inv,hs.ctx.step inv st,λj=>?_,λj=>?_⟩
 ·refine freezeσ_ok r _ j (Rd.step st _ _ (hs.slot j)) (λhj=>?_);have:=hs.slot j;rw[hr j hj]at this;simp only[Rd]at this;simp[Rd,Ay,this]
 ·show ObOK _ w j (upd (upd s.h q .non) d _ j);by_cases hj:j=d
  ·subst hj;rw[B1];refine .inr ⟨b,cap,cs,T,fr,by rw[Ay,ab],e2,e3,e4,by omega,λi x hx=>?_⟩;obtain ⟨hi,rfl⟩:=hx;obtain ⟨_,u,q2,q3⟩:=e6 i (e l[i]) ⟨by omega,rfl⟩;refine⟨hi,u,?_,q3⟩;rw[wD];exact RdD.keep st.keeps _ _ q2
  ·rw[Cy _ _ hj];by_cases an:j=q
   ·subst an;rw[B1];trivial
   ·rw[Cy _ _ an];exact ObOK.step st (λe=>e.elim an hj) _ (hs.obj j)
def Dp{P:Program}(Γ:Ty P){o:Oper}{s:SS}{t:TypeId}{ti:TI}{et:TypeId}{sz eb b n cap lo hi:Nat}{ez:List Value}{x:Operand}{lx hx:Option Operand}(h:o.op=.slice t x lx hx none)(ht:Γ.get t=some ti)(hk:ti.k=.slice et sz eb ez)(l6:ev s x=.val (.slice (some ⟨b,0,none⟩) n cap))(oq:BoundIs s lx 0 lo)(ma:BoundIs s hx n hi)(h1:lo≤hi)(h2:hi≤cap):Good P o s ⟨.val (.slice (some (if cap=lo then ⟨b,0,none⟩ else ⟨b,lo*sz,none⟩)) (hi-lo) (cap-lo)),[],[]⟩ :=
 Good.pure λκ a w _ hr _=>by
  have r1:=hr x (by simp[h,Op.operands]);rw[l6]at r1;obtain ⟨hu,i,zv,q1,q2,q3,q4,q5⟩:=Ct Γ ht hk;have b1:=oq.val (a:=a) (λy hy=>hr y (by simp[h,Op.operands,hy]));have b2:=ma.val (a:=a) (λy hy=>hr y (by simp[h,Op.operands,hy]));have hb:=Jp (P:=P) w (len:=n) (cap:=cap) b1 b2 h1 h2;refine⟨.slice (some (if cap=lo then ⟨b,0,none⟩ else ⟨b,lo*sz,none⟩)) (hi-lo) (cap-lo),?_,by simp only[Rd]⟩;by_cases hc:cap=lo
  ·subst hc;simp[execOp,h,r1.val,Instr.sliceAt,Instr.slice,run_underlying hu,hb,sizeOf,typeInfo,q1]
  ·simp[execOp,h,r1.val,Instr.sliceAt,Instr.slice,run_underlying hu,hb,sizeOf,typeInfo,q1,q2,hc,Addr.add_lit]
def Ai1{P:Program}(Γ:Ty P){o:Oper}{s:SS}{t:TypeId}{ti:TI}{et:TypeId}{sz eb b n cap lo hi mm:Nat}{ez:List Value}{x:Operand}{lx hx mx:Operand}{k1 k2 k3:IntKind}(h:o.op=.slice t x (some lx) (some hx) (some mx))(ht:Γ.get t=some ti)(hk:ti.k=.slice et sz eb ez)(l6:ev s x=.val (.slice (some ⟨b,0,none⟩) n cap))(oq:ev s lx=.val (.int k1 lo))(ma:ev s hx=.val (.int k2 hi))(hmx:ev s mx=.val (.int k3 mm))(h1:lo≤hi)(h2:hi≤mm)(h3:mm≤cap):Good P o s ⟨.top,[],[]⟩ :=
 Good.pure λκ a w _ hr _=>by
  have r1:=hr x (by simp[h,Op.operands]);have r2:=hr lx (by simp[h,Op.operands]);have r3:=hr hx (by simp[h,Op.operands]);have r4:=hr mx (by simp[h,Op.operands]);rw[l6]at r1;rw[oq]at r2;rw[ma]at r3;rw[hmx]at r4;obtain ⟨hu,i,zv,q1,q2,q3,q4,q5⟩:=Ct Γ ht hk;have hb:(Instr.sliceBounds true n cap (some (a.eval lx)) (some (a.eval hx)) (some (a.eval mx))).run P w=.ok (lo,hi,mm) w:=by
   rw[r2.val,r3.val,r4.val];simp[Instr.sliceBounds,Instr.sliceBound,asIntOf,h1,h2,h3]
  refine⟨.slice (some (if mm=lo then ⟨b,0,none⟩ else ⟨b,lo*sz,none⟩)) (hi-lo) (mm-lo),?_,by simp only[Rd]⟩;by_cases hc:mm=lo
  ·subst hc;simp[execOp,h,r1.val,Instr.sliceAt,Instr.slice,run_underlying hu,hb,sizeOf,typeInfo,q1]
  ·simp[execOp,h,r1.val,Instr.sliceAt,Instr.slice,run_underlying hu,hb,sizeOf,typeInfo,q1,q2,hc,Addr.add_lit]
def Uz{κ:Ka}{w w':World}{k b n cap:Nat}(hi:Inv κ w)(hk:κ k=.row b n cap)(xk:w'.os=w.os)(ht:w'.tape=w.tape)(ho:w'.output=w.output)(hs:w'.heap.size=w.heap.size)(hb:∀i,i≠b→w'.heap[i]? = w.heap[i]?):Step (λj=>j=k) κ w κ w'∧Inv κ w':=by
 have jx:(κ k).block? = some b:=by rw[hk];rfl
 refine⟨⟨by omega,xk,ht,ho,E,λ c hm=>hb c (λ e=>hi.apart k b jx (e ▸ hm)),λ c _ hn=>hb c (λ e=>hn (.inl ⟨k,e ▸ jx⟩)),λ j c hj hjc=>hb c (λ e=>hj ?_),λ _ _=>rfl,λ _ _=>.inr (.inl E),λ _ h=>.inl h⟩,
  ⟨hi.inj,λ j c h=>by rw[hs];exact hi.bnd j c h,hi.apart,λ c h=>by rw[hs];exact hi.mbnd c h⟩⟩
 subst e;exact hi.inj j k _ hjc jx
def Aoq{cs:List Value}{sz n:Nat}(h:∀i,i<n→∃u:Value,u.cells.size=sz∧Ones u.cells.toList∧∀j,j<sz→cs[i*sz+j]? = u.cells[j]?){p:Nat}(hp:p<n*sz){v:Value}(hv:cs[p]? = some v):v.oneCell'=true:=by
 have h0:0<sz:=by
  rcases uK sz with rfl|h
  ·simp at hp
  ·exact h
 obtain ⟨u,h1,h2,h3⟩:=h (p/sz) (Nat.div_lt_of_lt_mul (by rw[vB];exact hp));have h4:=h3 (p%sz) (tX _ h0);rw[vB,uF,hv]at h4;obtain ⟨hl,he⟩:=wW.1 h4.symm;refine h2 v ?_;rw[←he];exact Array.getElem_mem_toList hl
def Aen{P:Program}(Γ:Ty P){o:Oper}{s:SS}(q:Nat){t:TypeId}{ti:TI}{et:TypeId}{sz eb b n cap i j:Nat}{ez:List Value}{x y:Operand}{α:Type}{e:α→SV}{l:List α}{B:Option Addr}{c:Nat}(h:o.op=.call ⟨.builtin .append,#[x,y],#[t,t]⟩)(ht:Γ.get t=some ti)(hk:ti.k=.slice et sz eb ez)(hx:ev s x=.val (.slice (some ⟨b,0,none⟩) i cap))(hy:ev s y=.val (.slice B (n-j) c))(hB:B=some (if cap=j then ⟨b,0,none⟩ else ⟨b,j*sz,none⟩))(cn:s.h q=.pin b n cap sz e l)(hl:l.length=n)(bc:i≤j)(hj:j≤n):Good P o s ⟨.val (.slice (some ⟨b,0,none⟩) (i+(n-j)) cap),[],[(q,.pin b n cap sz e (l.take i++l.drop j))]⟩:=by
 intro κ a w hinv hr ho N Q hN;have r1:=hr x (by simp[h,Op.operands,Call.operands]);have r2:=hr y (by simp[h,Op.operands,Call.operands]);rw[hx]at r1;rw[hy]at r2;subst hB;have hq:=ho q (.inr (by simp[Up.ws]));rw[cn]at hq;obtain ⟨e0,b',du,cs,T,fr,e1,e2,e3,e4,e5,e6⟩:=hq;rw[e0]at e1;cases e1;obtain ⟨hu,ii,zv,q1,q2,q3,q4,q5⟩:=Ct Γ ht hk;have df:∀i,i<n→∃u:Value,u.cells.size=sz∧Ones u.cells.toList∧∀j,j<sz→cs[i*sz+j]? = u.cells[j]?:=λi hi=>by
  obtain ⟨_,u,_,u2⟩:=e6 i (e l[i]) ⟨by omega,rfl⟩;exact⟨u,u2⟩
 obtain ⟨news,fh⟩:∃news,news=(cs.drop (j*sz)).take ((n-j)*sz):=⟨_,rfl⟩
 have hmul:(n-j)*sz+j*sz=n*sz:=by rw[←xI];congr 1;omega
 have oz:n*sz≤cap*sz:=yY sz e5;have hijs:i*sz≤j*sz:=yY sz bc;have j8:news.length=(n-j)*sz:=by rw[fh,zY,yQ];omega
 have bg:∀p,p<(n-j)*sz→news[p]? = cs[j*sz+p]?:=λp hp=>by
  rw[fh,vW,zE hp,List.getElem?_drop]
 have kw:Ones news:=λv hv=>by
  obtain ⟨p,hp,he⟩:=vM hv;have h1:news[p]? = some v:=by rw[zU hp,he]
  rw[j8]at hp;rw[bg p hp]at h1;exact Aoq df q_ h1
 obtain ⟨w',f1,f2,f3,f4,f5,f6,f7⟩:=Dn P b (i*sz) T fr news 0 cs w e2 e3 q_ kw;obtain ⟨st,inv⟩:=Uz hinv e0 f3 f4 f5 f6 f7;have bd:i+(n-j)≤cap:=by omega
 have gi:∀p v,cs[p]? = some v→w.cell? ⟨b,p,none⟩=some v:=λp v hp=>by
  simp[World.cell?,e2,hp]
 have hc:(Builtin.firstCells sz (n-j) (.slice (some (if cap=j then ⟨b,0,none⟩ else ⟨b,j*sz,none⟩)) (n-j) c)).run P w=.ok news.toArray w:=by
  by_cases lz:cap=j
  ·have h0:n-j=0:=by omega
   rw[zE lz,h0];have h1:news=[]:=by rw[h0]at j8;simpa using j8
   rw[h1];exact run_firstCells_some (P:=P) w sz 0 ⟨b,0,none⟩ 0 c [] y_ (λj v hj=>by simp at hj)
  ·rw[zD lz];refine run_firstCells_some (P:=P) w sz (n-j) ⟨b,j*sz,none⟩ (n-j) c news j8 (λp v hp=>?_);rw[Addr.add_lit];have ab:p<(n-j)*sz:=by
    rw[←j8];exact(List.getElem?_eq_some_iff.1 hp).1
   rw[bg p ab]at hp;exact gi _ _ hp
 have au:(execOp a.eval o).run P w=.ok (.value (.slice (some ⟨b,0,none⟩) (i+(n-j)) cap)) w':=by
  simp[execOp,h,resolve,invoke,builtin,Builtin.append_,r1.val,r2.val,run_underlying hu,sizeOf,typeInfo,q1,q2,Builtin.lenOf,bd,hc,Addr.add_lit,f1]
 simp only[Oper.wp,au,Oper.upon];refine hN _ κ w' (st.weaken (λk hk=>by subst hk;simp[Up.ws])) inv (by simp only[Rd]) (λp hp=>?_);simp only[yA]at hp;subst hp;refine⟨e0,b,cap,_,T,fr,e0,f2,by rw[Cm];exact e3,by rw[Cm];exact e4,e5,?_⟩;rintro k z ⟨bl,rfl⟩;have a6:=M5 cs news (i*sz+0);have hlen:(l.take i++l.drop j).length=i+(n-j):=by rw[zQ,zY,yQ];omega
 rw[hlen]at bl;by_cases o8:k<i
 ·obtain ⟨_,u,u1,u2,u3,u4⟩:=e6 k (e l[k]) ⟨by omega,rfl⟩;have:(k+1)*sz≤i*sz:=yY sz q_;rw[xI,wI]at this;refine⟨by omega,u,?_,u2,u3,λp hp=>?_⟩
  ·rw[yU (by rw[zY];omega),wD];exact RdD.keep st.keeps _ _ u1
  ·rw[a6 _ q_,zD q_,u4 p hp]
 ·obtain ⟨_,u,u1,u2,u3,u4⟩:=e6 (j+(k-i)) (e l[j+(k-i)]) ⟨by omega,rfl⟩;have hks:k*sz=i*sz+(k-i)*sz:=by rw[←xI];congr 1;omega
  have hjs:(j+(k-i))*sz=j*sz+(k-i)*sz:=by rw[←xI]
  have:(k-i+1)*sz≤(n-j)*sz:=yY sz q_;rw[xI,wI]at this;refine⟨by omega,u,?_,u2,u3,λp hp=>?_⟩
  ·rw[xO (by rw[zY];omega),vQ];have ta:j+(k-(l.take i).length)=j+(k-i):=by rw[zY];omega
   simp only[ta];exact RdD.keep st.keeps _ _ u1
  ·rw[a6 _ q_,zE q_,←u4 p hp,hjs];rw[show k*sz+p-(i*sz+0)=(k-i)*sz+p by omega,bg _ q_];congr 1;omega
def Ow{P:Program}(Γ:Ty P){o:Oper}{s:SS}(q:Nat){t:TypeId}{ti:TI}{et:TypeId}{sz eb b n cap k m c:Nat}{ez:List Value}{x:Operand}{α:Type}{e:α→SV}{l:List α}{B:Option Addr}(h:o.op=.call ⟨.builtin .clear,#[x],#[t]⟩)(ht:Γ.get t=some ti)(hk:ti.k=.slice et sz eb ez)(pg:ez.length=sz)(hz1:∀v∈ez,v.oneCell'=true)(hx:ev s x=.val (.slice B m c))(hB:B=some (if cap=k then ⟨b,0,none⟩ else ⟨b,k*sz,none⟩))(cn:s.h q=.pin b n cap sz e l)(o9:k≤l.length)(hm:k+m≤cap):Good P o s ⟨.tup [],[],[(q,.pin b n cap sz e (l.take k))]⟩:=by
 intro κ a w hinv hr ho N Q hN;have r1:=hr x (by simp[h,Op.operands,Call.operands]);rw[hx]at r1;subst hB;have hq:=ho q (.inr (by simp[Up.ws]));rw[cn]at hq;obtain ⟨e0,b',du,cs,T,fr,e1,e2,e3,e4,e5,e6⟩:=hq;rw[e0]at e1;cases e1;obtain ⟨hu,ii,zv,q1,q2,q3,q4,q5⟩:=Ct Γ ht hk;have sf:zv.cells.size=sz:=by rw[←pg,←q5];simp
 have ab:(l.take k).length=k:=by rw[zY];omega
 by_cases ay:m=0
 ·subst ay;have au:(execOp a.eval o).run P w=.ok (.value (.tuple #[])) w:=by
   simp[execOp,h,resolve,invoke,builtin,Builtin.clear_,r1.val,run_underlying hu]
  simp only[Oper.wp,au,Oper.upon];refine hN _ κ w (Step.refl _ κ w) hinv (by simp[Rd,RdL]) (λp hp=>?_);simp only[yA]at hp;subst hp;refine⟨e0,b,cap,cs,T,fr,e0,e2,e3,e4,e5,?_⟩;rintro p z ⟨d7,rfl⟩;rw[wD];exact e6 p (e l[p]) ⟨by omega,E⟩
 obtain ⟨m,rfl⟩:∃p,m=p+1:=⟨m-1,by omega⟩
 rw[zD q_]at r1;obtain ⟨news,fh⟩:∃news,news=(Builtin.zeroCells zv.cells (m+1)).toList:=⟨_,rfl⟩
 have j8:news.length=(m+1)*sz:=by rw[fh,wU,X1,sf]
 have kw:Ones news:=λv hv=>by
  rw[fh,Array.mem_toList_iff]at hv;refine hz1 v ?_;rw[←q5];simp only[Builtin.zeroCells,Array.mem_map,Array.mem_range]at hv;obtain ⟨p,hp,rfl⟩:=hv;have h0:0<zv.cells.size:=by
   rcases uK zv.cells.size with h|h
   ·rw[h]at hp;simp at hp
   ·exact h
  have cz:p%zv.cells.size<zv.cells.size:=tX _ h0;rw[getElem!_pos zv.cells _ cz];exact Array.getElem_mem_toList cz
 have hmul:k*sz+(m+1)*sz≤cap*sz:=by rw[←xI];exact yY sz hm
 obtain ⟨w',f1,f2,f3,f4,f5,f6,f7⟩:=Dn P b (k*sz) T fr news 0 cs w e2 e3 q_ kw;obtain ⟨st,inv⟩:=Uz hinv e0 f3 f4 f5 f6 f7;have au:(execOp a.eval o).run P w=.ok (.value (.tuple #[])) w':=by
  simp[execOp,h,resolve,invoke,builtin,Builtin.clear_,r1.val,run_underlying hu,zeroValue,typeInfo,q1,q4,←fh,f1]
 simp only[Oper.wp,au,Oper.upon];refine hN _ κ w' (st.weaken (λk hk=>by subst hk;simp[Up.ws])) inv (by simp[Rd,RdL]) (λp hp=>?_);simp only[yA]at hp;subst hp;refine⟨e0,b,cap,_,T,fr,e0,f2,by rw[Cm];exact e3,by rw[Cm];exact e4,e5,?_⟩;rintro p z ⟨d7,rfl⟩;have a6:=M5 cs news (k*sz+0);obtain ⟨h0,u,u1,u2,u3,u4⟩:=e6 p (e l[p]) ⟨by omega,rfl⟩;have:(p+1)*sz≤k*sz:=yY sz q_;rw[xI,wI]at this;refine⟨h0,u,?_,u2,u3,λj hj=>?_⟩
 ·rw[wD];exact RdD.keep st.keeps _ _ u1
 ·have gn:k*sz≤cs.length:=by omega
  rw[a6 _ q_,zD q_,u4 j hj]
def G_dat{C:Cx}{kk:List KI}{s:SS}(i q:Nat){sz:Nat}{α:Type}{e:α→SV}{l:List α}(h:s.σ i=.sl sz e l)(hl:l≠[])(hg:∀b off cap,l.length≤cap→G C kk ⟨upd s.σ i (.val (.slice (some ⟨b,off,none⟩) l.length cap)),upd s.h q (.dat (.slice (some ⟨b,off,none⟩) l.length cap) sz e l)⟩):G C kk s:=λκ a w hs=>by
 have h1:=hs.slot i;rw[h]at h1;have zw:=h1;simp only[Rd,RdD]at h1;rcases h1 with ⟨h2,_⟩|⟨b,off,cap,h2,h3,_⟩
 ·exact yB h2 hl
 ·refine hg b off cap h3 κ a w ⟨hs.defers,hs.size,hs.inv,hs.ctx,λj=>?_,λj=>?_⟩
  ·show Rd κ w (upd s.σ i (.val (.slice (some ⟨b,off,none⟩) l.length cap)) j) _;by_cases hj:j=i
   ·subst hj;rw[B1];simp only[Rd];exact h2
   ·rw[Cy _ _ hj];exact hs.slot j
  ·show ObOK κ w j (upd s.h q (.dat (.slice (some ⟨b,off,none⟩) l.length cap) sz e l) j);by_cases hj:j=q
   ·subst hj;rw[B1];rw[h2]at zw;exact zw
   ·rw[Cy _ _ hj];exact hs.obj j
def Ai2{P:Program}(Γ:Ty P){o:Oper}{s:SS}{t:TypeId}{ti:TI}{et:TypeId}{sz eb b off n cap hi:Nat}{ez:List Value}{x hx mx:Operand}{k2 k3:IntKind}(h:o.op=.slice t x none (some hx) (some mx))(ht:Γ.get t=some ti)(hk:ti.k=.slice et sz eb ez)(l6:ev s x=.val (.slice (some ⟨b,off,none⟩) n cap))(ma:ev s hx=.val (.int k2 hi))(hmx:ev s mx=.val (.int k3 hi))(h3:hi≤cap):Good P o s ⟨.val (.slice (some ⟨b,off,none⟩) hi hi),[],[]⟩ :=
 Good.pure λκ a w _ hr _=>by
  have r1:=hr x (by simp[h,Op.operands]);have r3:=hr hx (by simp[h,Op.operands]);have r4:=hr mx (by simp[h,Op.operands]);rw[l6]at r1;rw[ma]at r3;rw[hmx]at r4;obtain ⟨hu,i,zv,q1,q2,q3,q4,q5⟩:=Ct Γ ht hk;have hb:(Instr.sliceBounds true n cap none (some (a.eval hx)) (some (a.eval mx))).run P w=.ok (0,hi,hi) w:=by
   rw[r3.val,r4.val];simp[Instr.sliceBounds,Instr.sliceBound,asIntOf,h3]
  refine⟨.slice (some ⟨b,off,none⟩) hi hi,?_,by simp only[Rd]⟩;by_cases hc:hi=0
  ·subst hc;simp[execOp,h,r1.val,Instr.sliceAt,Instr.slice,run_underlying hu,hb,sizeOf,typeInfo,q1]
  ·simp[execOp,h,r1.val,Instr.sliceAt,Instr.slice,run_underlying hu,hb,sizeOf,typeInfo,q1,q2,hc,Addr.add_lit]
def Ai6{P:Program}(Γ:Ty P){o:Oper}{s:SS}(q:Nat){t:TypeId}{ti:TI}{et:TypeId}{sz eb b off n cap:Nat}{ez:List Value}{x y:Operand}{α:Type}{e:α→SV}{l l':List α}(h:o.op=.call ⟨.builtin .append,#[x,y],#[t,t]⟩)(ht:Γ.get t=some ti)(hk:ti.k=.slice et sz eb ez)(pg:ez.length=sz)(hx:ev s x=.val (.slice (some ⟨b,off,none⟩) n n))(hq:s.h q=.dat (.slice (some ⟨b,off,none⟩) l.length cap) sz e l)(hn:n≤l.length)(hy:ev s y=.sl sz e l')(cx:(n+l'.length)*eb≤140737488355328)(sg:n+l'.length≤9223372036854775807):Good P o s ⟨.sl sz e (l.take n++l'),[q],[]⟩:=by
 intro κ a w hinv hr ho N Q hN;have r1:=hr x (by simp[h,Op.operands,Call.operands]);have r2:=hr y (by simp[h,Op.operands,Call.operands]);rw[hx]at r1;rw[hy]at r2;have ur:=ho q (.inl y_);rw[hq]at ur;have ur:Rd κ w (.sl sz e l) (.slice (some ⟨b,off,none⟩) l.length cap):=ur;obtain ⟨hu,ii,zv,q1,q2,q3,q4,q5⟩:=Ct Γ ht hk;have sf:zv.cells.size=sz:=by rw[←pg,←q5];simp
 have ua:(l.take n).length=n:=by rw[zY];omega
 have cj:Rd κ w (.sl sz e (l.take n)) (.slice (some ⟨b,off,none⟩) n n):=by
  simp only[Rd,RdD]at ur⊢;rcases ur with ⟨h0,_⟩|⟨b2,off2,tc,h2,h3,h4,h5,h6⟩
  ·have eh:n=0:=by rw[h0]at hn;simpa using hn
   subst eh;exact .inl ⟨by simp,_,_,E⟩
  ·cases h2;refine .inr ⟨b,off,n,by rw[ua],by rw[ua];exact yD _,h4,h5,λi hi=>?_⟩;obtain ⟨u,h7,h8⟩:=h6 i q_;exact⟨u,by rw[wD];exact h7,h8⟩
 have hrb:=cj.src;have hru:=r2.src;rw[ua]at hrb;obtain ⟨m,hm⟩:∃m,l'.length=m:=⟨_,rfl⟩
 rw[hm]at hru cx sg;generalize s5:a.eval y=u at *;obtain ⟨ad,c,news,su,j8,wo,oz,wq⟩:∃(a:Option Addr) (c:Nat) (news:List Value),u=.slice a m c∧news.length=m*sz∧Ones news∧(∀W:World,(∀p:Addr,p.block<w.heap.size→W.cell? p=w.cell? p)→(Builtin.firstCells sz m u).run P W=.ok news.toArray W) ∧
   (∀j x,rowF e l' j x→j<m∧∃q:Value,RdD (Own κ) w x q∧q.cells.size=sz∧Ones q.cells.toList∧∀l,l<sz→news[j*sz+l]? = q.cells[l]?):=by
  rcases hru with ⟨rfl,dp,a,c,rfl⟩|⟨b,o,c,news,rfl,h1,h2,h3,h4⟩
  ·refine⟨a,c,[],E,by simp,by simp[Ones],λW _=>?_,λj x h=>yB h (dp j x)⟩;cases a<;>simp[Builtin.firstCells,loadCells,loadCellsFrom]
  ·refine⟨some ⟨b,o,none⟩,c,news,E,h1,h2,λ W hW=>?_,λ j x hx=>h4 j x hx⟩;exact run_firstCells_some (P:=P) W sz m ⟨b,o,none⟩ m c news h1 (λ j q hj=>by
    rw[Addr.add_lit];have h5:=h3 j q hj;rw[hW _ (by exact World.block_lt_of_cell? w _ h5),h5])
 subst su;by_cases ay:m=0
 ·subst ay;have uc:l'=[]:=zX hm;subst uc;have hc:=oz w (λ_ _=>rfl);have hnn:news=[]:=by simpa using j8
  subst hnn;have au:(execOp a.eval o).run P w=.ok (.value (.slice (some ⟨b,off,none⟩) n n)) w:=by
   simp[execOp,h,resolve,invoke,builtin,Builtin.append_,r1.val,s5,run_underlying hu,sizeOf,typeInfo,q1,q2,Builtin.lenOf,hc,storeCells]
  simp only[Oper.wp,au,Oper.upon];refine hN _ κ w (Step.refl _ κ w) hinv ?_ (λp hp=>by cases hp);rw[xM];exact cj
 obtain ⟨cy,ky,zu,pk⟩:∃cy:List Value,cy.length=n*sz∧(∀j x,rowF e (l.take n) j x→j<n→∃q:Value,RdD (Own κ) w x q∧q.cells.size=sz∧Ones q.cells.toList∧∀l,l<sz→cy[j*sz+l]? = q.cells[l]?) ∧
   (Builtin.firstCells sz n (.slice (some ⟨b,off,none⟩) n n)).run P w.drew=.ok cy.toArray w.drew:=by
  rcases hrb with ⟨rfl,dp,_⟩|⟨b2,o2,c2,cy,he,g1,g2,g3,g4⟩
  ·exact⟨[],by simp,λj x _ hj=>yB hj q_,run_firstCells_some (P:=P) w.drew sz 0 ⟨b,off,none⟩ 0 0 [] y_ (λj v hj=>by simp at hj)⟩
  ·cases he;exact⟨cy,g1,λ j x hx _=>(g4 j x hx).2,run_firstCells_some (P:=P) w.drew sz n ⟨b,off,none⟩ n n cy g1 (λ j v hj=>by
    have:=g3 j v hj;rw[Addr.add_lit];simpa using this)⟩
 have jm:n+m≤grownCap w (n+m) n et:=grownCap_ge w (n+m) n et;have o5:¬(281474976710656<Builtin.nextslicecap (n+m) n*ii.bytes):=by
  have:=growslice_fits (need:=n+m) (old:=n) (bytes:=ii.bytes) q_ (by rw[q3];exact cx);omega
 have jo:¬(9223372036854775807<(n:Int)+(m:Int)):=by omega
 have bd:¬n+m≤n:=by omega
 have hc:=oz w.drew (λ_ _=>rfl);obtain ⟨w',uk⟩:∃w',w.drew.alloc (.cells (cy.toArray++news.toArray++Builtin.zeroCells zv.cells (grownCap w (n+m) n et-(n+m))) et)=w':=⟨_,rfl⟩
 have au:(execOp a.eval o).run P w=.ok (.value (.slice (some ⟨w.heap.size,0,none⟩) (n+m) (grownCap w (n+m) n et))) w':=by
  rw[←uk];simp[execOp,h,resolve,invoke,builtin,Builtin.append_,r1.val,s5,run_underlying hu,sizeOf,typeInfo,zeroValue,q4,q1,q2,Builtin.lenOf,jo,o5,Question.forced,pk,hc,newRow,grownCap];rw[zD bd];have ea:∀Z:Array Value,cy.toArray++(news.toArray++Z)=(cy++news).toArray++Z:=λZ=>by apply Array.ext';simp
  rw[ea]
 have g0:Grew w w':=by rw[←uk];exact(Grew.drew w).trans (Grew.alloc _ _)
 obtain ⟨st,inv⟩:=Aby hinv g0;have zp:w'.heap[w.heap.size]? = some (.cells (cy++news++(Builtin.zeroCells zv.cells (grownCap w (n+m) n et-(n+m))).toList).toArray et):=by
  rw[←uk];have:(w.drew.alloc (.cells (cy.toArray++news.toArray++Builtin.zeroCells zv.cells (grownCap w (n+m) n et-(n+m))) et)).heap[w.heap.size]? = some (.cells (cy.toArray++news.toArray++Builtin.zeroCells zv.cells (grownCap w (n+m) n et-(n+m))) et):=heap_alloc_new w.drew _;rw[this];congr 2;apply Array.ext';simp
 have bh:w.heap.size<w'.heap.size:=by rw[←uk];simp
 simp only[Oper.wp,au,Oper.upon];refine hN _ κ w' (st.weaken (λ_ h=>h.elim)) inv ?_ (λp hp=>by cases hp);simp only[Rd,RdD];have hlen:(l.take n++l').length=n+m:=by rw[zQ,ua,hm]
 refine .inr ⟨w.heap.size,0,grownCap w (n+m) n et,by rw[hlen],by rw[hlen];exact jm,?_,bh,λj hj=>?_⟩
 ·rintro (⟨k,hk⟩|hk)
  ·exact Nat.lt_irrefl _ (hinv.bnd k _ hk)
  ·exact Nat.lt_irrefl _ (hinv.mbnd _ hk)
 ·rw[hlen]at hj;by_cases qx:j<n
  ·obtain ⟨qv,g1,g2,g3,g4⟩:=zu j (e (l.take n)[j]) ⟨by omega,rfl⟩ qx;refine⟨qv,by rw[yU q_];exact RdD.keep st.keeps _ _ g1,g2,g3,λp hp=>?_⟩;have:(j+1)*sz≤n*sz:=yY sz q_;rw[xI,wI]at this;rw[cell_of_row w' _ _ _ et (0,0) zp,uS,xD,xR q_,wH];exact g4 p hp
  ·obtain ⟨_,qv,g1,g2,g3,g4⟩:=wq (j-n) (e (l'[j-n]'q_)) ⟨by omega,rfl⟩;refine⟨qv,?_,g2,g3,λp hp=>?_⟩
   ·rw[xO q_];simp only[ua];exact RdD.keep st.keeps _ _ g1
   ·have e1:j*sz=n*sz+(j-n)*sz:=by rw[←xI];congr 1;omega
    have:(j-n+1)*sz≤m*sz:=yY sz q_;rw[xI,wI]at this;rw[cell_of_row w' _ _ _ et (0,0) zp,uS,xD,wA q_,xR q_,←g4 p hp];congr 1;omega
def Ads{P:Program}{o:Oper}{s:SS}(q:Nat){sz:Nat}{α:Type}{e:α→SV}{l:List α}{v:Value}{x:Operand}(h:o.op=.move x∨o.op=.assign x)(hx:ev s x=.val v)(hq:s.h q=.dat v sz e l):Good P o s ⟨.sl sz e l,[q],[]⟩ :=
 Good.pure λκ a w _ hr ho=>by
  have ur:=ho q y_;rw[hq]at ur;have i7:=hr x (by rcases h with h|h<;>simp[h,Op.operands]);rw[hx]at i7;refine⟨a.eval x,?_,?_⟩
  ·rcases h with h|h<;>simp[execOp,h]
  ·rw[i7.val];exact ur
def Ahh{f g:Nat→Option (Nat×Nat)}:∀(ps:List (Nat×Value)) (cs:Array Value),(∀p∈ps,f p.1=g p.1)→Instr.fill f cs ps=Instr.fill g cs ps
 |[],cs,_=>rfl
 |(i,v)::ps,cs,h=>by
  have h1:=h (i,v) y_;simp only[Instr.fill];dsimp only at h1;rw[h1];cases g i with
  |none=>rfl
  |some os=>
   dsimp only;split
   ·rfl
   ·exact Ahh ps _ (λp hp=>h p (by simp[hp]))
def V1{P:Program}(Γ:Ty P){o:Oper}{s:SS}{t et:TypeId}{ti:TI}{len esz:Nat}{ps:List (Nat×Operand)}{out:List SV}(h:o.op=.build t ps.toArray)(ht:Γ.get t=some ti)(hk:ti.k=.array et len esz)(h1:Adf ti.zero=true)(oc:(ps.all λp=>Nat.blt p.1 len)=true)(hf:Ahi ((List.range len).map λi=>(i*esz,esz)) (ti.zero.map .val) (ps.map λp=>(p.1,ev s p.2))=some out):Good P o s ⟨.agg out,[],[]⟩ :=
 Good.pure λκ a w _ hr _=>by
  obtain ⟨d,info,z,k1,k2,k3,k4,k5,k6⟩:=Γ.ok t ti ht;obtain ⟨hu,i,q1,q2⟩:=Wf Γ ht hk;have hops:∀ p∈ps,Rd κ w (ev s p.2) (a.eval p.2):=λ p hp=>hr p.2 (by
   simp only[h,Op.operands];simp only[List.mem_toArray,yS];exact⟨p,hp,E⟩)
  obtain ⟨r,r1,r2,r3⟩:=Am6 (κ:=κ) (w:=w) (a:=a) ps _ out z.cells (by rw[k6];exact Abi _) (by rw[k6];exact Vm h1) hops hf;refine⟨.agg r,?_,?_⟩
  ·have hcg:=Ahh (f:=λ i=>some (i * esz,esz)) (g:=λ i=>((List.range len).map λ i=>(i * esz,esz))[i]?) (ps.map λ p=>(p.1,a.eval p.2)) z.cells (λ p hp=>by
    obtain ⟨x,hx,rfl⟩:=yS.1 hp;have ab:x.1<len:=xX (yV.1 oc x hx);dsimp only;rw[vN,uD ab];rfl)
   simp only[execOp,h,Sem.run_bind,Instr.build,zeroValue,typeInfo,run_program,Result.andThen_ok,k3,k5,Sem.run_pure,run_underlying hu,sizeOf,q1,q2,List.map_toArray];rw[hcg,r1];simp
  ·simp only[Rd];exact⟨r.toList,by simp,r3,r2⟩
mutual
def rnb(k d:Nat):SV→SV
 | .ptr j o=>bif Nat.beq j k then .ptr d o else .ptr j o
 | .agg l=>.agg (Afv k d l)
 | .tup l=>.tup (Afv k d l)
 | .ifc t y=>.ifc t (rnb k d y)
 | .clo f g l=>.clo f (Afv k d g) (Afv k d l)
 |y=>y
def Afv(k d:Nat):List SV→List SV
 |[]=>[]
 |y::l=>rnb k d y::Afv k d l
end
mutual
theorem Ata{κ κ':Ka}{w:World}{K:Nat→Prop}{k d:Nat}(st:Step K κ w κ' w)(hx:∀o v,Rd κ w (.ptr k o) v→Rd κ' w (.ptr d o) v):∀(y:SV) (v:Value),Rd κ w y v→Rd κ' w (rnb k d y) v
 | .ptr j o,v,h=>by
  unfold rnb;by_cases hk:j=k
  ·subst hk;rw[show Nat.beq j j=true from tN j];exact hx o v h
  ·rw[show Nat.beq j k=false from by cases hb:Nat.beq j k with|false=>rfl|true=>exact yB (yJ hb) hk];exact Rd.step st _ _ h
 | .agg l,v,h=>by
  simp only[Rd]at h;unfold rnb;simp only[Rd];obtain ⟨cs,h1,h2,h3⟩:=h;exact⟨cs,h1,h2,Tb st hx l cs h3⟩
 | .tup l,v,h=>by
  simp only[Rd]at h;unfold rnb;simp only[Rd];obtain ⟨cs,h1,h3⟩:=h;exact⟨cs,h1,Tb st hx l cs h3⟩
 | .ifc t y,v,h=>by
  simp only[Rd]at h;unfold rnb;simp only[Rd];obtain ⟨u,h1,h3⟩:=h;exact⟨u,h1,Ata st hx y u h3⟩
 | .clo f g l,v,h=>by
  simp only[Rd]at h;unfold rnb;simp only[Rd];obtain ⟨fs,cs,h1,h2,h3⟩:=h;exact⟨fs,cs,h1,Tb st hx g fs h2,Tb st hx l cs h3⟩
 | .top,v,h=>by unfold rnb;exact Rd.step st _ _ h
 | .val u,v,h=>by unfold rnb;exact Rd.step st _ _ h
 | .sl sz e l,v,h=>by unfold rnb;exact Rd.step st _ _ h
 | .ref sz z o,v,h=>by unfold rnb;exact Rd.step st _ _ h
 | .rpt k sz i o,v,h=>by unfold rnb;exact Rd.step st _ _ h
 | .osl k,v,h=>by unfold rnb;exact Rd.step st _ _ h
theorem Tb{κ κ':Ka}{w:World}{K:Nat→Prop}{k d:Nat}(st:Step K κ w κ' w)(hx:∀o v,Rd κ w (.ptr k o) v→Rd κ' w (.ptr d o) v):∀(l:List SV) (vs:List Value),RdL κ w l vs→RdL κ' w (Afv k d l) vs
 |[],vs,h=>by
  unfold Afv;simpa [RdL] using h
 |y::l,vs,h=>by
  simp only[RdL]at h;unfold Afv;simp only[RdL];obtain ⟨v,r,h1,h2,h3⟩:=h;exact⟨v,r,h1,Ata st hx y v h2,Tb st hx l r h3⟩
end
def rnbO(k d:Nat):Ob→Ob
 | .box l=>.box (Afv k d l)
 |o=>o
def Asu{κ:Ka}{w:World}{k d b:Nat}(hi:Inv κ w)(hk:κ k=.blk b)(hd:κ d=.new):Step (λj=>j=k∨j=d) κ w (Ei (Ei κ k .dead) d (.blk b)) w∧Inv (Ei (Ei κ k .dead) d (.blk b)) w:=by
 have cd:k≠d:=λe=>by subst e;rw[hk]at hd;cases hd
 have jx:(κ k).block? = some b:=by rw[hk];rfl
 have key:∀j c,((Ei (Ei κ k .dead) d (.blk b)) j).block? = some c→(j=d∧c=b)∨(j≠d∧j≠k∧(κ j).block? = some c):=by
  intro j c h;by_cases hj:j=d
  ·subst hj;rw[Ay]at h;exact .inl ⟨rfl,by simpa [Ent.block?] using h.symm⟩
  ·rw[Cd _ _ hj]at h;by_cases an:j=k
   ·subst an;rw[Ay]at h;cases h
   ·rw[Cd _ _ an]at h;exact .inr ⟨hj,an,h⟩
 refine⟨⟨yD _,E,E,E,E,λ_ _=>rfl,λ_ _ _=>rfl,λ_ _ _ _=>rfl,λj hj=>?_,?_,?_⟩,⟨?_,?_,?_,λc h=>hi.mbnd c h⟩⟩
 ·rw[Cd _ _ (λe=>hj (.inr e)),Cd _ _ (λe=>hj (.inl e))]
 ·rintro j (rfl|rfl)
  ·exact .inr (.inr (by rw[Cd _ _ cd,Ay]))
  ·exact .inl hd
 ·rintro c (⟨j,hj⟩|hj)
  ·rcases key j c hj with ⟨_,rfl⟩|⟨_,_,h⟩
   ·exact .inl (.inl ⟨k,jx⟩)
   ·exact .inl (.inl ⟨j,h⟩)
  ·exact .inl (.inr hj)
 ·intro i j c h1 h2;rcases key i c h1 with ⟨a1,a2⟩|⟨a1,a2,a3⟩<;>rcases key j c h2 with ⟨b1,b2⟩|⟨b1,b2,b3⟩
  ·exact a1.trans b1.symm
  ·subst a2;exact yB (hi.inj j k _ b3 jx) b2
  ·subst b2;exact yB (hi.inj i k _ a3 jx) a2
  ·exact hi.inj i j c a3 b3
 ·intro j c h;rcases key j c h with ⟨_,rfl⟩|⟨_,_,h⟩
  ·exact hi.bnd k _ jx
  ·exact hi.bnd j c h
 ·intro j c h;rcases key j c h with ⟨_,rfl⟩|⟨_,_,h⟩
  ·exact hi.apart k _ jx
  ·exact hi.apart j c h
def M3{C:Cx}{kk:List KI}{s:SS}(k d:Nat){l:List SV}(h:s.h k=.box l)(hd:s.h d=.fresh)(cd:k≠d)(hg:G C kk ⟨λi=>rnb k d (s.σ i),upd (λj=>bif Nat.beq j k then .non else rnbO k d (s.h j)) d (.box (Afv k d l))⟩):G C kk s:=λκ a w hs=>by
 have cn:=hs.obj k;rw[h]at cn;have az:κ d=.new:=by have:=hs.obj d;rwa [hd]at this
 obtain ⟨b,cs,T,fr,e1,e2,e3,e4,e5⟩:=cn;obtain ⟨st,inv⟩:=Asu hs.inv e1 az;have af:∀j,j≠k→j≠d→(Ei (Ei κ k .dead) d (.blk b)) j=κ j:=λj h1 h2=>by rw[Cd _ _ h2,Cd _ _ h1]
 have hv:∀o v,Rd κ w (.ptr k o) v→Rd (Ei (Ei κ k .dead) d (.blk b)) w (.ptr d o) v:=λo v hv=>by
  simp only[Rd,e1]at hv;simp only[Rd,Ay];exact hv
 refine hg _ a w ⟨hs.defers,hs.size,inv,hs.ctx.step inv st,λj=>Ata st hv _ _ (hs.slot j),λj=>?_⟩;show ObOK _ w j (upd (λj=>bif Nat.beq j k then .non else rnbO k d (s.h j)) d (.box (Afv k d l)) j);by_cases hj:j=d
 ·subst hj;rw[B1];exact⟨b,cs,T,fr,Ay _ _ _,e2,e3,e4,Tb st hv l cs e5⟩
 ·rw[Cy _ _ hj];by_cases an:j=k
  ·subst an;rw[show Nat.beq j j=true from tN j];trivial
  ·rw[show Nat.beq j k=false from by cases hb:Nat.beq j k with|false=>rfl|true=>exact yB (yJ hb) an];have hb:=ObOK.step st (λe=>e.elim an hj) _ (hs.obj j);have h0:=hs.obj j;show ObOK _ w j (rnbO k d (s.h j));cases hh:s.h j with
   |box m=>
    rw[hh]at h0 hb;obtain ⟨b2,xc,T2,zb,f1,f2,f3,f4,f5⟩:=h0;exact⟨b2,xc,T2,zb,(af j an hj).trans f1,f2,f3,f4,Tb st hv m xc f5⟩
   |fresh=>rw[hh]at hb;exact hb
   |non=>rw[hh]at hb;exact hb
   |row dy e' l'=>rw[hh]at hb;exact hb
   |lit dy svs=>rw[hh]at hb;exact hb
   |glob dy x' g'=>rw[hh]at hb;exact hb
   |pin b' n' du dy e' l'=>rw[hh]at hb;exact hb
   |dat v' dy e' l'=>rw[hh]at hb;exact hb
   |trow T' m'=>rw[hh]at hb;exact hb
   |rown dy e' l' i' za=>rw[hh]at hb;exact hb
   |tbox T' m'=>rw[hh]at hb;exact hb
theorem VwL.get{s:SS}{V:List Nat}:∀{l m:List SV} (_:VwL s V l m) {i:Nat} {y:SV},Ih m i=some y→∃x,Ih l i=some x∧Vw s V x y
 |_,_,.nil,i,y,h=>by cases i<;>simp[Ih]at h
 |_,_,.cons (x:=x) h0 hs,0,y,h=>by
  simp only[Ih,Option.some.injEq]at h;subst h;exact⟨x,E,h0⟩
 |_,_,.cons h0 hs,i+1,y,h=>VwL.get hs (i:=i) h
theorem VwL.len{s:SS}{V:List Nat}:∀{l m:List SV} (_:VwL s V l m),m.length=l.length
 |_,_,.nil=>rfl
 |_,_,.cons _ hs=>by simp[VwL.len hs]
def Ak2:∀{l:List SV} {i:Nat} {x:SV},Ss l=true→Ih l i=some x→x.data=true
 |[],i,x,_,h=>by cases i<;>simp[Ih]at h
 |y::l,0,x,hd,h=>by
  simp only[Ih,Option.some.injEq]at h;subst h;simp only[Ss,zG]at hd;exact hd.1
 |y::l,i+1,x,hd,h=>by
  simp only[Ss,zG]at hd;exact Ak2 hd.2 (i:=i) h
def A5x{C:Cx}{k:List KI}{s:SS}(d:Nat){sz:Nat}{svs:List SV}(tl:List SV)(h:s.h d=.lit sz svs)(hv:VwL s [] svs tl)(hd:Ss tl=true)(hg:G C k ⟨s.σ,upd s.h d (.lit sz tl)⟩):G C k s:=λκ a w hs=>by
 refine hg κ a w ⟨hs.defers,hs.size,hs.inv,hs.ctx,hs.slot,λj=>?_⟩;show ObOK κ w j (upd s.h d (.lit sz tl) j);by_cases hj:j=d
 ·subst hj;rw[B1];have cn:=hs.obj j;rw[h]at cn;have hlen:=hv.len;obtain ⟨b,cap,cs,T,fr,e1,e2,e3,e4,e5,e6⟩:=cn;refine⟨b,cap,cs,T,fr,by rw[hlen];exact e1,e2,e3,e4,by omega,λi x hx=>?_⟩;obtain ⟨y,hy,hvw⟩:=hv.get hx;obtain ⟨f1,u,f2,f3⟩:=e6 i y hy;exact⟨by omega,u,Rd.data _ _ (Ak2 hd hx) (hvw.rd hs.inv (λn hn=>by cases hn) f2.toRd),f3⟩
 ·rw[Cy _ _ hj];exact hs.obj j
theorem RdL.setI{κ:Ka}{w:World}{x:SV}{v:Value}(hx:Rd κ w x v):∀{l:List SV} {cs:List Value} (i:Nat),RdL κ w l cs→RdL κ w (l.set i x) (cs.set i v)
 |[],cs,i,h=>by simp only[RdL]at h;subst h;simp[RdL]
 |y::l,cs,0,h=>by
  simp only[RdL]at h;obtain ⟨u,r,rfl,h1,h2⟩:=h;simp only[uR,RdL];exact⟨v,r,E,hx,h2⟩
 |y::l,cs,i+1,h=>by
  simp only[RdL]at h;obtain ⟨u,r,rfl,h1,h2⟩:=h;simp only[List.set_cons_succ,RdL];exact⟨u,_,E,h1,h2.setI hx i⟩
def D6{κ:Ka}{w:World}{k:Nat}{l:List SV}(hi:Inv κ w)(h:ObOK κ w k (.box l)){off:Nat}{x:SV}{v:Value}(_hx:x.plain=true)(hv:∀κ w,Rd κ w x v)(h1:v.oneCell'=true):∃b,κ k=.blk b∧(∀j y,Ih l j=some y→∃u,w.cell? ⟨b,j,none⟩=some u∧Rd κ w y u)∧(∀j,j<l.length→w.frozen? ⟨b,j,none⟩=false) ∧
   Step (·=k) κ w κ (w.setCell ⟨b,off,none⟩ v)∧Inv κ (w.setCell ⟨b,off,none⟩ v)∧ObOK κ (w.setCell ⟨b,off,none⟩ v) k (.box (l.set off x)):=by
 obtain ⟨b,cs,T,fr,e1,e2,e3,e4,e5⟩:=h;have gk:(w.setCell ⟨b,off,none⟩ v).heap[b]? = some (.cells (cs.set off v).toArray T fr):=by
  simp[World.setCell,tT,e2]
 have hoth:∀j,j≠b→(w.setCell ⟨b,off,none⟩ v).heap[j]? = w.heap[j]?:=λj hj=>heap_setCell_other w ⟨b,off,none⟩ j v hj
 obtain ⟨st,inv⟩:=M4 (w':=w.setCell ⟨b,off,none⟩ v) hi (k:=k) (b:=b) (by rw[e1];rfl) rfl rfl rfl y_ hoth;have hlen:=e5.length;refine⟨b,e1,λj y hy=>?_,λj hj=>?_,st,inv,b,_,T,fr,e1,gk,by rw[yP];exact e3,?_,(RdL.step st _ _ e5).setI (hv _ _) off⟩
 ·obtain ⟨u,hu,hr⟩:=e5.get hy;exact⟨u,by rw[cell_of_row w b j cs.toArray T fr e2,uS];exact hu,hr⟩
 ·obtain ⟨lo,hi'⟩:=fr;simp only[World.frozen?,e2];rcases e3 with h|h
  ·simp only at h;subst h;simp
  ·simp only at h;simp;omega
 ·intro c hc;rcases uU hc with h|h
  ·exact e4 c h
  ·rw[h];exact h1
def X6{P:Program}{o:Oper}{s:SS}{f:FuncId}{ik:IntKind}{ts:Array TypeId}{x:Operand}{k off:Nat}{l:List SV}{v:Int}(hf:∀(a:Addr) (x:Int) (w:World),w.cell? a=some (.int ik x)→(callFunc f #[.pointer (some a)]).run P w=.ok (.value (.int ik x)) w)(h:o.op=.call ⟨.value (.func f),#[x],ts⟩)(hx:ev s x=.ptr k off)(hk:s.h k=.box l)(hy:Ih l off=some (.val (.int ik v))):Good P o s ⟨.val (.int ik v),[k],[]⟩ :=
 Good.pure λκ a w hi hr ho=>by
  have h1:=hr x (by simp[h,Op.operands,Call.operands]);rw[hx]at h1;have h2:=ho k y_;rw[hk]at h2;obtain ⟨b,cs,T,fr,e1,e2,e3,e4,e5⟩:=h2;simp only[Rd,e1]at h1;obtain ⟨u,hu,py⟩:=e5.get hy;have hc:w.cell? ⟨b,off,none⟩=some (.int ik v):=by rw[cell_of_row w b off cs.toArray T fr e2,uS,hu,py.val]
  have au:=hf ⟨b,off,none⟩ v w hc;refine⟨.int ik v,?_,by simp only[Rd]⟩;have s8:a.eval (.func f)=.func (.func f) #[] #[]:=rfl;simp[execOp,h,resolve,s8,Deferred.ofValue,invoke,h1,au]
def Amz{P:Program}{o:Oper}{s:SS}{f:FuncId}{ts:Array TypeId}{x y:Operand}{k off:Nat}{l:List SV}{v d:Int}(hf:∀(a:Addr) (x y:Int) (w:World),w.cell? a=some (.int .i64 x)→w.frozen? a=false→(callFunc f #[.pointer (some a),.int .i64 y]).run P w=.ok (.value (.int .i64 (IntKind.i64.wrap (x+y)))) (w.setCell a (.int .i64 (IntKind.i64.wrap (x+y)))))(h:o.op=.call ⟨.value (.func f),#[x,y],ts⟩)(hx:ev s x=.ptr k off)(hy:ev s y=.val (.int .i64 d))(hk:s.h k=.box l)(hl:Ih l off=some (.val (.int .i64 v)))(hv:IntKind.i64.wrap (v+d)=v+d):Good P o s ⟨.val (.int .i64 (v+d)),[],[(k,.box (l.set off (.val (.int .i64 (v+d)))))]⟩:=by
 intro κ a w hi hr ho N Q hN;have h1:=hr x (by simp[h,Op.operands,Call.operands]);have h2:=hr y (by simp[h,Op.operands,Call.operands]);rw[hx]at h1;rw[hy]at h2;have h3:=ho k (.inr (by simp[Up.ws]));rw[hk]at h3;obtain ⟨b,e1,c1,c2,st,inv,ob⟩:=D6 (off:=off) (x:=.val (.int .i64 (v+d))) (v:=.int .i64 (v+d)) hi h3 rfl (λ_ _=>by simp only[Rd]) rfl;simp only[Rd,e1]at h1;obtain ⟨u,hu,py⟩:=c1 off _ hl;rw[py.val]at hu;have au:=hf ⟨b,off,none⟩ v d w hu (c2 off (Aex hl));rw[hv]at au;have zq:(execOp a.eval o).run P w=.ok (.value (.int .i64 (v+d))) (w.setCell ⟨b,off,none⟩ (.int .i64 (v+d))):=by
  have s8:a.eval (.func f)=.func (.func f) #[] #[]:=rfl;simp[execOp,h,resolve,s8,Deferred.ofValue,invoke,h1,h2.val,au]
 simp only[Oper.wp,zq,Oper.upon];refine hN _ κ _ (st.weaken (by simp[Up.ws])) inv (by simp only[Rd]) (λp hp=>?_);simp only[yA]at hp;subst hp;exact ob
def X7{P:Program}(Γ:Ty P){o:Oper}{s:SS}(q:Nat){t:TypeId}{ti:TI}{et:TypeId}{eb b n cap lo k c1 c2:Nat}{ez:List Value}{x y:Operand}{α:Type}{e:α→SV}{l:List α}{B B2:Option Addr}(h:o.op=.call ⟨.builtin .copy,#[x,y],#[t,t]⟩)(ht:Γ.get t=some ti)(hk:ti.k=.slice et 1 eb ez)(hx:ev s x=.val (.slice B (n-lo) c1))(hB:B=some ⟨b,lo,none⟩)(hy:ev s y=.val (.slice B2 k c2))(hB2:B2=some ⟨b,0,none⟩)(hq:s.h q=.pin b n cap 1 e l)(hl:l.length=n)(cq:k≤n)(d6:0<min k (n-lo)):Good P o s ⟨.val (.int .i64 (min k (n-lo):Nat)),[],[(q,.pin b n cap 1 e (l.take lo++l.take (min k (n-lo))++l.drop (lo+min k (n-lo))))]⟩:=by
 intro κ a w hinv hr ho N Q hN;have r1:=hr x (by simp[h,Op.operands,Call.operands]);have r2:=hr y (by simp[h,Op.operands,Call.operands]);rw[hx]at r1;rw[hy]at r2;subst hB;subst hB2;have cn:=ho q (.inr (by simp[Up.ws]));rw[hq]at cn;obtain ⟨e0,b',du,cs,T,fr,e1,e2,e3,e4,e5,e6⟩:=cn;rw[e0]at e1;cases e1;obtain ⟨hu,ii,zv,q1,q2,q3,q4,q5⟩:=Ct Γ ht hk;obtain ⟨mn,xx⟩:∃mn,min k (n-lo)=mn:=⟨_,rfl⟩
 rw[xx]at d6 hN;have oz:n≤cs.length:=by omega
 have df:∀i,i<n→∃u:Value,u.cells.size=1∧Ones u.cells.toList∧∀j,j<1→cs[i*1+j]? = u.cells[j]?:=λi hi=>by
  obtain ⟨_,u,_,u2⟩:=e6 i (e l[i]) ⟨by omega,rfl⟩;exact⟨u,u2⟩
 obtain ⟨news,fh⟩:∃news,news=cs.take mn:=⟨_,rfl⟩
 have j8:news.length=mn:=by rw[fh,zY];omega
 have bg:∀p,p<mn→news[p]? = cs[p]?:=λp hp=>by rw[fh,vW,zE hp]
 have kw:Ones news:=λv hv=>by
  obtain ⟨p,hp,he⟩:=vM hv;have h1:news[p]? = some v:=by rw[zU hp,he]
  rw[j8]at hp;rw[bg p hp]at h1;exact Aoq (n:=n) df q_ h1
 obtain ⟨w',f1,f2,f3,f4,f5,f6,f7⟩:=Dn P b lo T fr news 0 cs w e2 e3 q_ kw;obtain ⟨st,inv⟩:=Uz hinv e0 f3 f4 f5 f6 f7;have gi:∀p v,cs[p]? = some v→w.cell? ⟨b,p,none⟩=some v:=λp v hp=>by simp[World.cell?,e2,hp]
 have hc:=Ak5 (P:=P) w w' t t o.type et ⟨b,lo,none⟩ ⟨b,0,none⟩ (n-lo) c1 k c2 news hu q1 q2 (by rw[j8,xx]) (λ j v hv=>by
  rw[Addr.add_lit];have ab:j<mn:=by rw[←j8];exact(List.getElem?_eq_some_iff.1 hv).1
  rw[bg j ab]at hv;rw[wH];exact gi _ _ hv) f1
 rw[j8]at hc;have au:(execOp a.eval o).run P w=.ok (.value (.int .i64 (mn:Nat))) w':=by
  simp[execOp,h,resolve,invoke,builtin,r1.val,r2.val,hc]
 simp only[Oper.wp,au,Oper.upon];refine hN _ κ w' (st.weaken (λk hk=>by subst hk;simp[Up.ws])) inv (by simp only[Rd]) (λp hp=>?_);simp only[yA]at hp;subst hp;refine⟨e0,b,cap,_,T,fr,e0,f2,by rw[Cm];exact e3,by rw[Cm];exact e4,e5,?_⟩;rintro i z ⟨dg,rfl⟩;have a6:=M5 cs news (lo+0);have hlen:(l.take lo++l.take mn++l.drop (lo+mn)).length=n:=by
  simp only[zQ,zY,yQ];omega
 rw[hlen]at dg;have src:∀j (hj:j<l.length),∃u:Value,RdD (Own κ) w (e l[j]) u∧u.cells.size=1∧Ones u.cells.toList∧∀p,p<1→cs[j*1+p]? = u.cells[p]?:=λj hj=>(e6 j (e l[j]) ⟨hj,rfl⟩).2
 by_cases sq:i<lo
 ·obtain ⟨u,u1,u2,u3,u4⟩:=src i q_;refine⟨dg,u,?_,u2,u3,λp hp=>?_⟩
  ·have:(l.take lo++l.take mn++l.drop (lo+mn))[i]'(by rw[hlen];exact dg)=l[i]'q_:=by
    rw[yU (by simp only[zQ,zY];omega),yU (by simp only[zY];omega),wD]
   rw[this];exact RdD.keep st.keeps _ _ u1
  ·rw[a6 _ q_,zD q_,u4 p hp]
 ·by_cases kg:i<lo+mn
  ·obtain ⟨u,u1,u2,u3,u4⟩:=src (i-lo) q_;refine⟨dg,u,?_,u2,u3,λp hp=>?_⟩
   ·have:(l.take lo++l.take mn++l.drop (lo+mn))[i]'(by rw[hlen];exact dg)=l[i-lo]'q_:=by
     rw[yU (by simp only[zQ,zY];omega),xO (by simp only[zY];omega),wD];congr 1;simp only[zY];omega
    rw[this];exact RdD.keep st.keeps _ _ u1
   ·rw[a6 _ q_,zE q_,bg _ q_,←u4 p hp];congr 1;omega
  ·obtain ⟨u,u1,u2,u3,u4⟩:=src i q_;refine⟨dg,u,?_,u2,u3,λp hp=>?_⟩
   ·have:(l.take lo++l.take mn++l.drop (lo+mn))[i]'(by rw[hlen];exact dg)=l[i]'q_:=by
     rw[xO (by simp only[zQ,zY];omega),vQ];congr 1;simp only[zQ,zY];omega
    rw[this];exact RdD.keep st.keeps _ _ u1
   ·rw[a6 _ q_,zD q_,u4 p hp]
theorem Ctx.onward{F:Fr}{κ κ2:Ka}{w w2:World}{ds:List Deferred}(c:Ctx F κ w)(c2:Ctx ⟨w,κ,ds⟩ κ2 w2):Ctx F κ2 w2 where
 size:=wN c.size c2.size
 os:=c2.os.trans c.os
 tape:=c2.tape.trans c.tape
 output:=c2.output.trans c.output
 M:=c2.M.trans c.M
 old b hb h:=by
  refine(c2.old b (yW hb c.size) (λk hk=>?_)).trans (c.old b hb h);rcases c.own k b hk with h1|⟨j,h1⟩
  ·exact yB hb (Nat.not_lt.2 h1)
  ·exact h j h1
 own k b hk:=by
  rcases c2.own k b hk with h|⟨j,h⟩
  ·exact .inl (wN c.size h)
  ·exact c.own j b h
 nam k hk:=by
  have hn:∀x,κ k=x→x≠.new→κ2 k=x∨κ2 k=.dead:=λx hx af=>by
   have h:κ2 k=κ k∨κ2 k=.dead:=c2.nam k (by show κ k≠.new;rw[hx];exact af);rw[hx]at h;exact h
  rcases c.nam k hk with h|h
  ·exact hn _ h hk
  ·rcases hn _ h (by intro e;cases e) with h2|h2
   ·exact .inr h2
   ·exact .inr h2
def Axn(P:Program)(fn:Func)(F:Fr)(R:SV)(H':Obs):Exit→Act→World→Prop :=
 bodyPostD P fn λe w'=>∃v κ',e=.returned v∧Ctx F κ' w'∧Inv κ' w'∧Rd κ' w' R v∧H'.ok κ' w'
def Asx{P:Program}(Γ:Ty P){f:FuncId}{fn:Func}{c:Code}{A:List SV}{H:Obs}{R:SV}{H':Obs}(hf:P.funcs[f]? = some fn)(hb:fn.body=some c){n:Nat}(mc:fn.ntmps=n)(hn:A.length≤n)(h:∀(F:Fr) (hF:∀k,F.k0 k≠.new→k∈H.keys),F.ds=[]→G ⟨P,Γ,F,n,Axn P fn F R H',H.keys,hF⟩ [.code c] ⟨argσ A,mkh H⟩):Spec P f A H R H':=by
 subst mc;intro κ w vs hi az hA hH;refine calls_of_wp_defers hf hb ?_;have hlen:=hA.length;refine h ⟨w,κ,[]⟩ az E κ _ w ⟨E,?_,hi,Ctx.refl κ w,?_,?_⟩
 ·simp;omega
 ·intro i;have:=hA.getD (fn.ntmps-vs.length) i;have he:(vs.toArray++Array.replicate (fn.ntmps-vs.length) undef)=(vs++List.replicate (fn.ntmps-vs.length) undef).toArray:=by simp
  show Rd κ w _ ((vs.toArray++Array.replicate (fn.ntmps-vs.toArray.size) undef).getD i undef);rw[uW,he];simpa using this
 ·intro k;exact At4 hH (λhk=>Classical.byContradiction λaf=>hk (az k af))
def A0x{P:Program}(Γ:TyE P)(hm:P.follows .mixedOrders=true)(N:Nat){f:FuncId}{fn:Func}{c:Code}{A:List SV}{H:Obs}{R:SV}{H':Obs}(hF:Fun P f fn c){n:Nat}(mc:fn.ntmps=n)(hn:Ap5 A n=true)(h:∀(F:Fr) (hF:∀k,F.k0 k≠.new→k∈H.keys),F.ds=[]→O9 ⟨P,Γ.toTy,F,n,Axn P fn F R H',H.keys,hF⟩ Γ N [.code c] ⟨argσ A,mkh H⟩):Sy.Spec P f A H R H' :=
 Asx Γ.toTy hF.1 hF.2 mc (Agn hn) λF hF h0=>run Γ hm N (h F hF h0)
def A76{C:Cx}{k:List KI}{s:SS}{all:Array Oper}{o:Oper}{rest:List Oper}{x:Operand}{ts:Array TypeId}{g:FuncId}{cap:List SV}(h:o.op=.defer ⟨.value x,#[],ts⟩)(hx:ev s x=.clo (.func g) [] cap)(hd:o.dst=none)(hw:Ew C.n all o s=some true)(h0:C.F.ds=[])(bn:List Nat)(hbn:∀j,j∉bn→s.h j=.fresh)(hg:∀(F:Fr) (hF:∀j,F.k0 j≠.new→j∈bn) (cv:List Value),F.ds=[⟨.fn (.func g) cv.toArray,#[]⟩]→RdL F.k0 F.w0 cap cv→(∀κ w,Ctx F κ w→Ctx C.F κ w)→G ⟨C.P,C.Γ,F,C.n,C.B,bn,hF⟩ (.ops all rest::k) s):G C (.ops all (o::rest)::k) s:=by
 intro κ a w hs;refine wpList_step λK hK=>?_
 rw[zE (Wn hs (Ex hw).2 (Ex hw).1)];have hr:=hs.ev x;rw[hx]at hr;simp only[Rd]at hr;obtain ⟨fs,cs,hv,ss,nj⟩:=hr;simp only[RdL]at ss;subst ss;have hF:∀ j,κ j≠.new→j∈bn:=λ j hj=>Classical.byContradiction λ hn=>hj (by
  have:=hs.obj j;rw[hbn j hn]at this;exact this)
 have au:(execOp a.eval o).run C.P w=.ok (.defer ⟨.fn (.func g) cs.toArray,#[]⟩) w:=by
  simp[execOp,h,resolve,Deferred.ofValue,hv]
 show o.upon C.P a K _ ((execOp a.eval o).run C.P w);rw[au,Oper.upon_defer,hd];refine hK _ _ (hg ⟨w,κ,[⟨.fn (.func g) cs.toArray,#[]⟩]⟩ hF cs rfl nj (λκ2 w2 c2=>hs.ctx.onward c2) κ {a with defers:=_::a.defers} w ⟨?_,hs.size,hs.inv,?_,hs.slot,hs.obj⟩)
 ·show _::a.defers=_;rw[hs.defers,h0]
 ·have:=Ctx.refl κ w;exact⟨this.size,this.os,this.tape,this.output,this.M,this.old,this.own,this.nam⟩
end Go.Sy
namespace Go.Sy.YtolnneiipmfgaaaGreatDoor
open Go.Proofs Go.Proofs.Tryz
attribute [local irreducible] Go.Sy.G Go.Sy.DR
set_option maxRecDepth 100000
set_option maxHeartbeats 4000000
def Aik(ae al:Addr)(e:Int)(x:Value)(u:FrameMode)(w:World)(he:w.cell? ae=some (.int .i64 e))(hl:w.cell? al=some x)(hz:w.frozen? al=false):CallsD prog 33 #[.pointer (some ae),.pointer (some al)] u w λr u' w'=>u'=u∧(r=.returned (.tuple #[])∧w'=if e=0 then w else w.setCell al (.slice none 0 0)):=by
 by_cases h:e=0
 ·subst h
  go_enter_d func33,ntmps33
  go_wp2
  go_end0
  exact⟨E,by simp⟩
 ·rw[zD h]
  go_enter_d func33,ntmps33
  go_wp2
  go_end0
  exact⟨E,E⟩
def A2y{κ0' κ:Ka}{w0 w:World}{k:Nat}{v:Value}{l:List SV}(h0:Rd κ0' w0 (.ptr k 0) v)(hn:κ0' k≠.new→κ k=κ0' k∨κ k=.dead)(ho:ObOK κ w k (.box l)):∃b,κ k=.blk b∧v=.pointer (some ⟨b,0,none⟩):=by
 obtain ⟨b,cs,T,fr,e1,_⟩:=ho;refine⟨b,e1,?_⟩;have af:κ0' k≠.new:=λe=>by simp only[Rd,e]at h0
 rcases hn af with h|h
 ·rw[e1]at h;simp only[Rd,←h]at h0;exact h0
 ·rw[e1]at h;cases h
def A6b{F F2:Fr}{n:Nat}{bn:List Nat}{hbn:∀k,F2.k0 k≠.new→k∈bn}{k:List KI}{s:SS}{L:List LineM}{row e:Int}{cv:List Value}(hd:F2.ds=[⟨.fn (.func 33) cv.toArray,#[]⟩])(ny:RdL F2.k0 F2.w0 [.ptr 4 0,.ptr 2 0] cv)(bz:∀κ w,Ctx F2 κ w→Ctx F κ w)(h2:s.h 2=.box [.sl 17 A3 L])(h4:s.h 4=.box [Aa e])(h3:s.σ 3=Aa row)(p2:s.σ 2=.ptr 2 0)(p4:s.σ 4=.ptr 4 0):G ⟨prog,Γ.toTy,F2,n,Axn prog Tryz.f13 F (.tup [.sl 17 A3 (if e=0 then L else []),Aa row,Aa e]) [],bn,hbn⟩ (.code .ret::k) s:=by
 refine A8j λκ a w hs=>?_
 have o2:=hs.obj 2;rw[h2]at o2;have o4:=hs.obj 4;rw[h4]at o4;simp only[RdL]at ny;obtain ⟨v4,r4,rfl,hv4,v2,r2,rfl,lj,rfl⟩:=ny;obtain ⟨b4,k4,rfl⟩:=A2y hv4 (hs.ctx.nam 4) o4;obtain ⟨b2,k2,rfl⟩:=A2y lj (hs.ctx.nam 2) o2;obtain ⟨b2',e1,c1,c2,st1,inv1,vd⟩:=D6 (off:=0) (x:=.val (.slice none 0 0)) (v:=.slice none 0 0) hs.inv o2 rfl (λκ w=>by simp only[Rd]) rfl;have vd:ObOK κ (w.setCell ⟨b2',0,none⟩ (.slice none 0 0)) 2 (.box [.sl 17 A3 []]):=by
  obtain ⟨b,cs,T,fr,f1,f2,f3,f4,f5⟩:=vd;refine⟨b,cs,T,fr,f1,f2,f3,f4,?_⟩;have f5:RdL κ _ [.val (.slice none 0 0)] cs:=f5;simp only[RdL,Rd]at f5⊢;obtain ⟨v,r,rfl,rfl,rfl⟩:=f5;exact⟨_,_,E,by simp[RdD],E⟩
 rw[k2]at e1;cases e1;obtain ⟨b4',e4,d1,_,_,_,_⟩:=D6 (off:=0) (x:=Aa e) (v:=.int .i64 e) hs.inv o4 rfl (λκ w=>by simp[Rd,Aa]) rfl;rw[k4]at e4;cases e4;obtain ⟨u4,hu4,hr4⟩:=d1 0 (Aa e) rfl;have hu4':u4=.int .i64 e:=by simpa [Aa,Rd] using hr4
 subst hu4';obtain ⟨u2,su,_⟩:=c1 0 _ rfl;show Leaves prog Tryz.f13 a.tmps _ a.defers .returning w;rw[hs.defers,hd];refine leaves_cons (f:=33) (args:=#[.pointer (some ⟨b4,0,none⟩),.pointer (some ⟨b2,0,none⟩)]) y_ (by simp[go_sem]) ?_;refine(Aik ⟨b4,0,none⟩ ⟨b2,0,none⟩ e u2 .returning w hu4 su (c2 0 y_)).mono ?_;rintro r u' x9 ⟨rfl,rfl,rfl⟩;by_cases he:e=0
 ·rw[zE he,zE he];obtain ⟨v,g1,g2⟩:=U9 (P:=prog) (Γ:=Γ.toTy) hs (fn:=Tryz.f13) (xs:=[.sl 17 A3 L,Aa row,Aa e]) rfl (.cons (.cell p2 h2 rfl rfl) (.cons (h3▸.tmp) (.cons (.cell p4 h4 rfl rfl) .nil)));exact⟨v,g1,v,κ,rfl,bz _ _ hs.ctx,hs.inv,g2,λp hp=>by cases hp⟩
 ·rw[zD he,zD he];have m5:St F2 n ⟨s.σ,upd s.h 2 (.box [.sl 17 A3 []])⟩ κ a (w.setCell ⟨b2,0,none⟩ (.slice none 0 0)):=⟨hs.defers,hs.size,inv1,hs.ctx.step inv1 st1,λ i=>Rd.step st1 _ _ (hs.slot i),λ j=>by
   show ObOK κ _ j (upd s.h 2 _ j);by_cases hj:j=2
   ·subst hj;exact vd
   ·have:upd s.h 2 (.box [.sl 17 A3 []]) j=s.h j:=by
     simp only[upd];have:Nat.beq j 2=false:=by
      cases hb:Nat.beq j 2
      ·rfl
      ·exact yB (yJ hb) hj
     rw[this];rfl
    rw[this];exact ObOK.step st1 (show ¬ j=2 from hj) _ (hs.obj j)⟩
  obtain ⟨v,g1,g2⟩:=U9 (P:=prog) (Γ:=Γ.toTy) m5 (fn:=Tryz.f13) (xs:=[.sl 17 A3 [],Aa row,Aa e]) rfl (.cons (.cell p2 rfl rfl rfl) (.cons (h3▸.tmp) (.cons (.cell p4 h4 rfl rfl) .nil)));exact⟨v,g1,v,κ,rfl,bz _ _ m5.ctx,inv1,g2,λp hp=>by cases hp⟩
def Zk{F F2:Fr}{n:Nat}{bn:List Nat}{hbn:∀k,F2.k0 k≠.new→k∈bn}{k:List KI}{s:SS}{L L':List LineM}{row e:Int}{cv:List Value}(hd:F2.ds=[⟨.fn (.func 33) cv.toArray,#[]⟩])(ny:RdL F2.k0 F2.w0 [.ptr 4 0,.ptr 2 0] cv)(bz:∀κ w,Ctx F2 κ w→Ctx F κ w)(hL:(if e=0 then L else [])=L')(h2:s.h 2=.box [.sl 17 A3 L])(h4:s.h 4=.box [Aa e])(h3:s.σ 3=Aa row)(p2:s.σ 2=.ptr 2 0)(p4:s.σ 4=.ptr 4 0):G ⟨prog,Γ.toTy,F2,n,Axn prog Tryz.f13 F (.tup [.sl 17 A3 L',Aa row,Aa e]) [],bn,hbn⟩ (.code .ret::k) s:=by
 subst hL;exact A6b hd ny bz h2 h4 h3 p2 p4
def U3:∀(l cur:List UInt8),∀s∈Hk cur l,s.size≤cur.length+l.length
 |[],cur,s,hs=>by
  rw[Hk]at hs;split at hs
  ·cases hs
  ·simp at hs;rw[hs,Is];simp
 |c::l,cur,s,hs=>by
  rw[Hk]at hs;split at hs
  ·rcases yH.1 hs with hs|hs
   ·rw[hs,Is];simp
   ·have:=U3 l [] s hs;simp at this⊢;omega
  ·have:=U3 l (cur++[c]) s hs;simp at this⊢;omega
def Qe(b:List UInt8):(rowsT b).1.length≤400∧∀s∈(rowsT b).1,s.size≤20000:=by
 rw[rowsT];split
 ·exact⟨by simp,λs hs=>by cases hs⟩
 ·rename_i h1;split
  ·exact⟨by simp,λs hs=>by cases hs⟩
  ·rename_i h2;refine⟨by dsimp only;omega,λs hs=>?_⟩;have:=U3 b [] s hs;simp at this;omega
def S1(r:ByteArray)(hr:r.size≤20000):(wordsT r).1.length≤20001∧∀s∈(wordsT r).1,s.size≤40:=by
 have hl:=Qa r.data.toList [];have hrs:r.data.toList.length=r.size:=rfl;rw[wordsT];split
 ·rename_i h;refine⟨by dsimp only;omega,λs hs=>?_⟩;rw[yV]at h;have:=h s hs;simp only[wordB,zG,zK]at this;exact this.1.2
 ·exact⟨by simp,λs hs=>by cases hs⟩
def Ax1(b:List UInt8)(hb:b.length≤1000000):Sp 13 [.sl 1 Ak b] (.tup [.sl 17 A3 (textT b).1,Aa (textT b).2.1,Aa (textT b).2.2]):=A0x Γ hm 100 F13 ntmps13 rfl λF hF h0=>by
 have q1:=Aj7 b hb;have aa:=textT.eq_1 b;have iu:=Qe b;generalize textT b=res at *;generalize rowsT b=rt at *;obtain ⟨bq,e0⟩:=rt;dsimp only at aa iu q1;refine T ?_;refine A76 E E E E h0 [2,4] (λj hj=>?_) ?_
 ·simp only[yH,xU,uH,uL]at hj;have n2:Nat.beq j 2=false:=by
   cases hb:Nat.beq j 2
   ·rfl
   ·exact yB (yJ hb) hj.1
  have n4:Nat.beq j 4=false:=by
   cases hb:Nat.beq j 4
   ·rfl
   ·exact yB (yJ hb) hj.2
  simp[SS.upd,Ul,upd,mkh,n2,n4]
 intro F2 hF2 cv hd ny bz;refine gD q1 F17 ?_;cases hz:(e0 != 0);rotate_left
 ·have he:e0≠0:=by simpa using hz
  rw[zE he]at aa;subst aa;refine T ?_;refine Al 2 [.sl 17 A3 []] E (.cons .nil .nil) ?_;exact Zk (L:=[]) hd ny bz y_ E E E E E
 have tn:e0=0:=by simpa using hz
 rw[zD (by simp[tn])]at aa;subst tn;obtain ⟨hlen,bh⟩:=iu;refine T ?_;refine Sz 2 0 1000 17 A3 E E E E ?_;refine Cj (λx:Nat×List LineM=>res=L9 x.1 (bq.drop x.1) x.2∧x.1≤bq.length∧x.2.length≤x.1) (λx=>[(2,.ptr 2 0),(4,.ptr 4 0),(20,.sl 1 Ap bq),(21,Aa bq.length),(22,Aa x.1)]) (λx=>[(2,.box [.osl 1000]),(4,.box [Aa 0]),(1000,.row 17 A3 x.2)]) (λx=>bq.length-x.1) (0,[]) [] ⟨aa,by simp,by simp⟩ U ?_;rintro ⟨j,out⟩ ⟨hI,hj,ky⟩;dsimp only at hI hj ky⊢;refine T ?_;constructor<;>intro h
 ·have ab:j<bq.length:=qA h;have aq:(j:Int).toNat<bq.length:=ab;have hr:(bq[(j:Int).toNat]'aq).size≤20000:=bh _ (zJ _);have ep:bq.drop j=bq[(j:Int).toNat]'aq::bq.drop (j+1):=yK ab;rw[ep,L9]at hI;clear h;have q2:=Agl (bq[(j:Int).toNat]'aq) q_;have jq:=S1 (bq[(j:Int).toNat]'aq) hr;generalize wordsT (bq[(j:Int).toNat]'aq)=wt at *;obtain ⟨ws,we⟩:=wt;dsimp only at hI jq q2;cases hz:(we != 0);rotate_left
  ·have he:we≠0:=by simpa using hz
   rw[zE he]at hI;subst hI;refine gD q2 F18 ?_;refine Al 2 [.sl 17 A3 []] E (.cons .nil .nil) ?_;exact Zk (L:=[]) hd ny bz y_ E E E E E
  have he:we=0:=by simpa using hz
  rw[zD (by simp[he])]at hI;by_cases kz:ws.length=0
  ·rw[zE (zX kz)]at hI;have f0:((ws.length:Int)==0)=true:=by rw[kz];rfl
   refine gD q2 F18 ?_;exact Ax (j+1,out) [] ⟨hI,ab,by dsimp only;omega⟩ (by dsimp only;omega) U
  ·rw[zD (λe=>kz (by rw[e];rfl))]at hI;have f0:((ws.length:Int)==0)=false:=by rw[zR];omega
   have q3:=Ayb ws ((j:Int)+1) q_ jq.2;generalize Cp ws ((j:Int)+1)=st at *;obtain ⟨l,se⟩:=st;dsimp only at hI q3;cases wc:(se != 0);rotate_left
   ·have dq:se≠0:=by simpa using wc
    rw[zE dq]at hI;subst hI;refine gA q2 F18 q3 F34 ?_;refine Aj 1000 E ?_;exact Zk (L:=out) hd ny bz (zD dq) E E E E E
   ·have dq:se=0:=by simpa using wc
    rw[zD (by simp[dq])]at hI;refine gA q2 F18 q3 F34 ?_;refine X (Ag Γ.toTy 56 E E E E E (.row E) (.lit (e:=A3) (l:=[l]) E E) y_ (by simp;omega) (by simp;omega)) ?_;exact Ax (j+1,out++[l]) [(1000,56)] ⟨hI,ab,by simp;omega⟩ (by dsimp only;omega) U
 ·have cm:j=bq.length:=qB h;subst cm;rw[wQ,L9]at hI;subst hI;clear h;refine T ?_;refine Aj 1000 E ?_;exact Zk (L:=out) hd ny bz (zE E) E E E E E
end Go.Sy.YtolnneiipmfgaaaGreatDoor
