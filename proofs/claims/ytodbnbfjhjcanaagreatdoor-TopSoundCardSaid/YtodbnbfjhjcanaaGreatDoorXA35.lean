/- Parts of a proof. -/
import Derived.Test.YtodbnbfjhjcanaaGreatDoorXA16
set_option maxHeartbeats 4000000
set_option linter.all false
namespace Go.Sy.Zaa
open Go.Proofs Go.Proofs.Tryz
attribute [local irreducible]G DR
set_option maxRecDepth 100000
def eS(s:ByteArray):0<=kindL s/\kindL s<=9:=by
 rw[kindL]
 repeat' split
 all_goals decide
def Jm{k:Int}{w:List ByteArray}(h:manyB k w=true):(k=1\/k=6\/k=7->w.length=4)/\(k=3\/k=4\/k=8\/k=9->w.length=5)/\(k=5->w.length=3)/\(k=2->6<=w.length/\w.length<=7/\(wdT w 4=Hd->w.length=7))/\k≠0:=by
 rw[manyB]at h;by_cases h0:k=0
 .rw[zE h0]at h;cases h
 rw[zD h0]at h;by_cases h2:k=2
 .rw[zE h2]at h;by_cases h6:w.length<6
  .rw[zE h6]at h;cases h
  rw[zD h6]at h;refine⟨λx=>by omega,λx=>by omega,λx=>by omega,λ_=>?_,h0⟩;by_cases ca:wdT w 4=Hy
  .rw[zE ca]at h;have:=zO h;refine⟨by omega,by omega,λx=>?_⟩;rw[ca]at x;exact zX x Afh
  .rw[zD ca]at h;by_cases rq:wdT w 4=Hd
   .rw[zE rq]at h;have:=zO h;exact⟨by omega,by omega,λ_=>this⟩
   .rw[zD rq]at h;have:=zO h;exact⟨by omega,by omega,λx=>zX x rq⟩
 rw[zD h2]at h;by_cases h3:k=3\/k=4\/k=8\/k=9
 .rw[zE h3]at h;have:=zO h;exact⟨λx=>by omega,λ_=>this,λx=>by omega,λx=>by omega,h0⟩
 rw[zD h3]at h;by_cases h5:k=5
 .rw[zE h5]at h;have:=zO h;exact⟨λx=>by omega,λx=>by omega,λ_=>this,λx=>by omega,h0⟩
 rw[zD h5]at h;have:=zO h;exact⟨λ_=>this,λx=>by omega,λx=>by omega,λx=>zX x h2,h0⟩
def Amz(w:List ByteArray)(row:Int)(hw:w.length<=1000000)(hs:∀s∈w,s.size<=40)(ag:0<w.length)(hk:kindL (wdT w 0)=1)(bu:manyB 1 w=true):Sp 66 [.sl 1 Ar w,Aa row] (.tup [A3 (Cm w row).1,Aa (Cm w row).2]):=cT F66 ntmps66 λF hF=>by
 have dy:(0:Int).toNat<w.length:=ag;have f0:((w.length:Int)==0)=false:=by rw[zT];omega
 have iq:w[(0:Int).toNat]'dy=wdT w 0:=(Dk ag).symm;have qk:Sp 123 [Ar (w[(0:Int).toNat]'dy)] (Aa 1):=by
  have:=Ib (wdT w 0);rw[hk]at this;rw[iq];exact this
 have qm:=Ia 1 y_ w hw;rw[bu]at qm;have gv:=Jm bu;have dt:Cm w row=if Bt (B8 w row).2≠0 then (lineZ,Bt (B8 w row).2) else ((B8 w row).1,0):=by
  rw[Cm,zD];rintro (hh|hh)
  .rw[hh]at ag;simp at ag
  .rw[hk,bu]at hh;cases hh
 have cx:=Dv _ (Ea w row);have hl:w.length=4:=gv.1 y_;have q1:=E9 w 1 (0:Int) z_ hw hs;obtain ⟨e1,ew⟩:∃e,Au (0:Int) (!(A1 (wdT w 1))) 20=e:=⟨_,rfl⟩
 rw[ew]at q1;have q2:=Wq w 2 e1 0 65535 z_ hw;obtain ⟨e2,du⟩:∃e,Au e1 (!(numR (wdT w 2) 0 65535).2) 21=e:=⟨_,rfl⟩
 rw[du]at q2;have q3:=Aw4 w 3 e2 z_ hw hs;obtain ⟨e3,gm⟩:∃e,Au e2 (macE (wdT w 3)) 21=e:=⟨_,rfl⟩
 rw[gm]at q3;have hR:B8 w row=({lineZ with row:=row,kind:=1,dev:=wdT w 1,num:=(numR (wdT w 2) 0 65535).1,mac:=(macR (wdT w 3)).1},[((!(A1 (wdT w 1))),20),((!(numR (wdT w 2) 0 65535).2),21),((macE (wdT w 3)),21)]):=by
  unfold B8;simp only[hk];rfl
 rw[hR]at dt cx;have cx:Bt _=e3:=cx.trans (by
  show Au (Au (Au ((0:Int)) (!(A1 (wdT w 1))) 20) (!(numR (wdT w 2) 0 65535).2) 21) (macE (wdT w 3)) 21=_;rw[ew,du,gm])
 rw[cx]at dt;rw[dt];generalize e3=eN at *;refine gB qk F123 qm F122 ?_;refine C qk F123 ?_;refine Ak 9 (Ch {lineZ with row:=row,kind:=1}) rfl vL (T ?_);refine X (Av [(0,31)] (Aw E E F124) q1 E W E V) ?_;refine X (Ad [(0,31)] E F126 q2 E W E V) ?_;refine X (Ad [(0,31)] E F127 q3 E W E V) ?_;cases hz:(eN != 0)
 .have bq:eN=0:=by simpa using hz
  rw[zD (by rw[bq];simp)];exact gA
 .have bq:eN≠0:=by simpa using hz
  rw[zE bq];refine T ?_;exact Ak 4 (Ch lineZ) E vL gA
def Amx(w:List ByteArray)(row:Int)(hw:w.length<=1000000)(hs:∀s∈w,s.size<=40)(ag:0<w.length)(hk:kindL (wdT w 0)=3)(bu:manyB 3 w=true):Sp 66 [.sl 1 Ar w,Aa row] (.tup [A3 (Cm w row).1,Aa (Cm w row).2]):=cT F66 ntmps66 λF hF=>by
 have dy:(0:Int).toNat<w.length:=ag;have f0:((w.length:Int)==0)=false:=by rw[zT];omega
 have iq:w[(0:Int).toNat]'dy=wdT w 0:=(Dk ag).symm;have qk:Sp 123 [Ar (w[(0:Int).toNat]'dy)] (Aa 3):=by
  have:=Ib (wdT w 0);rw[hk]at this;rw[iq];exact this
 have qm:=Ia 3 y_ w hw;rw[bu]at qm;have gv:=Jm bu;have dt:Cm w row=if Bt (B8 w row).2≠0 then (lineZ,Bt (B8 w row).2) else ((B8 w row).1,0):=by
  rw[Cm,zD];rintro (hh|hh)
  .rw[hh]at ag;simp at ag
  .rw[hk,bu]at hh;cases hh
 have cx:=Dv _ (Ea w row);have hl:w.length=5:=gv.2.1 y_;have q1:=E9 w 1 (0:Int) z_ hw hs;obtain ⟨e1,ew⟩:∃e,Au (0:Int) (!(A1 (wdT w 1))) 20=e:=⟨_,rfl⟩
 rw[ew]at q1;have q2:=E9 w 2 e1 z_ hw hs;obtain ⟨e2,du⟩:∃e,Au e1 (!(A1 (wdT w 2))) 20=e:=⟨_,rfl⟩
 rw[du]at q2;have q3:=E9 w 3 e2 z_ hw hs;obtain ⟨e3,gm⟩:∃e,Au e2 (!(A1 (wdT w 3))) 20=e:=⟨_,rfl⟩
 rw[gm]at q3;have q4:=E9 w 4 e3 z_ hw hs;obtain ⟨e4,lj⟩:∃e,Au e3 (!(A1 (wdT w 4))) 20=e:=⟨_,rfl⟩
 rw[lj]at q4;have hR:B8 w row=({lineZ with row:=row,kind:=3,dev:=wdT w 1,port:=wdT w 2,peer:=wdT w 3,far:=wdT w 4},[((!(A1 (wdT w 1))),20),((!(A1 (wdT w 2))),20),((!(A1 (wdT w 3))),20),((!(A1 (wdT w 4))),20)]):=by
  unfold B8;simp only[hk];rfl
 rw[hR]at dt cx;have cx:Bt _=e4:=cx.trans (by
  show Au (Au (Au (Au ((0:Int)) (!(A1 (wdT w 1))) 20) (!(A1 (wdT w 2))) 20) (!(A1 (wdT w 3))) 20) (!(A1 (wdT w 4))) 20=_;rw[ew,du,gm,lj])
 rw[cx]at dt;rw[dt];generalize e4=eN at *;refine gB qk F123 qm F122 ?_;refine C qk F123 ?_;refine Ak 9 (Ch {lineZ with row:=row,kind:=3}) rfl vL (T ?_);refine X (Av [(0,31)] (Aw E E F124) q1 E W E V) ?_;refine X (Av [(0,31)] (Aw E E F124) q2 E W E V) ?_;refine X (Av [(0,31)] (Aw E E F124) q3 E W E V) ?_;refine X (Av [(0,31)] (Aw E E F124) q4 E W E V) ?_;cases hz:(eN != 0)
 .have bq:eN=0:=by simpa using hz
  rw[zD (by rw[bq];simp)];exact gA
 .have bq:eN≠0:=by simpa using hz
  rw[zE bq];refine T ?_;exact Ak 4 (Ch lineZ) E vL gA
def Amw(w:List ByteArray)(row:Int)(hw:w.length<=1000000)(hs:∀s∈w,s.size<=40)(ag:0<w.length)(hk:kindL (wdT w 0)=4)(bu:manyB 4 w=true):Sp 66 [.sl 1 Ar w,Aa row] (.tup [A3 (Cm w row).1,Aa (Cm w row).2]):=cT F66 ntmps66 λF hF=>by
 have dy:(0:Int).toNat<w.length:=ag;have f0:((w.length:Int)==0)=false:=by rw[zT];omega
 have iq:w[(0:Int).toNat]'dy=wdT w 0:=(Dk ag).symm;have qk:Sp 123 [Ar (w[(0:Int).toNat]'dy)] (Aa 4):=by
  have:=Ib (wdT w 0);rw[hk]at this;rw[iq];exact this
 have qm:=Ia 4 y_ w hw;rw[bu]at qm;have gv:=Jm bu;have dt:Cm w row=if Bt (B8 w row).2≠0 then (lineZ,Bt (B8 w row).2) else ((B8 w row).1,0):=by
  rw[Cm,zD];rintro (hh|hh)
  .rw[hh]at ag;simp at ag
  .rw[hk,bu]at hh;cases hh
 have cx:=Dv _ (Ea w row);have hl:w.length=5:=gv.2.1 y_;have q1:=E9 w 1 (0:Int) z_ hw hs;obtain ⟨e1,ew⟩:∃e,Au (0:Int) (!(A1 (wdT w 1))) 20=e:=⟨_,rfl⟩
 rw[ew]at q1;have q2:=Z0 w 2 e1 z_ hw;obtain ⟨e2,du⟩:∃e,Au e1 (!(C0 (wdT w 2)).2) 21=e:=⟨_,rfl⟩
 rw[du]at q2;have q3:=Aw4 w 3 e2 z_ hw hs;obtain ⟨e3,gm⟩:∃e,Au e2 (macE (wdT w 3)) 21=e:=⟨_,rfl⟩
 rw[gm]at q3;have q4:=E9 w 4 e3 z_ hw hs;obtain ⟨e4,lj⟩:∃e,Au e3 (!(A1 (wdT w 4))) 20=e:=⟨_,rfl⟩
 rw[lj]at q4;have hR:B8 w row=({lineZ with row:=row,kind:=4,dev:=wdT w 1,vlan:=(C0 (wdT w 2)).1,mac:=(macR (wdT w 3)).1,port:=wdT w 4},[((!(A1 (wdT w 1))),20),((!(C0 (wdT w 2)).2),21),((macE (wdT w 3)),21),((!(A1 (wdT w 4))),20)]):=by
  unfold B8;simp only[hk];rfl
 rw[hR]at dt cx;have cx:Bt _=e4:=cx.trans (by
  show Au (Au (Au (Au ((0:Int)) (!(A1 (wdT w 1))) 20) (!(C0 (wdT w 2)).2) 21) (macE (wdT w 3)) 21) (!(A1 (wdT w 4))) 20=_;rw[ew,du,gm,lj])
 rw[cx]at dt;rw[dt];generalize e4=eN at *;refine gB qk F123 qm F122 ?_;refine C qk F123 ?_;refine Ak 9 (Ch {lineZ with row:=row,kind:=4}) rfl vL (T ?_);refine X (Av [(0,31)] (Aw E E F124) q1 E W E V) ?_;refine X (Av [(0,31)] (Aw E E F125) q2 E W E V) ?_;refine X (Ad [(0,31)] E F127 q3 E W E V) ?_;refine X (Av [(0,31)] (Aw E E F124) q4 E W E V) ?_;cases hz:(eN != 0)
 .have bq:eN=0:=by simpa using hz
  rw[zD (by rw[bq];simp)];exact gA
 .have bq:eN≠0:=by simpa using hz
  rw[zE bq];refine T ?_;exact Ak 4 (Ch lineZ) E vL gA
def Amu(w:List ByteArray)(row:Int)(hw:w.length<=1000000)(hs:∀s∈w,s.size<=40)(ag:0<w.length)(hk:kindL (wdT w 0)=6)(bu:manyB 6 w=true):Sp 66 [.sl 1 Ar w,Aa row] (.tup [A3 (Cm w row).1,Aa (Cm w row).2]):=cT F66 ntmps66 λF hF=>by
 have dy:(0:Int).toNat<w.length:=ag;have f0:((w.length:Int)==0)=false:=by rw[zT];omega
 have iq:w[(0:Int).toNat]'dy=wdT w 0:=(Dk ag).symm;have qk:Sp 123 [Ar (w[(0:Int).toNat]'dy)] (Aa 6):=by
  have:=Ib (wdT w 0);rw[hk]at this;rw[iq];exact this
 have qm:=Ia 6 y_ w hw;rw[bu]at qm;have gv:=Jm bu;have dt:Cm w row=if Bt (B8 w row).2≠0 then (lineZ,Bt (B8 w row).2) else ((B8 w row).1,0):=by
  rw[Cm,zD];rintro (hh|hh)
  .rw[hh]at ag;simp at ag
  .rw[hk,bu]at hh;cases hh
 have cx:=Dv _ (Ea w row);have hl:w.length=4:=gv.1 y_;have q1:=E9 w 1 (0:Int) z_ hw hs;obtain ⟨e1,ew⟩:∃e,Au (0:Int) (!(A1 (wdT w 1))) 20=e:=⟨_,rfl⟩
 rw[ew]at q1;have q2:=Z0 w 2 e1 z_ hw;obtain ⟨e2,du⟩:∃e,Au e1 (!(C0 (wdT w 2)).2) 21=e:=⟨_,rfl⟩
 rw[du]at q2;have q3:=Aw3 w 3 e2 z_ hw;obtain ⟨e3,gm⟩:∃e,Au e2 (!(S6 (wdT w 3)).2) 21=e:=⟨_,rfl⟩
 rw[gm]at q3;have hR:B8 w row=({lineZ with row:=row,kind:=6,dev:=wdT w 1,vlan:=(C0 (wdT w 2)).1,num:=(S6 (wdT w 3)).1},[((!(A1 (wdT w 1))),20),((!(C0 (wdT w 2)).2),21),((!(S6 (wdT w 3)).2),21)]):=by
  unfold B8;simp only[hk];rfl
 rw[hR]at dt cx;have cx:Bt _=e3:=cx.trans (by
  show Au (Au (Au ((0:Int)) (!(A1 (wdT w 1))) 20) (!(C0 (wdT w 2)).2) 21) (!(S6 (wdT w 3)).2) 21=_;rw[ew,du,gm])
 rw[cx]at dt;rw[dt];generalize e3=eN at *;refine gB qk F123 qm F122 ?_;refine C qk F123 ?_;refine Ak 9 (Ch {lineZ with row:=row,kind:=6}) rfl vL (T ?_);refine X (Av [(0,31)] (Aw E E F124) q1 E W E V) ?_;refine X (Av [(0,31)] (Aw E E F125) q2 E W E V) ?_;refine X (Ad [(0,31)] E F132 q3 E W E V) ?_;cases hz:(eN != 0)
 .have bq:eN=0:=by simpa using hz
  rw[zD (by rw[bq];simp)];exact gA
 .have bq:eN≠0:=by simpa using hz
  rw[zE bq];refine T ?_;exact Ak 4 (Ch lineZ) E vL gA
def Ams(w:List ByteArray)(row:Int)(hw:w.length<=1000000)(hs:∀s∈w,s.size<=40)(ag:0<w.length)(hk:kindL (wdT w 0)=8)(bu:manyB 8 w=true):Sp 66 [.sl 1 Ar w,Aa row] (.tup [A3 (Cm w row).1,Aa (Cm w row).2]):=cT F66 ntmps66 λF hF=>by
 have dy:(0:Int).toNat<w.length:=ag;have f0:((w.length:Int)==0)=false:=by rw[zT];omega
 have iq:w[(0:Int).toNat]'dy=wdT w 0:=(Dk ag).symm;have qk:Sp 123 [Ar (w[(0:Int).toNat]'dy)] (Aa 8):=by
  have:=Ib (wdT w 0);rw[hk]at this;rw[iq];exact this
 have qm:=Ia 8 y_ w hw;rw[bu]at qm;have gv:=Jm bu;have dt:Cm w row=if Bt (B8 w row).2≠0 then (lineZ,Bt (B8 w row).2) else ((B8 w row).1,0):=by
  rw[Cm,zD];rintro (hh|hh)
  .rw[hh]at ag;simp at ag
  .rw[hk,bu]at hh;cases hh
 have cx:=Dv _ (Ea w row);have hl:w.length=5:=gv.2.1 y_;have q1:=E9 w 1 (0:Int) z_ hw hs;obtain ⟨e1,ew⟩:∃e,Au (0:Int) (!(A1 (wdT w 1))) 20=e:=⟨_,rfl⟩
 rw[ew]at q1;have q2:=E9 w 2 e1 z_ hw hs;obtain ⟨e2,du⟩:∃e,Au e1 (!(A1 (wdT w 2))) 20=e:=⟨_,rfl⟩
 rw[du]at q2;have q3:=lL w 3 e2 65535 z_ hw hs;obtain ⟨e3,gm⟩:∃e,Au e2 (!(listR 65535 (wdT w 3)).2) 21=e:=⟨_,rfl⟩
 rw[gm]at q3;have q4:=lL w 4 e3 65535 z_ hw hs;obtain ⟨e4,lj⟩:∃e,Au e3 (!(listR 65535 (wdT w 4)).2) 21=e:=⟨_,rfl⟩
 rw[lj]at q4;have hR:B8 w row=({lineZ with row:=row,kind:=8,dev:=wdT w 1,name:=wdT w 2,imports:=(listR 65535 (wdT w 3)).1,exports:=(listR 65535 (wdT w 4)).1},[((!(A1 (wdT w 1))),20),((!(A1 (wdT w 2))),20),((!(listR 65535 (wdT w 3)).2),21),((!(listR 65535 (wdT w 4)).2),21)]):=by
  unfold B8;simp only[hk];rfl
 rw[hR]at dt cx;have cx:Bt _=e4:=cx.trans (by
  show Au (Au (Au (Au ((0:Int)) (!(A1 (wdT w 1))) 20) (!(A1 (wdT w 2))) 20) (!(listR 65535 (wdT w 3)).2) 21) (!(listR 65535 (wdT w 4)).2) 21=_;rw[ew,du,gm,lj])
 rw[cx]at dt;rw[dt];generalize e4=eN at *;refine gB qk F123 qm F122 ?_;refine C qk F123 ?_;refine Ak 9 (Ch {lineZ with row:=row,kind:=8}) rfl vL (T ?_);refine X (Av [(0,31)] (Aw E E F124) q1 E W E V) ?_;refine X (Av [(0,31)] (Aw E E F124) q2 E W E V) ?_;refine X (Ad [(0,31)] E F134 q3 E W E V) ?_;refine X (Ad [(0,31)] E F134 q4 E W E V) ?_;cases hz:(eN != 0)
 .have bq:eN=0:=by simpa using hz
  rw[zD (by rw[bq];simp)];exact gA
 .have bq:eN≠0:=by simpa using hz
  rw[zE bq];refine T ?_;exact Ak 4 (Ch lineZ) E vL gA
def Amv(w:List ByteArray)(row:Int)(hw:w.length<=1000000)(hs:∀s∈w,s.size<=40)(ag:0<w.length)(hk:kindL (wdT w 0)=5)(bu:manyB 5 w=true):Sp 66 [.sl 1 Ar w,Aa row] (.tup [A3 (Cm w row).1,Aa (Cm w row).2]):=cT F66 ntmps66 λF hF=>by
 have dy:(0:Int).toNat<w.length:=ag;have f0:((w.length:Int)==0)=false:=by rw[zT];omega
 have iq:w[(0:Int).toNat]'dy=wdT w 0:=(Dk ag).symm;have qk:Sp 123 [Ar (w[(0:Int).toNat]'dy)] (Aa 5):=by
  have:=Ib (wdT w 0);rw[hk]at this;rw[iq];exact this
 have qm:=Ia 5 y_ w hw;rw[bu]at qm;have gv:=Jm bu;have dt:Cm w row=if Bt (B8 w row).2≠0 then (lineZ,Bt (B8 w row).2) else ((B8 w row).1,0):=by
  rw[Cm,zD];rintro (hh|hh)
  .rw[hh]at ag;simp at ag
  .rw[hk,bu]at hh;cases hh
 have cx:=Dv _ (Ea w row);have hl:w.length=3:=gv.2.2.1 rfl;have q1:=E9 w 1 (0:Int) z_ hw hs;obtain ⟨e1,ew⟩:∃e,Au (0:Int) (!(A1 (wdT w 1))) 20=e:=⟨_,rfl⟩
 rw[ew]at q1;have qn:=O8 w 2 e1 z_ hw;have bg:(wdT w 2).size<=40:=by rw[Dk (by omega:2<w.length)];exact hs _ (zI _)
 have qa:=dM (wdT w 2) z_;have q2:=Jy w 3 e1 (!((Dy (wdT w 2)).2&&decide ((Dy (wdT w 2)).1≠0))) 21;obtain ⟨e2,du⟩:∃e,Au e1 (!((Dy (wdT w 2)).2&&decide ((Dy (wdT w 2)).1≠0))) 21=e:=⟨_,rfl⟩
 rw[du]at q2;have hR:B8 w row=({lineZ with row:=row,kind:=5,dev:=wdT w 1,addr:=(Dy (wdT w 2)).1},[((!(A1 (wdT w 1))),20),((!((Dy (wdT w 2)).2&&decide ((Dy (wdT w 2)).1≠0))),21)]):=by
  unfold B8;simp only[hk];rfl
 rw[hR]at dt cx;have cx:Bt _=e2:=cx.trans (by
  show Au (Au ((0:Int)) (!(A1 (wdT w 1))) 20) (!((Dy (wdT w 2)).2 && decide ((Dy (wdT w 2)).1≠0))) 21=_;rw[ew,du])
 rw[cx]at dt;rw[dt];generalize e2=eN at *;clear hR dt cx du;generalize Dy (wdT w 2)=rt at *;obtain ⟨av,ok⟩:=rt;dsimp only at qa q2|-;cases ok
 .have q2:Sq 128 [.ptr 0 0,Ab true,Aa 21] (rdO w 3 e1) (.tup []) (rdO w 3 eN):=q2;refine gB qk F123 qm F122 ?_;refine C qk F123 ?_;refine Ak 9 (Ch {lineZ with row:=row,kind:=5}) rfl vL (T ?_);refine X (Av [(0,31)] (Aw E E F124) q1 E W E V) ?_;refine X (Ad [(0,31)] E F131 qn E W E V) ?_;refine C qa F130 ?_;refine X (Ad [(0,31)] E F128 q2 E W E V) ?_;cases hz:(eN != 0)
  .have bq:eN=0:=by simpa using hz
   rw[zD (by rw[bq];simp)];exact gA
  .have bq:eN≠0:=by simpa using hz
   rw[zE bq];refine T ?_;exact Ak 4 (Ch lineZ) E vL gA
 .have hb:(!(true&&decide (av≠0)))=(av==0):=by
   by_cases h:av=0
   .rw[h];rfl
   .rw[zK h,zT.2 h];rfl
  rw[hb]at q2;refine gB qk F123 qm F122 ?_;refine C qk F123 ?_;refine Ak 9 (Ch {lineZ with row:=row,kind:=5}) rfl vL (T ?_);refine X (Av [(0,31)] (Aw E E F124) q1 E W E V) ?_;refine X (Ad [(0,31)] E F131 qn E W E V) ?_;refine C qa F130 ?_;refine X (Ad [(0,31)] E F128 q2 E W E V) ?_;cases hz:(eN != 0)
  .have bq:eN=0:=by simpa using hz
   rw[zD (by rw[bq];simp)];exact gA
  .have bq:eN≠0:=by simpa using hz
   rw[zE bq];refine T ?_;exact Ak 4 (Ch lineZ) E vL gA
def Amt(w:List ByteArray)(row:Int)(hw:w.length<=1000000)(hs:∀s∈w,s.size<=40)(ag:0<w.length)(hk:kindL (wdT w 0)=7)(bu:manyB 7 w=true):Sp 66 [.sl 1 Ar w,Aa row] (.tup [A3 (Cm w row).1,Aa (Cm w row).2]):=cT F66 ntmps66 λF hF=>by
 have dy:(0:Int).toNat<w.length:=ag;have f0:((w.length:Int)==0)=false:=by rw[zT];omega
 have iq:w[(0:Int).toNat]'dy=wdT w 0:=(Dk ag).symm;have qk:Sp 123 [Ar (w[(0:Int).toNat]'dy)] (Aa 7):=by
  have:=Ib (wdT w 0);rw[hk]at this;rw[iq];exact this
 have qm:=Ia 7 y_ w hw;rw[bu]at qm;have gv:=Jm bu;have dt:Cm w row=if Bt (B8 w row).2≠0 then (lineZ,Bt (B8 w row).2) else ((B8 w row).1,0):=by
  rw[Cm,zD];rintro (hh|hh)
  .rw[hh]at ag;simp at ag
  .rw[hk,bu]at hh;cases hh
 have cx:=Dv _ (Ea w row);have hl:w.length=4:=gv.1 y_;have q1:=E9 w 1 (0:Int) z_ hw hs;obtain ⟨e1,ew⟩:∃e,Au (0:Int) (!(A1 (wdT w 1))) 20=e:=⟨_,rfl⟩
 rw[ew]at q1;have q2:=Aw3 w 2 e1 z_ hw;obtain ⟨e2,du⟩:∃e,Au e1 (!(S6 (wdT w 2)).2) 21=e:=⟨_,rfl⟩
 rw[du]at q2;have qn:=O8 w 3 e2 z_ hw;have bg:(wdT w 3).size<=40:=by rw[Dk (by omega:3<w.length)];exact hs _ (zI _)
 have qa:=Acn (wdT w 3) z_;have ic:(D6 (wdT w 3)).2=true->0<(D6 (wdT w 3)).1.length:=λh=>by
  have hp:=lM h;rw[D6,Ii]at hp|-;have:=(Sm _ _ _ _ hp List.Pairwise.nil y_).2.2.1;rw[this,Lm];simp
 have q3:=Jy w 4 e2 (!((D6 (wdT w 3)).2&&decide ((D6 (wdT w 3)).1.head? ≠ some 0))) 21;obtain ⟨e3,gm⟩:∃e,Au e2 (!((D6 (wdT w 3)).2&&decide ((D6 (wdT w 3)).1.head? ≠ some 0))) 21=e:=⟨_,rfl⟩
 rw[gm]at q3;have hR:B8 w row=({lineZ with row:=row,kind:=7,dev:=wdT w 1,num:=(S6 (wdT w 2)).1,addrs:=(D6 (wdT w 3)).1},[((!(A1 (wdT w 1))),20),((!(S6 (wdT w 2)).2),21),((!((D6 (wdT w 3)).2&&decide ((D6 (wdT w 3)).1.head? ≠ some 0))),21)]):=by
  unfold B8;simp only[hk];rfl
 rw[hR]at dt cx;have cx:Bt _=e3:=cx.trans (by
  show Au (Au (Au ((0:Int)) (!(A1 (wdT w 1))) 20) (!(S6 (wdT w 2)).2) 21) (!((D6 (wdT w 3)).2 && decide ((D6 (wdT w 3)).1.head? ≠ some 0))) 21=_;rw[ew,du,gm])
 rw[cx]at dt;rw[dt];generalize e3=eN at *;clear hR dt cx gm;generalize D6 (wdT w 3)=rt at *;obtain ⟨av,ok⟩:=rt;dsimp only at qa q3 ic|-;cases ok
 .have q3:Sq 128 [.ptr 0 0,Ab true,Aa 21] (rdO w 4 e2) (.tup []) (rdO w 4 eN):=q3;refine gB qk F123 qm F122 ?_;refine C qk F123 ?_;refine Ak 9 (Ch {lineZ with row:=row,kind:=7}) rfl vL (T ?_);refine X (Av [(0,31)] (Aw E E F124) q1 E W E V) ?_;refine X (Ad [(0,31)] E F132 q2 E W E V) ?_;refine X (Ad [(0,31)] E F131 qn E W E V) ?_;refine C qa F133 ?_;refine X (Ad [(0,31)] E F128 q3 E W E V) ?_;cases hz:(eN != 0)
  .have bq:eN=0:=by simpa using hz
   rw[zD (by rw[bq];simp)];exact gA
  .have bq:eN≠0:=by simpa using hz
   rw[zE bq];refine T ?_;exact Ak 4 (Ch lineZ) E vL gA
 .have h0:(0:Int).toNat<av.length:=ic rfl;have hb:(!(true&&decide (av.head? ≠ some 0)))=(av[(0:Int).toNat]'h0==0):=by
   cases av with
   |nil=>exact zX h0 qq
   |cons a r=>
    show (!(true&&decide (some a≠some 0)))=(a==0);by_cases h:a=0
    .rw[h];rfl
    .rw[zT.2 h,zK (kS h)];rfl
  rw[hb]at q3;refine gB qk F123 qm F122 ?_;refine C qk F123 ?_;refine Ak 9 (Ch {lineZ with row:=row,kind:=7}) rfl vL (T ?_);refine X (Av [(0,31)] (Aw E E F124) q1 E W E V) ?_;refine X (Ad [(0,31)] E F132 q2 E W E V) ?_;refine X (Ad [(0,31)] E F131 qn E W E V) ?_;refine C qa F133 ?_;refine X (Ad [(0,31)] E F128 q3 E W E V) ?_;cases hz:(eN != 0)
  .have bq:eN=0:=by simpa using hz
   rw[zD (by rw[bq];simp)];exact gA
  .have bq:eN≠0:=by simpa using hz
   rw[zE bq];refine T ?_;exact Ak 4 (Ch lineZ) E vL gA
def Agd(s:ByteArray):∃m:Nat,(prefixR s).1.1=m/\m<4294967296:=by
 rw[prefixR];split
 .exact⟨0,E,by decide⟩
 .have h1:=L4 (cutT 47 s).1;have h2:=Uf (cutT 47 s).1;exact⟨(Dy (cutT 47 s).1).1.toNat,(yR h1).symm,by omega⟩
def Amr(w:List ByteArray)(row:Int)(hw:w.length<=1000000)(hs:∀s∈w,s.size<=40)(ag:0<w.length)(hk:kindL (wdT w 0)=9)(bu:manyB 9 w=true):Sp 66 [.sl 1 Ar w,Aa row] (.tup [A3 (Cm w row).1,Aa (Cm w row).2]):=cT F66 ntmps66 λF hF=>by
 have dy:(0:Int).toNat<w.length:=ag;have f0:((w.length:Int)==0)=false:=by rw[zT];omega
 have iq:w[(0:Int).toNat]'dy=wdT w 0:=(Dk ag).symm;have qk:Sp 123 [Ar (w[(0:Int).toNat]'dy)] (Aa 9):=by
  have:=Ib (wdT w 0);rw[hk]at this;rw[iq];exact this
 have qm:=Ia 9 y_ w hw;rw[bu]at qm;have gv:=Jm bu;have dt:Cm w row=if Bt (B8 w row).2≠0 then (lineZ,Bt (B8 w row).2) else ((B8 w row).1,0):=by
  rw[Cm,zD];rintro (hh|hh)
  .rw[hh]at ag;simp at ag
  .rw[hk,bu]at hh;cases hh
 have cx:=Dv _ (Ea w row);have hl:w.length=5:=gv.2.1 y_;have q1:=E9 w 1 (0:Int) z_ hw hs;obtain ⟨e1,ew⟩:∃e,Au (0:Int) (!(A1 (wdT w 1))) 20=e:=⟨_,rfl⟩
 rw[ew]at q1;have q2:=Z0 w 2 e1 z_ hw;obtain ⟨e2,du⟩:∃e,Au e1 (!(C0 (wdT w 2)).2) 21=e:=⟨_,rfl⟩
 rw[du]at q2;have q3:=E9 w 3 e2 z_ hw hs;obtain ⟨e3,gm⟩:∃e,Au e2 (!(A1 (wdT w 3))) 20=e:=⟨_,rfl⟩
 rw[gm]at q3;have qn:=O8 w 4 e3 z_ hw;have bg:(wdT w 4).size<=40:=by rw[Dk (by omega:4<w.length)];exact hs _ (zI _)
 have qa:=Aly (wdT w 4) z_;have hrg:=Agd (wdT w 4);have q4:=Jy w 5 e3 (!((prefixR (wdT w 4)).2&&subnetB (prefixR (wdT w 4)).1.1 (prefixR (wdT w 4)).1.2)) 21;obtain ⟨e4,lj⟩:∃e,Au e3 (!((prefixR (wdT w 4)).2&&subnetB (prefixR (wdT w 4)).1.1 (prefixR (wdT w 4)).1.2)) 21=e:=⟨_,rfl⟩
 rw[lj]at q4;have hR:B8 w row=({lineZ with row:=row,kind:=9,dev:=wdT w 1,vlan:=(C0 (wdT w 2)).1,name:=wdT w 3,addr:=(prefixR (wdT w 4)).1.1,bits:=(prefixR (wdT w 4)).1.2},[((!(A1 (wdT w 1))),20),((!(C0 (wdT w 2)).2),21),((!(A1 (wdT w 3))),20),((!((prefixR (wdT w 4)).2&&subnetB (prefixR (wdT w 4)).1.1 (prefixR (wdT w 4)).1.2)),21)]):=by
  unfold B8;simp only[hk];rfl
 rw[hR]at dt cx;have cx:Bt _=e4:=cx.trans (by
  show Au (Au (Au (Au ((0:Int)) (!(A1 (wdT w 1))) 20) (!(C0 (wdT w 2)).2) 21) (!(A1 (wdT w 3))) 20) (!((prefixR (wdT w 4)).2 && subnetB (prefixR (wdT w 4)).1.1 (prefixR (wdT w 4)).1.2)) 21=_;rw[ew,du,gm,lj])
 rw[cx]at dt;rw[dt];generalize e4=eN at *;clear hR dt cx lj;obtain ⟨m,bf,bw⟩:=hrg;generalize prefixR (wdT w 4)=rt at *;obtain ⟨⟨av,bv⟩,ok⟩:=rt;dsimp only at qa q4 bf|-;subst bf;have qs:=dU m bv bw;generalize subnetB (m:Int) bv=sb at *;cases ok
 .have q4:Sq 128 [.ptr 0 0,Ab true,Aa 21] (rdO w 5 e3) (.tup []) (rdO w 5 eN):=q4;refine gB qk F123 qm F122 ?_;refine C qk F123 ?_;refine Ak 9 (Ch {lineZ with row:=row,kind:=9}) rfl vL (T ?_);refine X (Av [(0,31)] (Aw E E F124) q1 E W E V) ?_;refine X (Av [(0,31)] (Aw E E F125) q2 E W E V) ?_;refine X (Av [(0,31)] (Aw E E F124) q3 E W E V) ?_;refine X (Ad [(0,31)] E F131 qn E W E V) ?_;refine C qa F135 ?_;refine X (Ad [(0,31)] E F128 q4 E W E V) ?_;cases hz:(eN != 0)
  .have bq:eN=0:=by simpa using hz
   rw[zD (by rw[bq];simp)];exact gA
  .have bq:eN≠0:=by simpa using hz
   rw[zE bq];refine T ?_;exact Ak 4 (Ch lineZ) E vL gA
 .have hb:(!(true&&sb))=!sb:=rfl;rw[hb]at q4;refine gB qk F123 qm F122 ?_;refine C qk F123 ?_;refine Ak 9 (Ch {lineZ with row:=row,kind:=9}) rfl vL (T ?_);refine X (Av [(0,31)] (Aw E E F124) q1 E W E V) ?_;refine X (Av [(0,31)] (Aw E E F125) q2 E W E V) ?_;refine X (Av [(0,31)] (Aw E E F124) q3 E W E V) ?_;refine X (Ad [(0,31)] E F131 qn E W E V) ?_;refine gI qa F135 qs F136 ?_;refine X (Ad [(0,31)] E F128 q4 E W E V) ?_;cases hz:(eN != 0)
  .have bq:eN=0:=by simpa using hz
   rw[zD (by rw[bq];simp)];exact gA
  .have bq:eN≠0:=by simpa using hz
   rw[zE bq];refine T ?_;exact Ak 4 (Ch lineZ) E vL gA
def Amy(w:List ByteArray)(row:Int)(hw:w.length<=1000000)(hs:∀s∈w,s.size<=40)(ag:0<w.length)(hk:kindL (wdT w 0)=2)(bu:manyB 2 w=true):Sp 66 [.sl 1 Ar w,Aa row] (.tup [A3 (Cm w row).1,Aa (Cm w row).2]):=cT F66 ntmps66 λF hF=>by
 have dy:(0:Int).toNat<w.length:=ag;have f0:((w.length:Int)==0)=false:=by rw[zT];omega
 have iq:w[(0:Int).toNat]'dy=wdT w 0:=(Dk ag).symm;have qk:Sp 123 [Ar (w[(0:Int).toNat]'dy)] (Aa 2):=by
  have:=Ib (wdT w 0);rw[hk]at this;rw[iq];exact this
 have qm:=Ia 2 y_ w hw;rw[bu]at qm;have gv:=Jm bu;have dt:Cm w row=if Bt (B8 w row).2≠0 then (lineZ,Bt (B8 w row).2) else ((B8 w row).1,0):=by
  rw[Cm,zD];rintro (hh|hh)
  .rw[hh]at ag;simp at ag
  .rw[hk,bu]at hh;cases hh
 have cx:=Dv _ (Ea w row);have hl:6<=w.length/\w.length<=7/\(wdT w 4=Hd->w.length=7):=gv.2.2.2.1 rfl;have q1:=E9 w 1 (0:Int) z_ hw hs;obtain ⟨e1,ew⟩:∃e,Au (0:Int) (!(A1 (wdT w 1))) 20=e:=⟨_,rfl⟩
 rw[ew]at q1;have q2:=E9 w 2 e1 z_ hw hs;obtain ⟨e2,du⟩:∃e,Au e1 (!(A1 (wdT w 2))) 20=e:=⟨_,rfl⟩
 rw[du]at q2;have q3:=Wq w 3 e2 1 65535 z_ hw;obtain ⟨e3,gm⟩:∃e,Au e2 (!(numR (wdT w 3) 1 65535).2) 21=e:=⟨_,rfl⟩
 rw[gm]at q3;have q4:=Jy w 4 e3 (decide (wdT w 4≠Hy)&&decide (wdT w 4≠Hd)) 20;obtain ⟨e4,lj⟩:∃e,Au e3 (decide (wdT w 4≠Hy)&&decide (wdT w 4≠Hd)) 20=e:=⟨_,rfl⟩
 rw[lj]at q4;have qp:=A1e w e4 { lineZ with row:=row,kind:=2,dev:=wdT w 1,port:=wdT w 2,cost:=(numR (wdT w 3) 1 65535).1 } hw hs z_ (λ x=>by
  have h6:w.length=6:=by
   have hm3:=bu;rw[manyB,zD y_,zE rfl,zD z_,zE x]at hm3;exact zO hm3
  omega) (λ x=>by have:=hl.2.2 x;omega) ⟨rfl,rfl⟩
 have hR:B8 w row=({ lineZ with row:=row,kind:=2,dev:=wdT w 1,port:=wdT w 2,cost:=(numR (wdT w 3) 1 65535).1,vlan:=(Eb w).1,tagged:=(Eb w).2.1 },
   [((!(A1 (wdT w 1))),20),((!(A1 (wdT w 2))),20),((!(numR (wdT w 3) 1 65535).2),21),((decide (wdT w 4≠Hy) && decide (wdT w 4≠Hd)),20)]++(Eb w).2.2++[(!(membersB (Eb w).1 (Eb w).2.1),21)]):=by
  unfold B8;simp only[hk];rfl
 rw[hR]at dt cx;have cx:Bt _=L2 e4 ((Eb w).2.2++[(!(membersB (Eb w).1 (Eb w).2.1),21)]):=cx.trans (by
  rw[W5,W5,W5];congr 2;show Au (Au (Au (Au ((0:Int)) (!(A1 (wdT w 1))) 20) (!(A1 (wdT w 2))) 20) (!(numR (wdT w 3) 1 65535).2) 21) (decide (wdT w 4≠Hy) && decide (wdT w 4≠Hd)) 20=_;rw[ew,du,gm,lj])
 rw[cx]at dt;rw[dt];clear hR dt cx lj;dsimp only at qp|-;generalize L2 e4 ((Eb w).2.2++[(!(membersB (Eb w).1 (Eb w).2.1),21)])=eN at *;generalize Eb w=pr at *;have hn4:(4:Int).toNat<w.length:=by show 4<w.length;omega
 have hx4:w[(4:Int).toNat]'hn4=wdT w 4:=(Dk z_).symm;by_cases ca:wdT w 4=Hy
 .have g1:(!(w[(4:Int).toNat]'hn4==(⟨#[97,99,99,101,115,115]⟩:ByteArray)))=false:=lU (by rw[hx4];exact ca);have q4:Sq 128 [.ptr 0 0,Ab false,Aa 20] (rdO w 4 e3) (.tup []) (rdO w 4 e4):=by
   rw[zL (λx=>x ca)]at q4;exact q4
  refine gB qk F123 qm F122 ?_;refine C qk F123 ?_;refine Ak 9 (Ch {lineZ with row:=row,kind:=2}) rfl vL (T ?_);refine X (Av [(0,31)] (Aw E E F124) q1 E W E V) ?_;refine X (Av [(0,31)] (Aw E E F124) q2 E W E V) ?_;refine X (Ad [(0,31)] E F126 q3 E W E V) ?_;refine X (Ad [(0,31)] E F128 q4 E W E V) ?_;refine X (Ad [(0,31),(1,9)] E F129 qp E W E V) ?_;cases hz:(eN != 0)
  .have bq:eN=0:=by simpa using hz
   rw[zD (by rw[bq];simp)];exact gA
  .have bq:eN≠0:=by simpa using hz
   rw[zE bq];refine T ?_;exact Ak 4 (Ch lineZ) E vL gA
 .have g1:(!(w[(4:Int).toNat]'hn4==(⟨#[97,99,99,101,115,115]⟩:ByteArray)))=true:=Ahl (by rw[hx4];exact ca);have hb:(decide (wdT w 4≠Hy)&&decide (wdT w 4≠Hd))=!(w[(4:Int).toNat]'hn4==(⟨#[116,114,117,110,107]⟩:ByteArray)):=by
   rw[zK ca,yD,hx4];show decide (wdT w 4≠Hd)=!(wdT w 4==Hd);by_cases cr:wdT w 4=Hd
   .rw[lU cr,zL (λx:wdT w 4≠Hd=>x cr)]
   .rw[Ahl cr,zK cr]
  rw[hb]at q4;refine gB qk F123 qm F122 ?_;refine C qk F123 ?_;refine Ak 9 (Ch {lineZ with row:=row,kind:=2}) rfl vL (T ?_);refine X (Av [(0,31)] (Aw E E F124) q1 E W E V) ?_;refine X (Av [(0,31)] (Aw E E F124) q2 E W E V) ?_;refine X (Ad [(0,31)] E F126 q3 E W E V) ?_;refine X (Ad [(0,31)] E F128 q4 E W E V) ?_;refine X (Ad [(0,31),(1,9)] E F129 qp E W E V) ?_;cases hz:(eN != 0)
  .have bq:eN=0:=by simpa using hz
   rw[zD (by rw[bq];simp)];exact gA
  .have bq:eN≠0:=by simpa using hz
   rw[zE bq];refine T ?_;exact Ak 4 (Ch lineZ) E vL gA
def Asi(w:List ByteArray)(row:Int)(hw:w.length<=1000000)(hs:∀s∈w,s.size<=40):Sp 66 [.sl 1 Ar w,Aa row] (.tup [A3 (Cm w row).1,Aa (Cm w row).2]):=by
 by_cases ag:0<w.length
 .cases bu:manyB (kindL (wdT w 0)) w with
  |true=>
   have hr:=eS (wdT w 0);have h0:=(Jm bu).2.2.2.2;rcases (by omega:kindL (wdT w 0)=1\/kindL (wdT w 0)=2\/kindL (wdT w 0)=3\/kindL (wdT w 0)=4\/kindL (wdT w 0)=5\/kindL (wdT w 0)=6\/kindL (wdT w 0)=7\/kindL (wdT w 0)=8\/kindL (wdT w 0)=9) with h|h|h|h|h|h|h|h|h
   .exact Amz w row hw hs ag h (by rw[h]at bu;exact bu)
   .exact Amy w row hw hs ag h (by rw[h]at bu;exact bu)
   .exact Amx w row hw hs ag h (by rw[h]at bu;exact bu)
   .exact Amw w row hw hs ag h (by rw[h]at bu;exact bu)
   .exact Amv w row hw hs ag h (by rw[h]at bu;exact bu)
   .exact Amu w row hw hs ag h (by rw[h]at bu;exact bu)
   .exact Amt w row hw hs ag h (by rw[h]at bu;exact bu)
   .exact Ams w row hw hs ag h (by rw[h]at bu;exact bu)
   .exact Amr w row hw hs ag h (by rw[h]at bu;exact bu)
  |false=>
   have dt:Cm w row=(lineZ,22):=by rw[Cm,zE (.inr bu)]
   rw[dt];refine Sw Γ hm 100 F66 ntmps66 E λF hF=>by
    have dy:(0:Int).toNat<w.length:=ag;have f0:((w.length:Int)==0)=false:=by rw[zT];omega
    have iq:w[(0:Int).toNat]'dy=wdT w 0:=(Dk ag).symm;have qk:Sp 123 [Ar (w[(0:Int).toNat]'dy)] (Aa (kindL (wdT w 0))):=by
     rw[iq];exact Ib (wdT w 0)
    have qm:=Ia (kindL (wdT w 0)) (eS _) w hw;rw[bu]at qm;refine gB qk F123 qm F122 ?_;exact Ak 4 (Ch lineZ) E vL gA
 .have lm:w=[]:=yB z_;subst lm;have dt:Cm [] row=(lineZ,22):=by rw[Cm,zE (.inl rfl)]
  rw[dt];refine Sw Γ hm 100 F66 ntmps66 E λF hF=>by
   refine T ?_;exact Ak 4 (Ch lineZ) E vL gA
end Go.Sy.Zaa
