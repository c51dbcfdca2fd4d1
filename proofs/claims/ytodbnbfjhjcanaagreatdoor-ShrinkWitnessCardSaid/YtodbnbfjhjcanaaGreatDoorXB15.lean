/- Parts of a proof. -/
import Derived.Test.YtodbnbfjhjcanaaGreatDoorXB13
set_option maxHeartbeats 4000000
set_option linter.all false
namespace Go.Sy.Zaa
open Go.Proofs Go.Proofs.Tryz
section
attribute [local irreducible]G DR
set_option maxRecDepth 100000
def Mo(e:Int)(l:List (Bool×Int)):Int:=l.foldl (λe x=>Au e x.1 x.2) e
def nU:∀(l:List (Bool×Int)) (e:Int),(∀x∈l,x.2≠0)->Mo e l=if e=0 then Bu l else e
 |[],e,_=>by
  show e=_;split
  .rename_i h;rw[h];rfl
  .rfl
 |(b,c)::l,e,h=>by
  have hc:=h (b,c) y_;have ih:=nU l (Au e b c) (λx hx=>h x (by simp[hx]));show Mo (Au e b c) l=_;rw[ih,Bu];dsimp only at hc;by_cases he:e=0
  .subst he;cases b with
   |true=>simp[Au,hc]
   |false=>simp[Au]
  .have:Au e b c=e:=by rw[Au,zD (λx=>he x.2)]
   rw[this,zD he,zD he]
def D4(l:List (Bool×Int))(h:∀x∈l,x.2≠0):Bu l=Mo 0 l:=by rw[nU l 0 h,zE rfl]
def X4(e:Int)(a b:List (Bool×Int)):Mo e (a++b)=Mo (Mo e a) b:=xP
abbrev rlO(w:List ByteArray)(i:Nat)(e:Int)(l:LineM):Obs:=[(0,.box [.sl 1 As w,Aa i,Aa e]),(1,.box (Cj l))]
def Az5(w:List ByteArray):Nat:=if wdT w 4=H9 then 6 else if wdT w 4=Ho then 7 else 5
def nF(a8:Int)(s:ByteArray):(listR a8 s).1.length<=16:=by
 rw[listR];split
 .simp
 .rw[It];cases h:Jg (λp=>numR p 1 a8) [] (C3 44 s) with
  |mk l b=>
   cases b with
   |true=>exact(Te _ _ _ _ h List.Pairwise.nil j_).2.1
   |false=>
    have:∀(ps:List ByteArray) (out r:List Int),Jg (λp=>numR p 1 a8) out ps=(r,false)->r=[]:=by
     intro ps
     induction ps with
     |nil=>intro out r h;rw[Jg]at h;simp at h
     |cons p ps ih=>
      intro out r h;rw[Jg]at h;split at h
      .simp at h;exact h
      .exact ih _ _ h
    rw[this _ _ _ h];simp
set_option maxRecDepth 100000 in
def A4a(w:List ByteArray)(e:Int)(l:LineM)(hw:w.length<=1000000)(hs:∀s∈w,s.size<=40)(h4:4<w.length)(ha:wdT w 4=H9->5<w.length)(htr:wdT w 4=Ho->6<w.length)(x6:l.vlan=0/\l.tagged=[]):Sq 129 [.ptr 0 0,.ptr 1 0] (rlO w 4 e l) (.tup []) (rlO w (Az5 w) (Mo e ((Ep w).2.2++[(!(membersB (Ep w).1 (Ep w).2.1),21)])) {l with vlan:=(Ep w).1,tagged:=(Ep w).2.1}):=cT F129 ntmps129 λF hF=>by
 obtain ⟨row,kind,dev,port,peer,far,name,mac,addr,bits,vlan,num,cost,tagged,imports,exports,addrs⟩:=l;obtain ⟨g1,g2⟩:=x6;dsimp only at g1 g2;subst g1 g2;have q0:Sq 131 [.ptr 0 0] (rdO w 4 e) (As (wdT w 4)) (rdO w 5 e):=Qz w 4 e h4 hw;rw[Az5,Ep,X4];by_cases c1:wdT w 4=H9
 .have b1:(wdT w 4==(⟨#[97,99,99,101,115,115]⟩:ByteArray))=true:=H8 c1;have q1:=bO w 5 e (ha c1) hw;rw[zE c1,zE c1];have q2:=Kx ⟨row,kind,dev,port,peer,far,name,mac,addr,bits,(C5 (wdT w 5)).1,num,cost,[],imports,exports,addrs⟩ (by simp[An]);dsimp only at q2|-;have x7:Mo e [(!(C5 (wdT w 5)).2,21)]=Au e (!(C5 (wdT w 5)).2) 21:=rfl;rw[x7];have q3:=λb=>J6 w 6 (Au e (!(C5 (wdT w 5)).2) 21) b 21
  generalize Au e (!(C5 (wdT w 5)).2) 21=e1 at *;generalize (C5 (wdT w 5)).1=v at *;have ri:Mo e1 [(!(membersB v []),21)]=Au e1 (!(membersB v [])) 21:=rfl;rw[ri];have q3:=q3 (!(membersB v []));generalize Au e1 (!(membersB v [])) 21=e2 at *;generalize membersB v []=mb at *;refine T ?_;refine X (Ad [] E F131 q0 E W E V) ?_;refine X (Ad [] E F125 q1 E W E V) ?_;refine C q2 F209 ?_;refine X (Ad [] E F128 q3 E W E V) ?_;exact A6 E .nil [] (rlO w 6 e2 ⟨row,kind,dev,port,peer,far,name,mac,addr,bits,v,num,cost,[],imports,exports,addrs⟩) (λ_ h=>h) E E U
 .have b1:(wdT w 4==(⟨#[97,99,99,101,115,115]⟩:ByteArray))=false:=Jp c1;rw[zD c1,zD c1];by_cases c2:wdT w 4=Ho
  .have b2:(wdT w 4==(⟨#[116,114,117,110,107]⟩:ByteArray))=true:=H8 c2;have h6:=htr c2;have h5:((5:Nat):Int).toNat<w.length:=by show 5<w.length;omega
   have e5:w[((5:Nat):Int).toNat]'h5=wdT w 5:=(Dq q_).symm;rw[zE c2,zE c2];by_cases c3:wdT w 5=A5i
   .have b3:(w[((5:Nat):Int).toNat]'h5==(⟨#[45]⟩:ByteArray))=true:=H8 (by rw[e5];exact c3);rw[zE c3];have q1:=Aae w 6 e 4094 h6 hw hs;have q2:=Kx ⟨row,kind,dev,port,peer,far,name,mac,addr,bits,0,num,cost,(listR 4094 (wdT w 6)).1,imports,exports,addrs⟩ (by have:=nF 4094 (wdT w 6);simp only[An];omega);dsimp only at q2|-;have x7:Mo e [(!(listR 4094 (wdT w 6)).2,21)]=Au e (!(listR 4094 (wdT w 6)).2) 21:=rfl;rw[x7];have q3:=λb=>J6 w 7 (Au e (!(listR 4094 (wdT w 6)).2) 21) b 21
    generalize Au e (!(listR 4094 (wdT w 6)).2) 21=e1 at *;generalize (listR 4094 (wdT w 6)).1=v at *;have ri:Mo e1 [(!(membersB 0 v),21)]=Au e1 (!(membersB 0 v)) 21:=rfl;rw[ri];have q3:=q3 (!(membersB 0 v));generalize Au e1 (!(membersB 0 v)) 21=e2 at *;generalize membersB 0 v=mb at *;refine T ?_;refine X (Ad [] E F131 q0 E W E V) ?_;refine X (Ad [] E F134 q1 E W E V) ?_;refine C q2 F209 ?_;refine X (Ad [] E F128 q3 E W E V) ?_;exact A6 E .nil [] (rlO w 7 e2 ⟨row,kind,dev,port,peer,far,name,mac,addr,bits,0,num,cost,v,imports,exports,addrs⟩) (λ_ h=>h) E E U
   .have b3:(w[((5:Nat):Int).toNat]'h5==(⟨#[45]⟩:ByteArray))=false:=Jp (by rw[e5];exact c3);rw[zD c3];have q4:=bO w 5 e q_ hw;have x7:Mo e [(!(C5 (wdT w 5)).2,21),(!(listR 4094 (wdT w 6)).2,21)]=Au (Au e (!(C5 (wdT w 5)).2) 21) (!(listR 4094 (wdT w 6)).2) 21:=rfl;dsimp only;rw[x7];generalize Au e (!(C5 (wdT w 5)).2) 21=e0 at *;have q1:=Aae w 6 e0 4094 h6 hw hs;have q2:=Kx ⟨row,kind,dev,port,peer,far,name,mac,addr,bits,(C5 (wdT w 5)).1,num,cost,(listR 4094 (wdT w 6)).1,imports,exports,addrs⟩ (by have:=nF 4094 (wdT w 6);simp only[An];omega);dsimp only at q2;have q3:=λb=>J6 w 7 (Au e0 (!(listR 4094 (wdT w 6)).2) 21) b 21
    generalize Au e0 (!(listR 4094 (wdT w 6)).2) 21=e1 at *;generalize (listR 4094 (wdT w 6)).1=v at *;generalize (C5 (wdT w 5)).1=u at *;have ri:Mo e1 [(!(membersB u v),21)]=Au e1 (!(membersB u v)) 21:=rfl;rw[ri];have q3:=q3 (!(membersB u v));generalize Au e1 (!(membersB u v)) 21=e2 at *;generalize membersB u v=mb at *;refine T ?_;refine X (Ad [] E F131 q0 E W E V) ?_;refine X (Ad [] E F125 q4 E W E V) ?_;refine X (Ad [] E F134 q1 E W E V) ?_;refine C q2 F209 ?_;refine X (Ad [] E F128 q3 E W E V) ?_;exact A6 E .nil [] (rlO w 7 e2 ⟨row,kind,dev,port,peer,far,name,mac,addr,bits,u,num,cost,v,imports,exports,addrs⟩) (λ_ h=>h) E E U
  .have b2:(wdT w 4==(⟨#[116,114,117,110,107]⟩:ByteArray))=false:=Jp c2;rw[zD c2,zD c2];have q2:=Kx ⟨row,kind,dev,port,peer,far,name,mac,addr,bits,0,num,cost,[],imports,exports,addrs⟩ (by simp[An]);dsimp only at q2|-;have ri:Mo (Mo e []) [(!(membersB 0 []),21)]=Au e (!(membersB 0 [])) 21:=rfl;rw[ri];have q3:=J6 w 5 e (!(membersB 0 [])) 21;generalize Au e (!(membersB 0 [])) 21=e2 at *;generalize membersB 0 []=mb at *;refine T ?_;refine X (Ad [] E F131 q0 E W E V) ?_;refine C q2 F209 ?_;refine X (Ad [] E F128 q3 E W E V) ?_;exact A6 E .nil [] (rlO w 5 e2 ⟨row,kind,dev,port,peer,far,name,mac,addr,bits,0,num,cost,[],imports,exports,addrs⟩) (λ_ h=>h) E E U
def nK(s:ByteArray):0<=kindL s/\kindL s<=9:=by
 rw[kindL]
 repeat' split
 all_goals decide
def Jw{k:Int}{w:List ByteArray}(h:manyB k w=true):(k=1\/k=6\/k=7->w.length=4)/\(k=3\/k=4\/k=8\/k=9->w.length=5)/\(k=5->w.length=3)/\(k=2->6<=w.length/\w.length<=7/\(wdT w 4=Ho->w.length=7))/\k≠0:=by
 rw[manyB]at h;by_cases h0:k=0
 .rw[zE h0]at h;cases h
 rw[zD h0]at h;by_cases h2:k=2
 .rw[zE h2]at h;by_cases h6:w.length<6
  .rw[zE h6]at h;cases h
  rw[zD h6]at h;refine⟨λx=>by omega,λx=>by omega,λx=>by omega,λ_=>?_,h0⟩;by_cases ca:wdT w 4=H9
  .rw[zE ca]at h;have:=zO h;refine⟨by omega,by omega,λx=>?_⟩;rw[ca]at x;exact yA x Ahi
  .rw[zD ca]at h;by_cases sk:wdT w 4=Ho
   .rw[zE sk]at h;have:=zO h;exact⟨by omega,by omega,λ_=>this⟩
   .rw[zD sk]at h;have:=zO h;exact⟨by omega,by omega,λx=>yA x sk⟩
 rw[zD h2]at h;by_cases h3:k=3\/k=4\/k=8\/k=9
 .rw[zE h3]at h;have:=zO h;exact⟨λx=>by omega,λ_=>this,λx=>by omega,λx=>by omega,h0⟩
 rw[zD h3]at h;by_cases h5:k=5
 .rw[zE h5]at h;have:=zO h;exact⟨λx=>by omega,λx=>by omega,λ_=>this,λx=>by omega,h0⟩
 rw[zD h5]at h;have:=zO h;exact⟨λ_=>this,λx=>by omega,λx=>by omega,λx=>yA x h2,h0⟩
def Aph(w:List ByteArray)(row:Int)(hw:w.length<=1000000)(hs:∀s∈w,s.size<=40)(af:0<w.length)(hk:kindL (wdT w 0)=1)(bz:manyB 1 w=true):Sp 66 [.sl 1 As w,Aa row] (.tup [A5 (Cp w row).1,Aa (Cp w row).2]):=cT F66 ntmps66 λF hF=>by
 have d9:(0:Int).toNat<w.length:=af;have f0:((w.length:Int)==0)=false:=by rw[zU];omega
 have jk:w[(0:Int).toNat]'d9=wdT w 0:=(Dq af).symm;have qk:Sp 123 [As (w[(0:Int).toNat]'d9)] (Aa 1):=by
  have:=Io (wdT w 0);rw[hk]at this;rw[jk];exact this
 have qm:=Im 1 j_ w hw;rw[bz]at qm;have iq:=Jw bz;have du:Cp w row=if Bu (B8 w row).2≠0 then (lineZ,Bu (B8 w row).2) else ((B8 w row).1,0):=by
  rw[Cp,zD];rintro (hh|hh)
  .rw[hh]at af;simp at af
  .rw[hk,bz]at hh;cases hh
 have cz:=D4 _ (Eo w row);have hl:w.length=4:=iq.1 j_;have q1:=Hl w 1 (0:Int) q_ hw hs;obtain ⟨e1,fk⟩:∃e,Au (0:Int) (!(A3 (wdT w 1))) 20=e:=⟨_,rfl⟩
 rw[fk]at q1;have q2:=Xr w 2 e1 0 65535 q_ hw;obtain ⟨e2,dw⟩:∃e,Au e1 (!(numR (wdT w 2) 0 65535).2) 21=e:=⟨_,rfl⟩
 rw[dw]at q2;have q3:=Azz w 3 e2 q_ hw hs;obtain ⟨e3,iu⟩:∃e,Au e2 (macE (wdT w 3)) 21=e:=⟨_,rfl⟩
 rw[iu]at q3;have hR:B8 w row=({lineZ with row:=row,kind:=1,dev:=wdT w 1,num:=(numR (wdT w 2) 0 65535).1,mac:=(macR (wdT w 3)).1},[((!(A3 (wdT w 1))),20),((!(numR (wdT w 2) 0 65535).2),21),((macE (wdT w 3)),21)]):=by
  unfold B8;simp only[hk];rfl
 rw[hR]at du cz;have cz:Bu _=e3:=cz.trans (by
  show Au (Au (Au ((0:Int)) (!(A3 (wdT w 1))) 20) (!(numR (wdT w 2) 0 65535).2) 21) (macE (wdT w 3)) 21=_;rw[fk,dw,iu])
 rw[cz]at du;rw[du];generalize e3=eN at *;refine gB qk F123 qm F122 ?_;refine C qk F123 ?_;refine Ak 9 (Cj {lineZ with row:=row,kind:=1}) rfl vL (T ?_);refine X (Av [(0,31)] (Aw E E F124) q1 E W E V) ?_;refine X (Ad [(0,31)] E F126 q2 E W E V) ?_;refine X (Ad [(0,31)] E F127 q3 E W E V) ?_;cases hz:(eN != 0)
 .have bw:eN=0:=by simpa using hz
  rw[zD (by rw[bw];simp)];exact gA
 .have bw:eN≠0:=by simpa using hz
  rw[zE bw];refine T ?_;exact Ak 4 (Cj lineZ) E vL gA
def Apf(w:List ByteArray)(row:Int)(hw:w.length<=1000000)(hs:∀s∈w,s.size<=40)(af:0<w.length)(hk:kindL (wdT w 0)=3)(bz:manyB 3 w=true):Sp 66 [.sl 1 As w,Aa row] (.tup [A5 (Cp w row).1,Aa (Cp w row).2]):=cT F66 ntmps66 λF hF=>by
 have d9:(0:Int).toNat<w.length:=af;have f0:((w.length:Int)==0)=false:=by rw[zU];omega
 have jk:w[(0:Int).toNat]'d9=wdT w 0:=(Dq af).symm;have qk:Sp 123 [As (w[(0:Int).toNat]'d9)] (Aa 3):=by
  have:=Io (wdT w 0);rw[hk]at this;rw[jk];exact this
 have qm:=Im 3 j_ w hw;rw[bz]at qm;have iq:=Jw bz;have du:Cp w row=if Bu (B8 w row).2≠0 then (lineZ,Bu (B8 w row).2) else ((B8 w row).1,0):=by
  rw[Cp,zD];rintro (hh|hh)
  .rw[hh]at af;simp at af
  .rw[hk,bz]at hh;cases hh
 have cz:=D4 _ (Eo w row);have hl:w.length=5:=iq.2.1 j_;have q1:=Hl w 1 (0:Int) q_ hw hs;obtain ⟨e1,fk⟩:∃e,Au (0:Int) (!(A3 (wdT w 1))) 20=e:=⟨_,rfl⟩
 rw[fk]at q1;have q2:=Hl w 2 e1 q_ hw hs;obtain ⟨e2,dw⟩:∃e,Au e1 (!(A3 (wdT w 2))) 20=e:=⟨_,rfl⟩
 rw[dw]at q2;have q3:=Hl w 3 e2 q_ hw hs;obtain ⟨e3,iu⟩:∃e,Au e2 (!(A3 (wdT w 3))) 20=e:=⟨_,rfl⟩
 rw[iu]at q3;have q4:=Hl w 4 e3 q_ hw hs;obtain ⟨e4,ls⟩:∃e,Au e3 (!(A3 (wdT w 4))) 20=e:=⟨_,rfl⟩
 rw[ls]at q4;have hR:B8 w row=({lineZ with row:=row,kind:=3,dev:=wdT w 1,port:=wdT w 2,peer:=wdT w 3,far:=wdT w 4},[((!(A3 (wdT w 1))),20),((!(A3 (wdT w 2))),20),((!(A3 (wdT w 3))),20),((!(A3 (wdT w 4))),20)]):=by
  unfold B8;simp only[hk];rfl
 rw[hR]at du cz;have cz:Bu _=e4:=cz.trans (by
  show Au (Au (Au (Au ((0:Int)) (!(A3 (wdT w 1))) 20) (!(A3 (wdT w 2))) 20) (!(A3 (wdT w 3))) 20) (!(A3 (wdT w 4))) 20=_;rw[fk,dw,iu,ls])
 rw[cz]at du;rw[du];generalize e4=eN at *;refine gB qk F123 qm F122 ?_;refine C qk F123 ?_;refine Ak 9 (Cj {lineZ with row:=row,kind:=3}) rfl vL (T ?_);refine X (Av [(0,31)] (Aw E E F124) q1 E W E V) ?_;refine X (Av [(0,31)] (Aw E E F124) q2 E W E V) ?_;refine X (Av [(0,31)] (Aw E E F124) q3 E W E V) ?_;refine X (Av [(0,31)] (Aw E E F124) q4 E W E V) ?_;cases hz:(eN != 0)
 .have bw:eN=0:=by simpa using hz
  rw[zD (by rw[bw];simp)];exact gA
 .have bw:eN≠0:=by simpa using hz
  rw[zE bw];refine T ?_;exact Ak 4 (Cj lineZ) E vL gA
def Ape(w:List ByteArray)(row:Int)(hw:w.length<=1000000)(hs:∀s∈w,s.size<=40)(af:0<w.length)(hk:kindL (wdT w 0)=4)(bz:manyB 4 w=true):Sp 66 [.sl 1 As w,Aa row] (.tup [A5 (Cp w row).1,Aa (Cp w row).2]):=cT F66 ntmps66 λF hF=>by
 have d9:(0:Int).toNat<w.length:=af;have f0:((w.length:Int)==0)=false:=by rw[zU];omega
 have jk:w[(0:Int).toNat]'d9=wdT w 0:=(Dq af).symm;have qk:Sp 123 [As (w[(0:Int).toNat]'d9)] (Aa 4):=by
  have:=Io (wdT w 0);rw[hk]at this;rw[jk];exact this
 have qm:=Im 4 j_ w hw;rw[bz]at qm;have iq:=Jw bz;have du:Cp w row=if Bu (B8 w row).2≠0 then (lineZ,Bu (B8 w row).2) else ((B8 w row).1,0):=by
  rw[Cp,zD];rintro (hh|hh)
  .rw[hh]at af;simp at af
  .rw[hk,bz]at hh;cases hh
 have cz:=D4 _ (Eo w row);have hl:w.length=5:=iq.2.1 j_;have q1:=Hl w 1 (0:Int) q_ hw hs;obtain ⟨e1,fk⟩:∃e,Au (0:Int) (!(A3 (wdT w 1))) 20=e:=⟨_,rfl⟩
 rw[fk]at q1;have q2:=bO w 2 e1 q_ hw;obtain ⟨e2,dw⟩:∃e,Au e1 (!(C5 (wdT w 2)).2) 21=e:=⟨_,rfl⟩
 rw[dw]at q2;have q3:=Azz w 3 e2 q_ hw hs;obtain ⟨e3,iu⟩:∃e,Au e2 (macE (wdT w 3)) 21=e:=⟨_,rfl⟩
 rw[iu]at q3;have q4:=Hl w 4 e3 q_ hw hs;obtain ⟨e4,ls⟩:∃e,Au e3 (!(A3 (wdT w 4))) 20=e:=⟨_,rfl⟩
 rw[ls]at q4;have hR:B8 w row=({lineZ with row:=row,kind:=4,dev:=wdT w 1,vlan:=(C5 (wdT w 2)).1,mac:=(macR (wdT w 3)).1,port:=wdT w 4},[((!(A3 (wdT w 1))),20),((!(C5 (wdT w 2)).2),21),((macE (wdT w 3)),21),((!(A3 (wdT w 4))),20)]):=by
  unfold B8;simp only[hk];rfl
 rw[hR]at du cz;have cz:Bu _=e4:=cz.trans (by
  show Au (Au (Au (Au ((0:Int)) (!(A3 (wdT w 1))) 20) (!(C5 (wdT w 2)).2) 21) (macE (wdT w 3)) 21) (!(A3 (wdT w 4))) 20=_;rw[fk,dw,iu,ls])
 rw[cz]at du;rw[du];generalize e4=eN at *;refine gB qk F123 qm F122 ?_;refine C qk F123 ?_;refine Ak 9 (Cj {lineZ with row:=row,kind:=4}) rfl vL (T ?_);refine X (Av [(0,31)] (Aw E E F124) q1 E W E V) ?_;refine X (Av [(0,31)] (Aw E E F125) q2 E W E V) ?_;refine X (Ad [(0,31)] E F127 q3 E W E V) ?_;refine X (Av [(0,31)] (Aw E E F124) q4 E W E V) ?_;cases hz:(eN != 0)
 .have bw:eN=0:=by simpa using hz
  rw[zD (by rw[bw];simp)];exact gA
 .have bw:eN≠0:=by simpa using hz
  rw[zE bw];refine T ?_;exact Ak 4 (Cj lineZ) E vL gA
def Apc(w:List ByteArray)(row:Int)(hw:w.length<=1000000)(hs:∀s∈w,s.size<=40)(af:0<w.length)(hk:kindL (wdT w 0)=6)(bz:manyB 6 w=true):Sp 66 [.sl 1 As w,Aa row] (.tup [A5 (Cp w row).1,Aa (Cp w row).2]):=cT F66 ntmps66 λF hF=>by
 have d9:(0:Int).toNat<w.length:=af;have f0:((w.length:Int)==0)=false:=by rw[zU];omega
 have jk:w[(0:Int).toNat]'d9=wdT w 0:=(Dq af).symm;have qk:Sp 123 [As (w[(0:Int).toNat]'d9)] (Aa 6):=by
  have:=Io (wdT w 0);rw[hk]at this;rw[jk];exact this
 have qm:=Im 6 j_ w hw;rw[bz]at qm;have iq:=Jw bz;have du:Cp w row=if Bu (B8 w row).2≠0 then (lineZ,Bu (B8 w row).2) else ((B8 w row).1,0):=by
  rw[Cp,zD];rintro (hh|hh)
  .rw[hh]at af;simp at af
  .rw[hk,bz]at hh;cases hh
 have cz:=D4 _ (Eo w row);have hl:w.length=4:=iq.1 j_;have q1:=Hl w 1 (0:Int) q_ hw hs;obtain ⟨e1,fk⟩:∃e,Au (0:Int) (!(A3 (wdT w 1))) 20=e:=⟨_,rfl⟩
 rw[fk]at q1;have q2:=bO w 2 e1 q_ hw;obtain ⟨e2,dw⟩:∃e,Au e1 (!(C5 (wdT w 2)).2) 21=e:=⟨_,rfl⟩
 rw[dw]at q2;have q3:=Azy w 3 e2 q_ hw;obtain ⟨e3,iu⟩:∃e,Au e2 (!(Tu (wdT w 3)).2) 21=e:=⟨_,rfl⟩
 rw[iu]at q3;have hR:B8 w row=({lineZ with row:=row,kind:=6,dev:=wdT w 1,vlan:=(C5 (wdT w 2)).1,num:=(Tu (wdT w 3)).1},[((!(A3 (wdT w 1))),20),((!(C5 (wdT w 2)).2),21),((!(Tu (wdT w 3)).2),21)]):=by
  unfold B8;simp only[hk];rfl
 rw[hR]at du cz;have cz:Bu _=e3:=cz.trans (by
  show Au (Au (Au ((0:Int)) (!(A3 (wdT w 1))) 20) (!(C5 (wdT w 2)).2) 21) (!(Tu (wdT w 3)).2) 21=_;rw[fk,dw,iu])
 rw[cz]at du;rw[du];generalize e3=eN at *;refine gB qk F123 qm F122 ?_;refine C qk F123 ?_;refine Ak 9 (Cj {lineZ with row:=row,kind:=6}) rfl vL (T ?_);refine X (Av [(0,31)] (Aw E E F124) q1 E W E V) ?_;refine X (Av [(0,31)] (Aw E E F125) q2 E W E V) ?_;refine X (Ad [(0,31)] E F132 q3 E W E V) ?_;cases hz:(eN != 0)
 .have bw:eN=0:=by simpa using hz
  rw[zD (by rw[bw];simp)];exact gA
 .have bw:eN≠0:=by simpa using hz
  rw[zE bw];refine T ?_;exact Ak 4 (Cj lineZ) E vL gA
def Apa(w:List ByteArray)(row:Int)(hw:w.length<=1000000)(hs:∀s∈w,s.size<=40)(af:0<w.length)(hk:kindL (wdT w 0)=8)(bz:manyB 8 w=true):Sp 66 [.sl 1 As w,Aa row] (.tup [A5 (Cp w row).1,Aa (Cp w row).2]):=cT F66 ntmps66 λF hF=>by
 have d9:(0:Int).toNat<w.length:=af;have f0:((w.length:Int)==0)=false:=by rw[zU];omega
 have jk:w[(0:Int).toNat]'d9=wdT w 0:=(Dq af).symm;have qk:Sp 123 [As (w[(0:Int).toNat]'d9)] (Aa 8):=by
  have:=Io (wdT w 0);rw[hk]at this;rw[jk];exact this
 have qm:=Im 8 j_ w hw;rw[bz]at qm;have iq:=Jw bz;have du:Cp w row=if Bu (B8 w row).2≠0 then (lineZ,Bu (B8 w row).2) else ((B8 w row).1,0):=by
  rw[Cp,zD];rintro (hh|hh)
  .rw[hh]at af;simp at af
  .rw[hk,bz]at hh;cases hh
 have cz:=D4 _ (Eo w row);have hl:w.length=5:=iq.2.1 j_;have q1:=Hl w 1 (0:Int) q_ hw hs;obtain ⟨e1,fk⟩:∃e,Au (0:Int) (!(A3 (wdT w 1))) 20=e:=⟨_,rfl⟩
 rw[fk]at q1;have q2:=Hl w 2 e1 q_ hw hs;obtain ⟨e2,dw⟩:∃e,Au e1 (!(A3 (wdT w 2))) 20=e:=⟨_,rfl⟩
 rw[dw]at q2;have q3:=Aae w 3 e2 65535 q_ hw hs;obtain ⟨e3,iu⟩:∃e,Au e2 (!(listR 65535 (wdT w 3)).2) 21=e:=⟨_,rfl⟩
 rw[iu]at q3;have q4:=Aae w 4 e3 65535 q_ hw hs;obtain ⟨e4,ls⟩:∃e,Au e3 (!(listR 65535 (wdT w 4)).2) 21=e:=⟨_,rfl⟩
 rw[ls]at q4;have hR:B8 w row=({lineZ with row:=row,kind:=8,dev:=wdT w 1,name:=wdT w 2,imports:=(listR 65535 (wdT w 3)).1,exports:=(listR 65535 (wdT w 4)).1},[((!(A3 (wdT w 1))),20),((!(A3 (wdT w 2))),20),((!(listR 65535 (wdT w 3)).2),21),((!(listR 65535 (wdT w 4)).2),21)]):=by
  unfold B8;simp only[hk];rfl
 rw[hR]at du cz;have cz:Bu _=e4:=cz.trans (by
  show Au (Au (Au (Au ((0:Int)) (!(A3 (wdT w 1))) 20) (!(A3 (wdT w 2))) 20) (!(listR 65535 (wdT w 3)).2) 21) (!(listR 65535 (wdT w 4)).2) 21=_;rw[fk,dw,iu,ls])
 rw[cz]at du;rw[du];generalize e4=eN at *;refine gB qk F123 qm F122 ?_;refine C qk F123 ?_;refine Ak 9 (Cj {lineZ with row:=row,kind:=8}) rfl vL (T ?_);refine X (Av [(0,31)] (Aw E E F124) q1 E W E V) ?_;refine X (Av [(0,31)] (Aw E E F124) q2 E W E V) ?_;refine X (Ad [(0,31)] E F134 q3 E W E V) ?_;refine X (Ad [(0,31)] E F134 q4 E W E V) ?_;cases hz:(eN != 0)
 .have bw:eN=0:=by simpa using hz
  rw[zD (by rw[bw];simp)];exact gA
 .have bw:eN≠0:=by simpa using hz
  rw[zE bw];refine T ?_;exact Ak 4 (Cj lineZ) E vL gA
def Apd(w:List ByteArray)(row:Int)(hw:w.length<=1000000)(hs:∀s∈w,s.size<=40)(af:0<w.length)(hk:kindL (wdT w 0)=5)(bz:manyB 5 w=true):Sp 66 [.sl 1 As w,Aa row] (.tup [A5 (Cp w row).1,Aa (Cp w row).2]):=cT F66 ntmps66 λF hF=>by
 have d9:(0:Int).toNat<w.length:=af;have f0:((w.length:Int)==0)=false:=by rw[zU];omega
 have jk:w[(0:Int).toNat]'d9=wdT w 0:=(Dq af).symm;have qk:Sp 123 [As (w[(0:Int).toNat]'d9)] (Aa 5):=by
  have:=Io (wdT w 0);rw[hk]at this;rw[jk];exact this
 have qm:=Im 5 j_ w hw;rw[bz]at qm;have iq:=Jw bz;have du:Cp w row=if Bu (B8 w row).2≠0 then (lineZ,Bu (B8 w row).2) else ((B8 w row).1,0):=by
  rw[Cp,zD];rintro (hh|hh)
  .rw[hh]at af;simp at af
  .rw[hk,bz]at hh;cases hh
 have cz:=D4 _ (Eo w row);have hl:w.length=3:=iq.2.2.1 rfl;have q1:=Hl w 1 (0:Int) q_ hw hs;obtain ⟨e1,fk⟩:∃e,Au (0:Int) (!(A3 (wdT w 1))) 20=e:=⟨_,rfl⟩
 rw[fk]at q1;have qn:=Qz w 2 e1 q_ hw;have bg:(wdT w 2).size<=40:=by rw[Dq (by omega:2<w.length)];exact hs _ (zI _)
 have qa:=lE (wdT w 2) q_;have q2:=J6 w 3 e1 (!((D8 (wdT w 2)).2&&decide ((D8 (wdT w 2)).1≠0))) 21;obtain ⟨e2,dw⟩:∃e,Au e1 (!((D8 (wdT w 2)).2&&decide ((D8 (wdT w 2)).1≠0))) 21=e:=⟨_,rfl⟩
 rw[dw]at q2;have hR:B8 w row=({lineZ with row:=row,kind:=5,dev:=wdT w 1,addr:=(D8 (wdT w 2)).1},[((!(A3 (wdT w 1))),20),((!((D8 (wdT w 2)).2&&decide ((D8 (wdT w 2)).1≠0))),21)]):=by
  unfold B8;simp only[hk];rfl
 rw[hR]at du cz;have cz:Bu _=e2:=cz.trans (by
  show Au (Au ((0:Int)) (!(A3 (wdT w 1))) 20) (!((D8 (wdT w 2)).2 && decide ((D8 (wdT w 2)).1≠0))) 21=_;rw[fk,dw])
 rw[cz]at du;rw[du];generalize e2=eN at *;clear hR du cz dw;generalize D8 (wdT w 2)=rt at *;obtain ⟨av,ok⟩:=rt;dsimp only at qa q2|-;cases ok
 .have q2:Sq 128 [.ptr 0 0,Ab true,Aa 21] (rdO w 3 e1) (.tup []) (rdO w 3 eN):=q2;refine gB qk F123 qm F122 ?_;refine C qk F123 ?_;refine Ak 9 (Cj {lineZ with row:=row,kind:=5}) rfl vL (T ?_);refine X (Av [(0,31)] (Aw E E F124) q1 E W E V) ?_;refine X (Ad [(0,31)] E F131 qn E W E V) ?_;refine C qa F130 ?_;refine X (Ad [(0,31)] E F128 q2 E W E V) ?_;cases hz:(eN != 0)
  .have bw:eN=0:=by simpa using hz
   rw[zD (by rw[bw];simp)];exact gA
  .have bw:eN≠0:=by simpa using hz
   rw[zE bw];refine T ?_;exact Ak 4 (Cj lineZ) E vL gA
 .have hb:(!(true&&decide (av≠0)))=(av==0):=by
   by_cases h:av=0
   .rw[h];rfl
   .rw[zL h,zU.2 h];rfl
  rw[hb]at q2;refine gB qk F123 qm F122 ?_;refine C qk F123 ?_;refine Ak 9 (Cj {lineZ with row:=row,kind:=5}) rfl vL (T ?_);refine X (Av [(0,31)] (Aw E E F124) q1 E W E V) ?_;refine X (Ad [(0,31)] E F131 qn E W E V) ?_;refine C qa F130 ?_;refine X (Ad [(0,31)] E F128 q2 E W E V) ?_;cases hz:(eN != 0)
  .have bw:eN=0:=by simpa using hz
   rw[zD (by rw[bw];simp)];exact gA
  .have bw:eN≠0:=by simpa using hz
   rw[zE bw];refine T ?_;exact Ak 4 (Cj lineZ) E vL gA
def Apb(w:List ByteArray)(row:Int)(hw:w.length<=1000000)(hs:∀s∈w,s.size<=40)(af:0<w.length)(hk:kindL (wdT w 0)=7)(bz:manyB 7 w=true):Sp 66 [.sl 1 As w,Aa row] (.tup [A5 (Cp w row).1,Aa (Cp w row).2]):=cT F66 ntmps66 λF hF=>by
 have d9:(0:Int).toNat<w.length:=af;have f0:((w.length:Int)==0)=false:=by rw[zU];omega
 have jk:w[(0:Int).toNat]'d9=wdT w 0:=(Dq af).symm;have qk:Sp 123 [As (w[(0:Int).toNat]'d9)] (Aa 7):=by
  have:=Io (wdT w 0);rw[hk]at this;rw[jk];exact this
 have qm:=Im 7 j_ w hw;rw[bz]at qm;have iq:=Jw bz;have du:Cp w row=if Bu (B8 w row).2≠0 then (lineZ,Bu (B8 w row).2) else ((B8 w row).1,0):=by
  rw[Cp,zD];rintro (hh|hh)
  .rw[hh]at af;simp at af
  .rw[hk,bz]at hh;cases hh
 have cz:=D4 _ (Eo w row);have hl:w.length=4:=iq.1 j_;have q1:=Hl w 1 (0:Int) q_ hw hs;obtain ⟨e1,fk⟩:∃e,Au (0:Int) (!(A3 (wdT w 1))) 20=e:=⟨_,rfl⟩
 rw[fk]at q1;have q2:=Azy w 2 e1 q_ hw;obtain ⟨e2,dw⟩:∃e,Au e1 (!(Tu (wdT w 2)).2) 21=e:=⟨_,rfl⟩
 rw[dw]at q2;have qn:=Qz w 3 e2 q_ hw;have bg:(wdT w 3).size<=40:=by rw[Dq (by omega:3<w.length)];exact hs _ (zI _)
 have qa:=Aet (wdT w 3) q_;have ee:(Ei (wdT w 3)).2=true->0<(Ei (wdT w 3)).1.length:=λh=>by
  have hp:=Aaf h;rw[Ei,It]at hp|-;have:=(Te _ _ _ _ hp List.Pairwise.nil j_).2.2.1;rw[this,L4];simp
 have q3:=J6 w 4 e2 (!((Ei (wdT w 3)).2&&decide ((Ei (wdT w 3)).1.head? ≠ some 0))) 21;obtain ⟨e3,iu⟩:∃e,Au e2 (!((Ei (wdT w 3)).2&&decide ((Ei (wdT w 3)).1.head? ≠ some 0))) 21=e:=⟨_,rfl⟩
 rw[iu]at q3;have hR:B8 w row=({lineZ with row:=row,kind:=7,dev:=wdT w 1,num:=(Tu (wdT w 2)).1,addrs:=(Ei (wdT w 3)).1},[((!(A3 (wdT w 1))),20),((!(Tu (wdT w 2)).2),21),((!((Ei (wdT w 3)).2&&decide ((Ei (wdT w 3)).1.head? ≠ some 0))),21)]):=by
  unfold B8;simp only[hk];rfl
 rw[hR]at du cz;have cz:Bu _=e3:=cz.trans (by
  show Au (Au (Au ((0:Int)) (!(A3 (wdT w 1))) 20) (!(Tu (wdT w 2)).2) 21) (!((Ei (wdT w 3)).2 && decide ((Ei (wdT w 3)).1.head? ≠ some 0))) 21=_;rw[fk,dw,iu])
 rw[cz]at du;rw[du];generalize e3=eN at *;clear hR du cz iu;generalize Ei (wdT w 3)=rt at *;obtain ⟨av,ok⟩:=rt;dsimp only at qa q3 ee|-;cases ok
 .have q3:Sq 128 [.ptr 0 0,Ab true,Aa 21] (rdO w 4 e2) (.tup []) (rdO w 4 eN):=q3;refine gB qk F123 qm F122 ?_;refine C qk F123 ?_;refine Ak 9 (Cj {lineZ with row:=row,kind:=7}) rfl vL (T ?_);refine X (Av [(0,31)] (Aw E E F124) q1 E W E V) ?_;refine X (Ad [(0,31)] E F132 q2 E W E V) ?_;refine X (Ad [(0,31)] E F131 qn E W E V) ?_;refine C qa F133 ?_;refine X (Ad [(0,31)] E F128 q3 E W E V) ?_;cases hz:(eN != 0)
  .have bw:eN=0:=by simpa using hz
   rw[zD (by rw[bw];simp)];exact gA
  .have bw:eN≠0:=by simpa using hz
   rw[zE bw];refine T ?_;exact Ak 4 (Cj lineZ) E vL gA
 .have h0:(0:Int).toNat<av.length:=ee rfl;have hb:(!(true&&decide (av.head? ≠ some 0)))=(av[(0:Int).toNat]'h0==0):=by
   cases av with
   |nil=>exact yA h0 y_
   |cons a r=>
    show (!(true&&decide (some a≠some 0)))=(a==0);by_cases h:a=0
    .rw[h];rfl
    .rw[zU.2 h,zL (kS h)];rfl
  rw[hb]at q3;refine gB qk F123 qm F122 ?_;refine C qk F123 ?_;refine Ak 9 (Cj {lineZ with row:=row,kind:=7}) rfl vL (T ?_);refine X (Av [(0,31)] (Aw E E F124) q1 E W E V) ?_;refine X (Ad [(0,31)] E F132 q2 E W E V) ?_;refine X (Ad [(0,31)] E F131 qn E W E V) ?_;refine C qa F133 ?_;refine X (Ad [(0,31)] E F128 q3 E W E V) ?_;cases hz:(eN != 0)
  .have bw:eN=0:=by simpa using hz
   rw[zD (by rw[bw];simp)];exact gA
  .have bw:eN≠0:=by simpa using hz
   rw[zE bw];refine T ?_;exact Ak 4 (Cj lineZ) E vL gA
def Aie(s:ByteArray):∃m:Nat,(prefixR s).1.1=m/\m<4294967296:=by
 rw[prefixR];split
 .exact⟨0,E,by decide⟩
 .have h1:=Mq (cutT 47 s).1;have h2:=U5 (cutT 47 s).1;exact⟨(D8 (cutT 47 s).1).1.toNat,(yR h1).symm,by omega⟩
def Ao9(w:List ByteArray)(row:Int)(hw:w.length<=1000000)(hs:∀s∈w,s.size<=40)(af:0<w.length)(hk:kindL (wdT w 0)=9)(bz:manyB 9 w=true):Sp 66 [.sl 1 As w,Aa row] (.tup [A5 (Cp w row).1,Aa (Cp w row).2]):=cT F66 ntmps66 λF hF=>by
 have d9:(0:Int).toNat<w.length:=af;have f0:((w.length:Int)==0)=false:=by rw[zU];omega
 have jk:w[(0:Int).toNat]'d9=wdT w 0:=(Dq af).symm;have qk:Sp 123 [As (w[(0:Int).toNat]'d9)] (Aa 9):=by
  have:=Io (wdT w 0);rw[hk]at this;rw[jk];exact this
 have qm:=Im 9 j_ w hw;rw[bz]at qm;have iq:=Jw bz;have du:Cp w row=if Bu (B8 w row).2≠0 then (lineZ,Bu (B8 w row).2) else ((B8 w row).1,0):=by
  rw[Cp,zD];rintro (hh|hh)
  .rw[hh]at af;simp at af
  .rw[hk,bz]at hh;cases hh
 have cz:=D4 _ (Eo w row);have hl:w.length=5:=iq.2.1 j_;have q1:=Hl w 1 (0:Int) q_ hw hs;obtain ⟨e1,fk⟩:∃e,Au (0:Int) (!(A3 (wdT w 1))) 20=e:=⟨_,rfl⟩
 rw[fk]at q1;have q2:=bO w 2 e1 q_ hw;obtain ⟨e2,dw⟩:∃e,Au e1 (!(C5 (wdT w 2)).2) 21=e:=⟨_,rfl⟩
 rw[dw]at q2;have q3:=Hl w 3 e2 q_ hw hs;obtain ⟨e3,iu⟩:∃e,Au e2 (!(A3 (wdT w 3))) 20=e:=⟨_,rfl⟩
 rw[iu]at q3;have qn:=Qz w 4 e3 q_ hw;have bg:(wdT w 4).size<=40:=by rw[Dq (by omega:4<w.length)];exact hs _ (zI _)
 have qa:=Aoe (wdT w 4) q_;have hrg:=Aie (wdT w 4);have q4:=J6 w 5 e3 (!((prefixR (wdT w 4)).2&&subnetB (prefixR (wdT w 4)).1.1 (prefixR (wdT w 4)).1.2)) 21;obtain ⟨e4,ls⟩:∃e,Au e3 (!((prefixR (wdT w 4)).2&&subnetB (prefixR (wdT w 4)).1.1 (prefixR (wdT w 4)).1.2)) 21=e:=⟨_,rfl⟩
 rw[ls]at q4;have hR:B8 w row=({lineZ with row:=row,kind:=9,dev:=wdT w 1,vlan:=(C5 (wdT w 2)).1,name:=wdT w 3,addr:=(prefixR (wdT w 4)).1.1,bits:=(prefixR (wdT w 4)).1.2},[((!(A3 (wdT w 1))),20),((!(C5 (wdT w 2)).2),21),((!(A3 (wdT w 3))),20),((!((prefixR (wdT w 4)).2&&subnetB (prefixR (wdT w 4)).1.1 (prefixR (wdT w 4)).1.2)),21)]):=by
  unfold B8;simp only[hk];rfl
 rw[hR]at du cz;have cz:Bu _=e4:=cz.trans (by
  show Au (Au (Au (Au ((0:Int)) (!(A3 (wdT w 1))) 20) (!(C5 (wdT w 2)).2) 21) (!(A3 (wdT w 3))) 20) (!((prefixR (wdT w 4)).2 && subnetB (prefixR (wdT w 4)).1.1 (prefixR (wdT w 4)).1.2)) 21=_;rw[fk,dw,iu,ls])
 rw[cz]at du;rw[du];generalize e4=eN at *;clear hR du cz ls;obtain ⟨m,bj,cd⟩:=hrg;generalize prefixR (wdT w 4)=rt at *;obtain ⟨⟨av,bv⟩,ok⟩:=rt;dsimp only at qa q4 bj|-;subst bj;have qs:=lK m bv cd;generalize subnetB (m:Int) bv=sb at *;cases ok
 .have q4:Sq 128 [.ptr 0 0,Ab true,Aa 21] (rdO w 5 e3) (.tup []) (rdO w 5 eN):=q4;refine gB qk F123 qm F122 ?_;refine C qk F123 ?_;refine Ak 9 (Cj {lineZ with row:=row,kind:=9}) rfl vL (T ?_);refine X (Av [(0,31)] (Aw E E F124) q1 E W E V) ?_;refine X (Av [(0,31)] (Aw E E F125) q2 E W E V) ?_;refine X (Av [(0,31)] (Aw E E F124) q3 E W E V) ?_;refine X (Ad [(0,31)] E F131 qn E W E V) ?_;refine C qa F135 ?_;refine X (Ad [(0,31)] E F128 q4 E W E V) ?_;cases hz:(eN != 0)
  .have bw:eN=0:=by simpa using hz
   rw[zD (by rw[bw];simp)];exact gA
  .have bw:eN≠0:=by simpa using hz
   rw[zE bw];refine T ?_;exact Ak 4 (Cj lineZ) E vL gA
 .have hb:(!(true&&sb))=!sb:=rfl;rw[hb]at q4;refine gB qk F123 qm F122 ?_;refine C qk F123 ?_;refine Ak 9 (Cj {lineZ with row:=row,kind:=9}) rfl vL (T ?_);refine X (Av [(0,31)] (Aw E E F124) q1 E W E V) ?_;refine X (Av [(0,31)] (Aw E E F125) q2 E W E V) ?_;refine X (Av [(0,31)] (Aw E E F124) q3 E W E V) ?_;refine X (Ad [(0,31)] E F131 qn E W E V) ?_;refine gK qa F135 qs F136 ?_;refine X (Ad [(0,31)] E F128 q4 E W E V) ?_;cases hz:(eN != 0)
  .have bw:eN=0:=by simpa using hz
   rw[zD (by rw[bw];simp)];exact gA
  .have bw:eN≠0:=by simpa using hz
   rw[zE bw];refine T ?_;exact Ak 4 (Cj lineZ) E vL gA
def Apg(w:List ByteArray)(row:Int)(hw:w.length<=1000000)(hs:∀s∈w,s.size<=40)(af:0<w.length)(hk:kindL (wdT w 0)=2)(bz:manyB 2 w=true):Sp 66 [.sl 1 As w,Aa row] (.tup [A5 (Cp w row).1,Aa (Cp w row).2]):=cT F66 ntmps66 λF hF=>by
 have d9:(0:Int).toNat<w.length:=af;have f0:((w.length:Int)==0)=false:=by rw[zU];omega
 have jk:w[(0:Int).toNat]'d9=wdT w 0:=(Dq af).symm;have qk:Sp 123 [As (w[(0:Int).toNat]'d9)] (Aa 2):=by
  have:=Io (wdT w 0);rw[hk]at this;rw[jk];exact this
 have qm:=Im 2 j_ w hw;rw[bz]at qm;have iq:=Jw bz;have du:Cp w row=if Bu (B8 w row).2≠0 then (lineZ,Bu (B8 w row).2) else ((B8 w row).1,0):=by
  rw[Cp,zD];rintro (hh|hh)
  .rw[hh]at af;simp at af
  .rw[hk,bz]at hh;cases hh
 have cz:=D4 _ (Eo w row);have hl:6<=w.length/\w.length<=7/\(wdT w 4=Ho->w.length=7):=iq.2.2.2.1 rfl;have q1:=Hl w 1 (0:Int) q_ hw hs;obtain ⟨e1,fk⟩:∃e,Au (0:Int) (!(A3 (wdT w 1))) 20=e:=⟨_,rfl⟩
 rw[fk]at q1;have q2:=Hl w 2 e1 q_ hw hs;obtain ⟨e2,dw⟩:∃e,Au e1 (!(A3 (wdT w 2))) 20=e:=⟨_,rfl⟩
 rw[dw]at q2;have q3:=Xr w 3 e2 1 65535 q_ hw;obtain ⟨e3,iu⟩:∃e,Au e2 (!(numR (wdT w 3) 1 65535).2) 21=e:=⟨_,rfl⟩
 rw[iu]at q3;have q4:=J6 w 4 e3 (decide (wdT w 4≠H9)&&decide (wdT w 4≠Ho)) 20;obtain ⟨e4,ls⟩:∃e,Au e3 (decide (wdT w 4≠H9)&&decide (wdT w 4≠Ho)) 20=e:=⟨_,rfl⟩
 rw[ls]at q4;have qp:=A4a w e4 { lineZ with row:=row,kind:=2,dev:=wdT w 1,port:=wdT w 2,cost:=(numR (wdT w 3) 1 65535).1 } hw hs q_ (λ x=>by
  have h6:w.length=6:=by
   have hm3:=bz;rw[manyB,zD j_,zE rfl,zD q_,zE x]at hm3;exact zO hm3
  omega) (λ x=>by have:=hl.2.2 x;omega) ⟨rfl,rfl⟩
 have hR:B8 w row=({ lineZ with row:=row,kind:=2,dev:=wdT w 1,port:=wdT w 2,cost:=(numR (wdT w 3) 1 65535).1,vlan:=(Ep w).1,tagged:=(Ep w).2.1 },
   [((!(A3 (wdT w 1))),20),((!(A3 (wdT w 2))),20),((!(numR (wdT w 3) 1 65535).2),21),((decide (wdT w 4≠H9) && decide (wdT w 4≠Ho)),20)]++(Ep w).2.2++[(!(membersB (Ep w).1 (Ep w).2.1),21)]):=by
  unfold B8;simp only[hk];rfl
 rw[hR]at du cz;have cz:Bu _=Mo e4 ((Ep w).2.2++[(!(membersB (Ep w).1 (Ep w).2.1),21)]):=cz.trans (by
  rw[X4,X4,X4];congr 2;show Au (Au (Au (Au ((0:Int)) (!(A3 (wdT w 1))) 20) (!(A3 (wdT w 2))) 20) (!(numR (wdT w 3) 1 65535).2) 21) (decide (wdT w 4≠H9) && decide (wdT w 4≠Ho)) 20=_;rw[fk,dw,iu,ls])
 rw[cz]at du;rw[du];clear hR du cz ls;dsimp only at qp|-;generalize Mo e4 ((Ep w).2.2++[(!(membersB (Ep w).1 (Ep w).2.1),21)])=eN at *;generalize Ep w=pr at *;have hn4:(4:Int).toNat<w.length:=by show 4<w.length;omega
 have hx4:w[(4:Int).toNat]'hn4=wdT w 4:=(Dq q_).symm;by_cases ca:wdT w 4=H9
 .have g1:(!(w[(4:Int).toNat]'hn4==(⟨#[97,99,99,101,115,115]⟩:ByteArray)))=false:=Aan (by rw[hx4];exact ca);have q4:Sq 128 [.ptr 0 0,Ab false,Aa 20] (rdO w 4 e3) (.tup []) (rdO w 4 e4):=by
   rw[zK (λx=>x ca)]at q4;exact q4
  refine gB qk F123 qm F122 ?_;refine C qk F123 ?_;refine Ak 9 (Cj {lineZ with row:=row,kind:=2}) rfl vL (T ?_);refine X (Av [(0,31)] (Aw E E F124) q1 E W E V) ?_;refine X (Av [(0,31)] (Aw E E F124) q2 E W E V) ?_;refine X (Ad [(0,31)] E F126 q3 E W E V) ?_;refine X (Ad [(0,31)] E F128 q4 E W E V) ?_;refine X (Ad [(0,31),(1,9)] E F129 qp E W E V) ?_;cases hz:(eN != 0)
  .have bw:eN=0:=by simpa using hz
   rw[zD (by rw[bw];simp)];exact gA
  .have bw:eN≠0:=by simpa using hz
   rw[zE bw];refine T ?_;exact Ak 4 (Cj lineZ) E vL gA
 .have g1:(!(w[(4:Int).toNat]'hn4==(⟨#[97,99,99,101,115,115]⟩:ByteArray)))=true:=Ajr (by rw[hx4];exact ca);have hb:(decide (wdT w 4≠H9)&&decide (wdT w 4≠Ho))=!(w[(4:Int).toNat]'hn4==(⟨#[116,114,117,110,107]⟩:ByteArray)):=by
   rw[zL ca,yG,hx4];show decide (wdT w 4≠Ho)=!(wdT w 4==Ho);by_cases cr:wdT w 4=Ho
   .rw[Aan cr,zK (λx:wdT w 4≠Ho=>x cr)]
   .rw[Ajr cr,zL cr]
  rw[hb]at q4;refine gB qk F123 qm F122 ?_;refine C qk F123 ?_;refine Ak 9 (Cj {lineZ with row:=row,kind:=2}) rfl vL (T ?_);refine X (Av [(0,31)] (Aw E E F124) q1 E W E V) ?_;refine X (Av [(0,31)] (Aw E E F124) q2 E W E V) ?_;refine X (Ad [(0,31)] E F126 q3 E W E V) ?_;refine X (Ad [(0,31)] E F128 q4 E W E V) ?_;refine X (Ad [(0,31),(1,9)] E F129 qp E W E V) ?_;cases hz:(eN != 0)
  .have bw:eN=0:=by simpa using hz
   rw[zD (by rw[bw];simp)];exact gA
  .have bw:eN≠0:=by simpa using hz
   rw[zE bw];refine T ?_;exact Ak 4 (Cj lineZ) E vL gA
def Au5(w:List ByteArray)(row:Int)(hw:w.length<=1000000)(hs:∀s∈w,s.size<=40):Sp 66 [.sl 1 As w,Aa row] (.tup [A5 (Cp w row).1,Aa (Cp w row).2]):=by
 by_cases af:0<w.length
 .cases bz:manyB (kindL (wdT w 0)) w with
  |true=>
   have hr:=nK (wdT w 0);have h0:=(Jw bz).2.2.2.2;rcases (by omega:kindL (wdT w 0)=1\/kindL (wdT w 0)=2\/kindL (wdT w 0)=3\/kindL (wdT w 0)=4\/kindL (wdT w 0)=5\/kindL (wdT w 0)=6\/kindL (wdT w 0)=7\/kindL (wdT w 0)=8\/kindL (wdT w 0)=9) with h|h|h|h|h|h|h|h|h
   .exact Aph w row hw hs af h (by rw[h]at bz;exact bz)
   .exact Apg w row hw hs af h (by rw[h]at bz;exact bz)
   .exact Apf w row hw hs af h (by rw[h]at bz;exact bz)
   .exact Ape w row hw hs af h (by rw[h]at bz;exact bz)
   .exact Apd w row hw hs af h (by rw[h]at bz;exact bz)
   .exact Apc w row hw hs af h (by rw[h]at bz;exact bz)
   .exact Apb w row hw hs af h (by rw[h]at bz;exact bz)
   .exact Apa w row hw hs af h (by rw[h]at bz;exact bz)
   .exact Ao9 w row hw hs af h (by rw[h]at bz;exact bz)
  |false=>
   have du:Cp w row=(lineZ,22):=by rw[Cp,zE (.inr bz)]
   rw[du];refine Qj Γ hm 100 F66 ntmps66 E λF hF=>by
    have d9:(0:Int).toNat<w.length:=af;have f0:((w.length:Int)==0)=false:=by rw[zU];omega
    have jk:w[(0:Int).toNat]'d9=wdT w 0:=(Dq af).symm;have qk:Sp 123 [As (w[(0:Int).toNat]'d9)] (Aa (kindL (wdT w 0))):=by
     rw[jk];exact Io (wdT w 0)
    have qm:=Im (kindL (wdT w 0)) (nK _) w hw;rw[bz]at qm;refine gB qk F123 qm F122 ?_;exact Ak 4 (Cj lineZ) E vL gA
 .have lu:w=[]:=yC q_;subst lu;have du:Cp [] row=(lineZ,22):=by rw[Cp,zE (.inl rfl)]
  rw[du];refine Qj Γ hm 100 F66 ntmps66 E λF hF=>by
   refine T ?_;exact Ak 4 (Cj lineZ) E vL gA
def Aei(ae al:Addr)(e:Int)(x:Value)(u:FrameMode)(w:World)(he:w.cell? ae=some (.int .i64 e))(hl:w.cell? al=some x)(hz:w.frozen? al=false):CallsD prog 65 #[.pointer (some ae),.pointer (some al)] u w λr u' w'=>u'=u/\(r=.returned (.tuple #[])/\w'=if e=0 then w else w.setCell al (.slice none 0 0)):=by
 by_cases h:e=0
 .subst h
  go_enter_d func65,ntmps65
  go_wp2
  go_end0
  exact⟨E,by simp⟩
 .rw[zD h]
  go_enter_d func65,ntmps65
  go_wp2
  go_end0
  exact⟨E,E⟩
def Az3{a0' a:Ka}{w0 w:World}{k:Nat}{v:Value}{l:List SV}(h0:Rd a0' w0 (.ptr k 0) v)(hn:a0' k≠.new->a k=a0' k\/a k=.dead)(ho:ObOK a w k (.box l)):∃b,a k=.blk b/\v=.pointer (some ⟨b,0,none⟩):=by
 obtain ⟨b,cs,T,fr,e1,_⟩:=ho;refine⟨b,e1,?_⟩;have af:a0' k≠.new:=λe=>by simp only[Rd,e]at h0
 rcases hn af with h|h
 .rw[e1]at h;simp only[Rd,<-h]at h0;exact h0
 .rw[e1]at h;cases h
def A30{F F2:Fr}{n:Nat}{bn:List Nat}{hbn:∀k,F2.k0 k≠.new->k∈bn}{k:List KI}{s:SS}{L:List LineM}{row e:Int}{cv:List Value}(hd:F2.ds=[⟨.fn (.func 65) cv.toArray,#[]⟩])(oz:RdL F2.k0 F2.w0 [.ptr 4 0,.ptr 2 0] cv)(cj:∀m w,Ctx F2 m w->Ctx F m w)(h2:s.h 2=.box [.sl 17 A5 L])(h4:s.h 4=.box [Aa e])(h3:s.σ 3=Aa row)(p2:s.σ 2=.ptr 2 0)(p4:s.σ 4=.ptr 4 0):G ⟨prog,Γ.toTy,F2,n,Aug prog Tryz.f34 F (.tup [.sl 17 A5 (if e=0 then L else []),Aa row,Aa e]) [],bn,hbn⟩ (.code .ret::k) s:=by
 refine A6b λm a w hs=>?_
 have o2:=hs.obj 2;rw[h2]at o2;have o4:=hs.obj 4;rw[h4]at o4;simp only[RdL]at oz;obtain ⟨v4,r4,rfl,hv4,v2,r2,rfl,ly,rfl⟩:=oz;obtain ⟨b4,k4,rfl⟩:=Az3 hv4 (hs.ctx.nam 4) o4;obtain ⟨b2,k2,rfl⟩:=Az3 ly (hs.ctx.nam 2) o2;obtain ⟨b2',e1,c1,c2,st1,inv1,vv⟩:=Ea (off:=0) (x:=svN) (v:=.slice none 0 0) hs.inv o2 rfl (λm w=>by simp only[Rd]) rfl;have vv:ObOK m (w.setCell ⟨b2',0,none⟩ (.slice none 0 0)) 2 (.box [.sl 17 A5 []]):=by
  obtain ⟨b,cs,T,fr,f1,f2,f3,f4,f5⟩:=vv;refine⟨b,cs,T,fr,f1,f2,f3,f4,?_⟩;have f5:RdL m _ [svN] cs:=f5;simp only[RdL,Rd]at f5|-;obtain ⟨v,r,rfl,rfl,rfl⟩:=f5;exact⟨_,_,E,by simp[RdD],E⟩
 rw[k2]at e1;cases e1;obtain ⟨b4',e4,d1,_,_,_,_⟩:=Ea (off:=0) (x:=Aa e) (v:=.int .i64 e) hs.inv o4 rfl (λm w=>by simp[Rd,Aa]) rfl;rw[k4]at e4;cases e4;obtain ⟨u4,hu4,hr4⟩:=d1 0 (Aa e) rfl;have hu4':u4=.int .i64 e:=by simpa [Aa,Rd] using hr4
 subst hu4';obtain ⟨u2,td,_⟩:=c1 0 _ rfl;show Leaves prog Tryz.f34 a.tmps _ a.defers .returning w;rw[hs.defers,hd];refine leaves_cons (f:=65) (args:=#[.pointer (some ⟨b4,0,none⟩),.pointer (some ⟨b2,0,none⟩)]) y_ (by simp[go_sem]) ?_;refine(Aei ⟨b4,0,none⟩ ⟨b2,0,none⟩ e u2 .returning w hu4 td (c2 0 y_)).mono ?_;rintro r u' y2 ⟨rfl,rfl,rfl⟩;by_cases he:e=0
 .rw[zE he,zE he];obtain ⟨v,g1,g2⟩:=V2 (P:=prog) (Γ:=Γ.toTy) hs (fn:=Tryz.f34) (xs:=[.sl 17 A5 L,Aa row,Aa e]) rfl (.cons (.cell p2 h2 rfl rfl) (.cons (h3▸.tmp) (.cons (.cell p4 h4 rfl rfl) .nil)));exact⟨v,g1,v,m,rfl,cj _ _ hs.ctx,hs.inv,g2,λp hp=>by cases hp⟩
 .rw[zD he,zD he];have jn:St F2 n ⟨s.σ,upd s.h 2 (.box [.sl 17 A5 []])⟩ m a (w.setCell ⟨b2,0,none⟩ (.slice none 0 0)):=⟨hs.defers,hs.size,inv1,hs.ctx.step inv1 st1,λ i=>Rd.step st1 _ _ (hs.slot i),λ j=>by
   show ObOK m _ j (upd s.h 2 _ j);by_cases hj:j=2
   .subst hj;exact vv
   .have:upd s.h 2 (.box [.sl 17 A5 []]) j=s.h j:=by
     simp only[upd];have:Nat.beq j 2=false:=by
      cases hb:Nat.beq j 2
      .rfl
      .exact yA (yK hb) hj
     rw[this];rfl
    rw[this];exact ObOK.step st1 (show ¬ j=2 from hj) _ (hs.obj j)⟩
  obtain ⟨v,g1,g2⟩:=V2 (P:=prog) (Γ:=Γ.toTy) jn (fn:=Tryz.f34) (xs:=[.sl 17 A5 [],Aa row,Aa e]) rfl (.cons (.cell p2 rfl rfl rfl) (.cons (h3▸.tmp) (.cons (.cell p4 h4 rfl rfl) .nil)));exact⟨v,g1,v,m,rfl,cj _ _ jn.ctx,inv1,g2,λp hp=>by cases hp⟩
def aW{F F2:Fr}{n:Nat}{bn:List Nat}{hbn:∀k,F2.k0 k≠.new->k∈bn}{k:List KI}{s:SS}{L L':List LineM}{row e:Int}{cv:List Value}(hd:F2.ds=[⟨.fn (.func 65) cv.toArray,#[]⟩])(oz:RdL F2.k0 F2.w0 [.ptr 4 0,.ptr 2 0] cv)(cj:∀a w,Ctx F2 a w->Ctx F a w)(hL:(if e=0 then L else [])=L')(h2:s.h 2=.box [.sl 17 A5 L])(h4:s.h 4=.box [Aa e])(h3:s.σ 3=Aa row)(p2:s.σ 2=.ptr 2 0)(p4:s.σ 4=.ptr 4 0):G ⟨prog,Γ.toTy,F2,n,Aug prog Tryz.f34 F (.tup [.sl 17 A5 L',Aa row,Aa e]) [],bn,hbn⟩ (.code .ret::k) s:=by
 subst hL;exact A30 hd oz cj h2 h4 h3 p2 p4
def Vv:∀(l cur:List UInt8),∀s∈Hr cur l,s.size<=cur.length+l.length
 |[],cur,s,hs=>by
  rw[Hr]at hs;split at hs
  .cases hs
  .simp at hs;rw[hs,I4];simp
 |c::l,cur,s,hs=>by
  rw[Hr]at hs;split at hs
  .rcases yI.1 hs with hs|hs
   .rw[hs,I4];simp
   .have:=Vv l [] s hs;simp at this|-;omega
  .have:=Vv l (cur++[c]) s hs;simp at this|-;omega
def Qy(b:List UInt8):(rowsT b).1.length<=400/\∀s∈(rowsT b).1,s.size<=20000:=by
 rw[rowsT];split
 .exact⟨by simp,λs hs=>by cases hs⟩
 .rename_i h1;split
  .exact⟨by simp,λs hs=>by cases hs⟩
  .rename_i h2;refine⟨by dsimp only;omega,λs hs=>?_⟩;have:=Vv b [] s hs;simp at this;omega
def Ts(r:ByteArray)(hr:r.size<=20000):(wordsT r).1.length<=20001/\∀s∈(wordsT r).1,s.size<=40:=by
 have hl:=Qu r.data.toList [];have lg:r.data.toList.length=r.size:=rfl;rw[wordsT];split
 .rename_i h;refine⟨by dsimp only;omega,λs hs=>?_⟩;rw[yT]at h;have:=h s hs;simp only[wordB,zG,zJ]at this;exact this.1.2
 .exact⟨by simp,λs hs=>by cases hs⟩
def Auv(b:List UInt8)(hb:b.length<=1000000):Sp 34 [.sl 1 Al b] (.tup [.sl 17 A5 (textT b).1,Aa (textT b).2.1,Aa (textT b).2.2]):=Axz Γ hm 100 F34 ntmps34 rfl λF hF h0=>by
 have q1:=Aga b hb;have aa:=textT.eq_1 b;have jj:=Qy b;generalize textT b=res at *;generalize rowsT b=rt at *;obtain ⟨bq,e0⟩:=rt;dsimp only at aa jj q1;refine T ?_;refine A5x E E E E h0 [2,4] (λj hj=>?_) ?_
 .simp only[yI,xH,vJ,uF]at hj;have n2:Nat.beq j 2=false:=by
   cases hb:Nat.beq j 2
   .rfl
   .exact yA (yK hb) hj.1
  have n4:Nat.beq j 4=false:=by
   cases hb:Nat.beq j 4
   .rfl
   .exact yA (yK hb) hj.2
  simp[SS.upd,Vc,upd,mkh,n2,n4]
 intro F2 hF2 cv hd oz cj;refine gC q1 F36 ?_;cases hz:(e0 != 0);rotate_left
 .have he:e0≠0:=by simpa using hz
  rw[zE he]at aa;subst aa;refine T ?_;exact Ak 2 [.sl 17 A5 []] E (.cons .nil .nil) (aW (L:=[]) hd oz cj y_ E E E E E)
 have ur:e0=0:=kS hz;rw[zD (by simp[ur])]at aa;subst ur;obtain ⟨hlen,bg⟩:=jj;refine T ?_;refine Tq 2 0 1000 17 A5 E E E E ?_;refine Cd (λx:Nat×List LineM=>res=Ms x.1 (bq.drop x.1) x.2/\x.1<=bq.length/\x.2.length<=x.1) (λx=>[(2,.ptr 2 0),(4,.ptr 4 0),(20,.sl 1 As bq),(21,Aa bq.length),(22,Aa x.1)]) (λx=>[(2,.box [.osl 1000]),(4,.box [Aa 0]),(1000,.row 17 A5 x.2)]) (λx=>bq.length-x.1) (0,[]) [] ⟨aa,by simp,by simp⟩ U ?_;rintro ⟨j,out⟩ ⟨hI,hj,lq⟩;dsimp only at hI hj lq|-;refine gN ?_ ?_<;>intro h
 .have ab:j<bq.length:=qA h;have an:(j:Int).toNat<bq.length:=ab;have hr:(bq[(j:Int).toNat]'an).size<=20000:=bg _ (zI _);have fh:bq.drop j=bq[(j:Int).toNat]'an::bq.drop (j+1):=yL ab;rw[fh,Ms]at hI;clear h;have q2:=Acb (bq[(j:Int).toNat]'an) q_;have j6:=Ts (bq[(j:Int).toNat]'an) hr;generalize wordsT (bq[(j:Int).toNat]'an)=wt at *;obtain ⟨ws,we⟩:=wt;dsimp only at hI j6 q2;cases hz:(we != 0);rotate_left
  .have he:we≠0:=by simpa using hz
   rw[zE he]at hI;subst hI;refine gC q2 F37 ?_;exact Ak 2 [.sl 17 A5 []] E (.cons .nil .nil) (aW (L:=[]) hd oz cj y_ E E E E E)
  have he:we=0:=kS hz;rw[zD (by simp[he])]at hI;by_cases lu:ws.length=0
  .rw[zE (yC lu)]at hI;have f0:((ws.length:Int)==0)=true:=by rw[lu];rfl
   refine gC q2 F37 ?_;exact Ax (j+1,out) [] ⟨hI,ab,by dsimp only;omega⟩ (by dsimp only;omega) U
  .rw[zD (λe=>lu (by rw[e];rfl))]at hI;have f0:((ws.length:Int)==0)=false:=by rw[zU];omega
   have q3:=Au5 ws ((j:Int)+1) q_ j6.2;generalize Cp ws ((j:Int)+1)=st at *;obtain ⟨l,se⟩:=st;dsimp only at hI q3;cases vw:(se != 0);rotate_left
   .have dw:se≠0:=by simpa using vw
    rw[zE dw]at hI;subst hI;refine gB q2 F37 q3 F66 ?_;exact Ai 1000 E (aW (L:=out) hd oz cj (zD dw) E E E E E)
   .have dw:se=0:=by simpa using vw
    rw[zD (by simp[dw])]at hI;refine gB q2 F37 q3 F66 ?_;refine X (Ah Γ.toTy 56 E E E E E (.row E) (.lit (e:=A5) (l:=[l]) E E) y_ kO kO) ?_;exact Ax (j+1,out++[l]) [(1000,56)] ⟨hI,ab,by simp;omega⟩ (by dsimp only;omega) U
 .have cu:j=bq.length:=qB h;subst cu;rw[wU,Ms]at hI;subst hI;clear h;refine T ?_;exact Ai 1000 E (aW (L:=out) hd oz cj (zE E) E E E E E)
structure LineFin(l:LineM):Prop where
 t:l.tagged.length<=100000
 i:l.imports.length<=100000
 e:l.exports.length<=100000
 a:l.addrs.length<=100000
theorem iG(v0:Int->SV){f0 m0:Nat}{g0:Func}(F0:fT f0 g0)(n0:g0.ntmps=m0)(h:let v0:Int->SV:=v0;fT f0 g0->g0.ntmps=m0->∀ (l m:List Int) (hl:l.length<=1000000) (bj:m.length<=1000000),Sp f0 [.sl 1 v0 l,.sl 1 v0 m] (Ab (l == m)):=by
 intro v0 F0 n0 l m hl bj
 refine cT F0 n0 λF hF=>?_
 by_cases hlen:l.length=m.length;rotate_left
 .have hr:(l==m)=false:=by
   rw[zU];intro e;exact hlen (by rw[e])
  have f0:((l.length:Int) != (m.length:Int))=true:=by rw[xC];omega
  rw[hr];exact gA
 have f0:((l.length:Int) != (m.length:Int))=false:=by rw[bne_eq_false_iff_eq];omega
 refine T ?_;refine Ba l.length (λj=>l.take j=m.take j) (λj=>[(0,.sl 1 v0 l),(1,.sl 1 v0 m),(12,Aa l.length),(13,Aa j)]) (λ_=>[]) [] E U ?_;intro j hj hI;refine gN ?_ ?_<;>intro h
 .have ab:j<l.length:=qA h;have hlm:j<m.length:=by omega
  have an:(j:Int).toNat<l.length:=ab;have y3:(j:Int).toNat<m.length:=hlm;clear h;by_cases he:l[j]=m[j]
  .have f1:(l[(j:Int).toNat]'an != m[(j:Int).toNat]'y3)=false:=by rw[bne_eq_false_iff_eq];exact he
   refine T ?_;refine A8 [] hI q_ ?_ U;rw[yD ab,yD hlm,hI,he]
  .have f1:(l[(j:Int).toNat]'an != m[(j:Int).toNat]'y3)=true:=by rw[xC];exact he
   have hr:(l==m)=false:=by
    rw[zU];intro e;subst e;exact he rfl
   rw[hr];exact gA
 .have cu:j=l.length:=qB h;subst cu;have hr:(l==m)=true:=by
   rw[yJ];rw[yN,hlen,yN]at hI;exact hI
  rw[hr];clear h;exact gA):∀ (l m:List Int) (hl:l.length<=1000000) (bj:m.length<=1000000),Sp f0 [.sl 1 v0 l,.sl 1 v0 m] (Ab (l == m)):=h F0 n0
def Mt:=iG Aa F412 ntmps412
def oS:=iG Be F413 ntmps413
def Au4(a b:LineM)(ha:LineFin a)(hb:LineFin b):Sp 391 [A5 a,A5 b] (Ab (Aks a b)):=cT F391 ntmps391 λF hF=>by
 have ht:=ha.t;have hi:=ha.i;have he:=ha.e;have haa:=ha.a
 have ht2:=hb.t;have j5:=hb.i;have dw:=hb.e;have haa2:=hb.a
 have q0:=Mt a.tagged b.tagged q_ q_;have q1:=Mt a.imports b.imports q_ q_;have q2:=Mt a.exports b.exports q_ q_;have q3:=oS a.addrs b.addrs q_ q_;rw[Aks];cases h_row:(a.row==b.row)
 .rw[yF];exact gA
 rw[yG];cases h_kind:(a.kind==b.kind)
 .rw[yF];exact gA
 rw[yG];cases h_dev:(a.dev==b.dev)
 .rw[yF];exact gA
 rw[yG];cases h_port:(a.port==b.port)
 .rw[yF];exact gA
 rw[yG];cases h_peer:(a.peer==b.peer)
 .rw[yF];exact gA
 rw[yG];cases h_far:(a.far==b.far)
 .rw[yF];exact gA
 rw[yG];cases h_name:(a.name==b.name)
 .rw[yF];exact gA
 rw[yG];cases h_mac:(a.mac==b.mac)
 .rw[yF];exact gA
 rw[yG];cases h_addr:(a.addr==b.addr)
 .rw[yF];exact gA
 rw[yG];cases h_bits:(a.bits==b.bits)
 .rw[yF];exact gA
 rw[yG];cases h_vlan:(a.vlan==b.vlan)
 .rw[yF];exact gA
 rw[yG];cases h_num:(a.num==b.num)
 .rw[yF];exact gA
 rw[yG];cases h_cost:(a.cost==b.cost)
 .rw[yF];exact gA
 rw[yG];cases li:(a.tagged==b.tagged)
 .rw[li]at q0;rw[yF];refine gC q0 F412 ?_;exact D
 rw[li]at q0;rw[yG];cases jo:(a.imports==b.imports)
 .rw[jo]at q1;rw[yF];refine gB q0 F412 q1 F412 ?_;exact D
 rw[jo]at q1;rw[yG];cases jq:(a.exports==b.exports)
 .rw[jq]at q2;rw[yF];refine gB q0 F412 q1 F412 ?_;refine C q2 F412 ?_;exact D
 rw[jq]at q2;rw[yG];cases nn:(a.addrs==b.addrs)
 .rw[nn]at q3
  skip
  refine gB q0 F412 q1 F412 ?_;refine gK q2 F412 q3 F413 ?_;exact D
 rw[nn]at q3;refine gB q0 F412 q1 F412 ?_;refine gK q2 F412 q3 F413 ?_;exact D
def Hv(n lo hi:Int):Sp 409 [Aa n,Aa lo,Aa hi] (Ab (Cs n lo hi)):=cT F409 ntmps409 λF hF=>by
 rw[Cs];by_cases h1:lo<=n
 .have f1:decide (n>=lo)=true:=zL h1;rw[zL h1,yG];exact gA
 .have f1:decide (n>=lo)=false:=zK h1;rw[zK h1,yF];exact gA
def eR(l:List Int)(a8:Int)(hl:l.length<=100000):Sp 410 [.sl 1 Aa l,Aa a8] (Ab (E2 l a8)):=cT F410 ntmps410 λF hF=>by
 have q:=Ab3 l 1 a8 (by simp only[An];omega);rw[E2,Vy];by_cases h0:l.length=0
 .rw[zL h0,vN];have f0:((l.length:Int)==0)=true:=by rw[h0];rfl
  exact gA
 .rw[zK h0,vQ];have f0:((l.length:Int)==0)=false:=by rw[zU];omega
  refine gC q F151 ?_;exact D
def Xh(l:List Int)(i:Nat)(x:Int):Bool:=decide (x≠0)&&(i==0||decide (l.getD (i-1) 0<x))
def Ast(l:List Int):Lo l=(Ik (Xh l) l&&(decide (0<l.length)&&decide (l.length<=16))):=by
 have e:(List.range l.length).all (λi=>decide (l.getD i 0≠0)&&(i==0||decide (l.getD (i-1) 0<l.getD i 0)))=Ik (Xh l) l:=by
  rw[wP,yT,allB_iff];constructor
  .intro h i hi;have:=h i (yV.2 hi);rw[show l.getD i 0=l[i] by rw[wJ,zR hi];rfl]at this;exact this
  .intro h i hi;have hi:=yV.1 hi;rw[show l.getD i 0=l[i] by rw[wJ,zR hi];rfl];exact h i hi
 rw[Lo,e]
def Api(l:List Int)(hl:l.length<=100000):Sp 411 [.sl 1 Be l] (Ab (Lo l)):=cT F411 ntmps411 λF hF=>by
 have aa:=Ast l;generalize Lo l=r at *;refine T ?_;refine Ba l.length (λj=>El (Xh l) l j) (λj=>[(0,.sl 1 Be l),(5,.sl 1 Be l),(6,Aa l.length),(7,Aa j)]) (λ_=>[]) [] (Bi _ _) U ?_;intro j hj hI;refine gN ?_ ?_<;>intro h
 .have ab:j<l.length:=qA h;have an:(j:Int).toNat<l.length:=ab;have cw:=λh=>Di (p:=Xh l) ab h
  have ej:=λh=>Bd (p:=Xh l) hI ab h
  clear h;by_cases h1:l[j]=0
  .have f1:(l[(j:Int).toNat]'an==0)=true:=yJ.2 h1;rw[cw (by simp[Xh,h1]),yF]at aa;subst aa;exact gA
  .have f1:(l[(j:Int).toNat]'an==0)=false:=zU.2 h1;by_cases h2:j=0
   .subst h2;refine T ?_;exact A8 [] hI q_ (ej (by simp[Xh,h1])) U
   .have f2:decide ((j:Int)>0)=true:=zL q_;have hk:((j:Int)-1).toNat<l.length:=by omega
    have hg:l.getD (j-1) 0=l[((j:Int)-1).toNat]'hk:=by
     rw[wJ,zR (by omega:j-1<l.length)];have:((j:Int)-1).toNat=j-1:=by omega
     simp only[this];rfl
    have hx:Xh l j l[j]=(decide (l[j]≠0)&&(j==0||decide (l.getD (j-1) 0<l[j]))):=rfl;rw[hg]at hx;by_cases h3:l[((j:Int)-1).toNat]'hk<l[j]
    .have f3:decide (l[((j:Int)-1).toNat]'hk>=l[(j:Int).toNat]'an)=false:=zK (by show ¬_>=l[j];omega);refine T ?_;exact A8 [] hI q_ (ej (by rw[hx,zL h1,zL h3,tH];rfl)) U
    .have f3:decide (l[((j:Int)-1).toNat]'hk>=l[(j:Int).toNat]'an)=true:=zL (by show _>=l[j];omega);rw[cw (by rw[hx,zK h3,zU.2 h2];simp),yF]at aa;subst aa;exact gA
 .have cu:j=l.length:=qB h;subst cu;rw[Hn hI (yE _),yG]at aa;subst aa;clear h;by_cases h0:0<l.length
  .rw[zL h0,yG];have f0:decide ((l.length:Int)>0)=true:=zL q_;refine T ?_;refine Ar E Aq (zH Ab ?_) E;exact decide_eq_decide.2 q_
  .rw[zK h0,yF];have f0:decide ((l.length:Int)>0)=false:=zK q_;exact gA
structure LineW(l:LineM):Prop where
 fin:LineFin l
 ok:LineOK l
 dev:l.dev.size<=100000
 port:l.port.size<=100000
 peer:l.peer.size<=100000
 far:l.far.size<=100000
 name:l.name.size<=100000
def Ao7(l:LineM)(hw:LineW l)(hk:l.kind=1):Sp 390 [A5 l] (.tup [A5 (By l).1,Ab (By l).2]):=cT F390 ntmps390 λF hF=>by
 have hU:By l=({lineZ with row:=l.row,kind:=1,dev:=l.dev,num:=l.num,mac:=l.mac},(Cs l.num 0 65535&&statB l.mac)):=by
  simp only[By,hk];rfl
 rw[hU];have q0:=Hv l.num 0 65535;have q1:Sp 208 [Bl l.mac] (Ab (statB l.mac)):=by
  have:=hw.ok.mac;obtain ⟨m,bj⟩:∃m:Nat,l.mac=m:=⟨l.mac.toNat,by omega⟩
  rw[bj];exact Aa2 m q_
 obtain ⟨row,kind,dev,port,peer,far,name,mac,addr,bits,vlan,num,cost,tagged,imports,exports,addrs⟩:=l;dsimp only at hk q0 q1|-;subst hk;clear hU hw;generalize Cs num 0 65535=b0 at *;generalize statB mac=b1 at *;cases b0
 .rw[yF];refine gC q0 F409 ?_;exact Ak 2 (Cj {lineZ with row:=row,kind:=1,dev:=dev,num:=num,mac:=mac}) rfl vL gA
 rw[yG];refine gB q0 F409 q1 F208 ?_;exact Ak 2 (Cj {lineZ with row:=row,kind:=1,dev:=dev,num:=num,mac:=mac}) rfl vL gA
def Ao6(l:LineM)(hw:LineW l)(hk:l.kind=2):Sp 390 [A5 l] (.tup [A5 (By l).1,Ab (By l).2]):=cT F390 ntmps390 λF hF=>by
 have hU:By l=({lineZ with row:=l.row,kind:=2,dev:=l.dev,port:=l.port,cost:=l.cost,vlan:=l.vlan,tagged:=l.tagged},(A3 l.port&&(Cs l.cost 1 65535&&(Cs l.vlan 0 4094&&(E2 l.tagged 4094&&membersB l.vlan l.tagged))))):=by
  simp only[By,hk];rfl
 rw[hU];have q0:=E7 l.port (by have:=hw.port;omega);have q1:=Hv l.cost 1 65535;have q2:=Hv l.vlan 0 4094;have q3:=eR l.tagged 4094 hw.fin.t;have q4:=Kx l (by have:=hw.fin.t;simp only[An];omega);obtain ⟨row,kind,dev,port,peer,far,name,mac,addr,bits,vlan,num,cost,tagged,imports,exports,addrs⟩:=l;dsimp only at hk q0 q1 q2 q3 q4|-;subst hk;clear hU hw;generalize A3 port=b0 at *;generalize Cs cost 1 65535=b1 at *;generalize Cs vlan 0 4094=b2 at *;generalize E2 tagged 4094=b3 at *;generalize membersB vlan tagged=b4 at *;cases b0
 .rw[yF];refine gC q0 F71 ?_;exact Ak 2 (Cj {lineZ with row:=row,kind:=2,dev:=dev,port:=port,cost:=cost,vlan:=vlan,tagged:=tagged}) rfl vL gA
 rw[yG];cases b1
 .rw[yF];refine gB q0 F71 q1 F409 ?_;exact Ak 2 (Cj {lineZ with row:=row,kind:=2,dev:=dev,port:=port,cost:=cost,vlan:=vlan,tagged:=tagged}) rfl vL gA
 rw[yG];cases b2
 .rw[yF];refine gB q0 F71 q1 F409 ?_;refine C q2 F409 ?_;exact Ak 2 (Cj {lineZ with row:=row,kind:=2,dev:=dev,port:=port,cost:=cost,vlan:=vlan,tagged:=tagged}) rfl vL gA
 rw[yG];cases b3
 .rw[yF];refine gB q0 F71 q1 F409 ?_;refine gK q2 F409 q3 F410 ?_;exact Ak 2 (Cj {lineZ with row:=row,kind:=2,dev:=dev,port:=port,cost:=cost,vlan:=vlan,tagged:=tagged}) rfl vL gA
 rw[yG];refine gB q0 F71 q1 F409 ?_;refine gK q2 F409 q3 F410 ?_;refine C q4 F209 ?_;exact Ak 2 (Cj {lineZ with row:=row,kind:=2,dev:=dev,port:=port,cost:=cost,vlan:=vlan,tagged:=tagged}) rfl vL gA
def Ao5(l:LineM)(hw:LineW l)(hk:l.kind=3):Sp 390 [A5 l] (.tup [A5 (By l).1,Ab (By l).2]):=cT F390 ntmps390 λF hF=>by
 have hU:By l=({lineZ with row:=l.row,kind:=3,dev:=l.dev,port:=l.port,peer:=l.peer,far:=l.far},(A3 l.port&&(A3 l.peer&&A3 l.far))):=by
  simp only[By,hk];rfl
 rw[hU];have q0:=E7 l.port (by have:=hw.port;omega);have q1:=E7 l.peer (by have:=hw.peer;omega);have q2:=E7 l.far (by have:=hw.far;omega);obtain ⟨row,kind,dev,port,peer,far,name,mac,addr,bits,vlan,num,cost,tagged,imports,exports,addrs⟩:=l;dsimp only at hk q0 q1 q2|-;subst hk;clear hU hw;generalize A3 port=b0 at *;generalize A3 peer=b1 at *;generalize A3 far=b2 at *;cases b0
 .rw[yF];refine gC q0 F71 ?_;exact Ak 2 (Cj {lineZ with row:=row,kind:=3,dev:=dev,port:=port,peer:=peer,far:=far}) rfl vL gA
 rw[yG];cases b1
 .rw[yF];refine gB q0 F71 q1 F71 ?_;exact Ak 2 (Cj {lineZ with row:=row,kind:=3,dev:=dev,port:=port,peer:=peer,far:=far}) rfl vL gA
 rw[yG];refine gB q0 F71 q1 F71 ?_;refine C q2 F71 ?_;exact Ak 2 (Cj {lineZ with row:=row,kind:=3,dev:=dev,port:=port,peer:=peer,far:=far}) rfl vL gA
def Ao4(l:LineM)(hw:LineW l)(hk:l.kind=4):Sp 390 [A5 l] (.tup [A5 (By l).1,Ab (By l).2]):=cT F390 ntmps390 λF hF=>by
 have hU:By l=({lineZ with row:=l.row,kind:=4,dev:=l.dev,vlan:=l.vlan,mac:=l.mac,port:=l.port},(Cs l.vlan 1 4094&&(statB l.mac&&A3 l.port))):=by
  simp only[By,hk];rfl
 rw[hU];have q0:=Hv l.vlan 1 4094;have q1:Sp 208 [Bl l.mac] (Ab (statB l.mac)):=by
  have:=hw.ok.mac;obtain ⟨m,bj⟩:∃m:Nat,l.mac=m:=⟨l.mac.toNat,by omega⟩
  rw[bj];exact Aa2 m q_
 have q2:=E7 l.port (by have:=hw.port;omega);obtain ⟨row,kind,dev,port,peer,far,name,mac,addr,bits,vlan,num,cost,tagged,imports,exports,addrs⟩:=l;dsimp only at hk q0 q1 q2|-;subst hk;clear hU hw;generalize Cs vlan 1 4094=b0 at *;generalize statB mac=b1 at *;generalize A3 port=b2 at *;cases b0
 .rw[yF];refine gC q0 F409 ?_;exact Ak 2 (Cj {lineZ with row:=row,kind:=4,dev:=dev,vlan:=vlan,mac:=mac,port:=port}) rfl vL gA
 rw[yG];cases b1
 .rw[yF];refine gB q0 F409 q1 F208 ?_;exact Ak 2 (Cj {lineZ with row:=row,kind:=4,dev:=dev,vlan:=vlan,mac:=mac,port:=port}) rfl vL gA
 rw[yG];refine gB q0 F409 q1 F208 ?_;refine C q2 F71 ?_;exact Ak 2 (Cj {lineZ with row:=row,kind:=4,dev:=dev,vlan:=vlan,mac:=mac,port:=port}) rfl vL gA
def Ao2(l:LineM)(hw:LineW l)(hk:l.kind=6):Sp 390 [A5 l] (.tup [A5 (By l).1,Ab (By l).2]):=cT F390 ntmps390 λF hF=>by
 have hU:By l=({lineZ with row:=l.row,kind:=6,dev:=l.dev,vlan:=l.vlan,num:=l.num},(Cs l.vlan 1 4094&&Cs l.num 1 16777215)):=by
  simp only[By,hk];rfl
 rw[hU];have q0:=Hv l.vlan 1 4094;have q1:=Hv l.num 1 16777215;obtain ⟨row,kind,dev,port,peer,far,name,mac,addr,bits,vlan,num,cost,tagged,imports,exports,addrs⟩:=l;dsimp only at hk q0 q1|-;subst hk;clear hU hw;generalize Cs vlan 1 4094=b0 at *;generalize Cs num 1 16777215=b1 at *;cases b0
 .rw[yF];refine gC q0 F409 ?_;exact Ak 2 (Cj {lineZ with row:=row,kind:=6,dev:=dev,vlan:=vlan,num:=num}) rfl vL gA
 rw[yG];refine gB q0 F409 q1 F409 ?_;exact Ak 2 (Cj {lineZ with row:=row,kind:=6,dev:=dev,vlan:=vlan,num:=num}) rfl vL gA
def Ao1(l:LineM)(hw:LineW l)(hk:l.kind=7):Sp 390 [A5 l] (.tup [A5 (By l).1,Ab (By l).2]):=cT F390 ntmps390 λF hF=>by
 have hU:By l=({lineZ with row:=l.row,kind:=7,dev:=l.dev,num:=l.num,addrs:=l.addrs},(Cs l.num 1 16777215&&Lo l.addrs)):=by
  simp only[By,hk];rfl
 rw[hU];have q0:=Hv l.num 1 16777215;have q1:=Api l.addrs hw.fin.a;obtain ⟨row,kind,dev,port,peer,far,name,mac,addr,bits,vlan,num,cost,tagged,imports,exports,addrs⟩:=l;dsimp only at hk q0 q1|-;subst hk;clear hU hw;generalize Cs num 1 16777215=b0 at *;generalize Lo addrs=b1 at *;cases b0
 .rw[yF];refine gC q0 F409 ?_;exact Ak 2 (Cj {lineZ with row:=row,kind:=7,dev:=dev,num:=num,addrs:=addrs}) rfl vL gA
 rw[yG];refine gB q0 F409 q1 F411 ?_;exact Ak 2 (Cj {lineZ with row:=row,kind:=7,dev:=dev,num:=num,addrs:=addrs}) rfl vL gA
def Ao0(l:LineM)(hw:LineW l)(hk:l.kind=8):Sp 390 [A5 l] (.tup [A5 (By l).1,Ab (By l).2]):=cT F390 ntmps390 λF hF=>by
 have hU:By l=({lineZ with row:=l.row,kind:=8,dev:=l.dev,name:=l.name,imports:=l.imports,exports:=l.exports},(A3 l.name&&(E2 l.imports 65535&&E2 l.exports 65535))):=by
  simp only[By,hk];rfl
 rw[hU];have q0:=E7 l.name (by have:=hw.name;omega);have q1:=eR l.imports 65535 hw.fin.i;have q2:=eR l.exports 65535 hw.fin.e;obtain ⟨row,kind,dev,port,peer,far,name,mac,addr,bits,vlan,num,cost,tagged,imports,exports,addrs⟩:=l;dsimp only at hk q0 q1 q2|-;subst hk;clear hU hw;generalize A3 name=b0 at *;generalize E2 imports 65535=b1 at *;generalize E2 exports 65535=b2 at *;cases b0
 .rw[yF];refine gC q0 F71 ?_;exact Ak 2 (Cj {lineZ with row:=row,kind:=8,dev:=dev,name:=name,imports:=imports,exports:=exports}) rfl vL gA
 rw[yG];cases b1
 .rw[yF];refine gB q0 F71 q1 F410 ?_;exact Ak 2 (Cj {lineZ with row:=row,kind:=8,dev:=dev,name:=name,imports:=imports,exports:=exports}) rfl vL gA
 rw[yG];refine gB q0 F71 q1 F410 ?_;refine C q2 F410 ?_;exact Ak 2 (Cj {lineZ with row:=row,kind:=8,dev:=dev,name:=name,imports:=imports,exports:=exports}) rfl vL gA
def Aoz(l:LineM)(hw:LineW l)(hk:l.kind=9):Sp 390 [A5 l] (.tup [A5 (By l).1,Ab (By l).2]):=cT F390 ntmps390 λF hF=>by
 have hU:By l=({lineZ with row:=l.row,kind:=9,dev:=l.dev,vlan:=l.vlan,name:=l.name,addr:=l.addr,bits:=l.bits},(Cs l.vlan 1 4094&&(A3 l.name&&subnetB l.addr l.bits))):=by
  simp only[By,hk];rfl
 rw[hU];have q0:=Hv l.vlan 1 4094;have q1:=E7 l.name (by have:=hw.name;omega);have q2:Sp 136 [O1 l.addr l.bits] (Ab (subnetB l.addr l.bits)):=by
  have:=hw.ok.addr;obtain ⟨m,bj⟩:∃m:Nat,l.addr=m:=⟨l.addr.toNat,by omega⟩
  rw[bj];exact lK m l.bits q_
 obtain ⟨row,kind,dev,port,peer,far,name,mac,addr,bits,vlan,num,cost,tagged,imports,exports,addrs⟩:=l;dsimp only at hk q0 q1 q2|-;subst hk;clear hU hw;generalize Cs vlan 1 4094=b0 at *;generalize A3 name=b1 at *;generalize subnetB addr bits=b2 at *;cases b0
 .rw[yF];refine gC q0 F409 ?_;exact Ak 2 (Cj {lineZ with row:=row,kind:=9,dev:=dev,vlan:=vlan,name:=name,addr:=addr,bits:=bits}) rfl vL gA
 rw[yG];cases b1
 .rw[yF];refine gB q0 F409 q1 F71 ?_;exact Ak 2 (Cj {lineZ with row:=row,kind:=9,dev:=dev,vlan:=vlan,name:=name,addr:=addr,bits:=bits}) rfl vL gA
 rw[yG];refine gB q0 F409 q1 F71 ?_;refine C q2 F136 ?_;exact Ak 2 (Cj {lineZ with row:=row,kind:=9,dev:=dev,vlan:=vlan,name:=name,addr:=addr,bits:=bits}) rfl vL gA
def Ao3(l:LineM)(hw:LineW l)(hk:l.kind=5):Sp 390 [A5 l] (.tup [A5 (By l).1,Ab (By l).2]):=cT F390 ntmps390 λF hF=>by
 have hU:By l=({lineZ with row:=l.row,kind:=5,dev:=l.dev,addr:=l.addr},decide (l.addr≠0)):=by
  simp only[By,hk];rfl
 rw[hU];obtain ⟨row,kind,dev,port,peer,far,name,mac,addr,bits,vlan,num,cost,tagged,imports,exports,addrs⟩:=l;dsimp only at hk|-;subst hk;clear hU hw;have hb:decide (addr≠0)=(addr != 0):=by
  by_cases h:addr=0
  .rw[h];rfl
  .rw[zL h,xC.2 h]
 rw[hb];refine T ?_;exact Ak 2 (Cj {lineZ with row:=row,kind:=5,dev:=dev,addr:=addr}) rfl vL gA
def Ao8(l:LineM)(hk:¬(1<=l.kind/\l.kind<=9)):Sp 390 [A5 l] (.tup [A5 (By l).1,Ab (By l).2]):=cT F390 ntmps390 λF hF=>by
 have n1:¬l.kind=1:=by omega
 have f1:(l.kind==1)=false:=zU.2 n1;have n2:¬l.kind=2:=by omega
 have f2:(l.kind==2)=false:=zU.2 n2;have n3:¬l.kind=3:=by omega
 have f3:(l.kind==3)=false:=zU.2 n3;have n4:¬l.kind=4:=by omega
 have f4:(l.kind==4)=false:=zU.2 n4;have n5:¬l.kind=5:=by omega
 have f5:(l.kind==5)=false:=zU.2 n5;have n6:¬l.kind=6:=by omega
 have f6:(l.kind==6)=false:=zU.2 n6;have n7:¬l.kind=7:=by omega
 have f7:(l.kind==7)=false:=zU.2 n7;have n8:¬l.kind=8:=by omega
 have f8:(l.kind==8)=false:=zU.2 n8;have n9:¬l.kind=9:=by omega
 have f9:(l.kind==9)=false:=zU.2 n9;have hU:By l=({lineZ with row:=l.row,kind:=l.kind,dev:=l.dev},false):=by
  simp only[By,zD n1,zD n2,zD n3,zD n4,zD n5,zD n6,zD n7,zD n8,zD n9]
 rw[hU];refine T ?_;exact Ak 2 (Cj {lineZ with row:=l.row,kind:=l.kind,dev:=l.dev}) rfl vL gA
def Au2(l:LineM)(hw:LineW l):Sp 390 [A5 l] (.tup [A5 (By l).1,Ab (By l).2]):=by
 by_cases hk:1<=l.kind/\l.kind<=9
 .rcases (by omega:l.kind=1\/l.kind=2\/l.kind=3\/l.kind=4\/l.kind=5\/l.kind=6\/l.kind=7\/l.kind=8\/l.kind=9) with h|h|h|h|h|h|h|h|h
  .exact Ao7 l hw h
  .exact Ao6 l hw h
  .exact Ao5 l hw h
  .exact Ao4 l hw h
  .exact Ao3 l hw h
  .exact Ao2 l hw h
  .exact Ao1 l hw h
  .exact Ao0 l hw h
  .exact Aoz l hw h
 .exact Ao8 l hk
def Aup{l:LineM}(h:LineFin l):LineFin (By l).1:=by
 have ht:=h.t;have hi:=h.i;have he:=h.e;have haa:=h.a
 unfold By;dsimp only
 repeat' split
 all_goals exact⟨by first|exact ht|(show 0<=100000;decide),by first|exact hi|(show 0<=100000;decide),by first|exact he|(show 0<=100000;decide),by first|exact haa|(show 0<=100000;decide)⟩
def Lt(l:LineM)(hw:LineW l):Sp 349 [A5 l] (Ab (D6 l)):=cT F349 ntmps349 λF hF=>by
 have q1:=Au2 l hw;have q2:=E7 l.dev (by have:=hw.dev;omega);have q3:=Au4 (By l).1 l (Aup hw.fin) hw.fin;rw[D6];generalize By l=u at *;obtain ⟨ul,ub⟩:=u;dsimp only at q1 q3|-;cases ub
 .rw[yF];refine gC q1 F390 ?_;exact D
 rw[yG];cases hn:A3 l.dev
 .rw[hn]at q2;rw[yF];refine gB q1 F390 q2 F71 ?_;exact D
 rw[hn]at q2;rw[yG];refine gB q1 F390 q2 F71 ?_;refine C q3 F391 ?_;exact D
end
structure LineR(l:LineM):Prop where
 right:D6 l=true
 ok:LineOK l
 vlan:0<=l.vlan/\l.vlan<=4094
 num:0<=l.num/\l.num<=16777215
 cost:0<=l.cost/\l.cost<=65535
 bits:0<=l.bits/\l.bits<=32
 tagged:E2 l.tagged 4094=true
 imports:E2 l.imports 65535=true
 exports:E2 l.exports 65535=true
 addrs:l.addrs.length<=16
 dev:l.dev.size<=12
 port:l.port.size<=12
 peer:l.peer.size<=12
 far:l.far.size<=12
 name:l.name.size<=12
def Dt{s:ByteArray}(h:A3 s=true):s.size<=12:=by
 simp only[A3,zG,zJ]at h;exact h.2
def Ab8(s:ByteArray):0<=(macR s).1:=by
 have hd:∀c,0<=digI c:=λc=>by
  unfold digI;split
  .omega
  .split<;>omega
 have:∀i,0<=Yk s i:=λi=>by
  induction i with
  |zero=>exact xZ _
  |succ i ih=>
   have h1:=hd (Bw s (3*i));have h2:=hd (Bw s (3*i+1));rw[Yk];omega
 unfold macR;split
 .exact this 6
 .exact xZ _
def Ar3:(⟨#[]⟩:ByteArray).size=0:=rfl
def Aep(s:ByteArray):(0<=(prefixR s).1.1/\(prefixR s).1.1<4294967296):=by
 unfold prefixR;split
 .exact⟨xZ _,by decide⟩
 .exact⟨Mq _,U5 _⟩
def Ayd{s:ByteArray}(h:(Ei s).2=true):(Ei s).1.length<=16/\∀x∈(Ei s).1,0<=x/\x<4294967296:=by
 have hp:=Aaf h;obtain ⟨a,b,c,d⟩:=Te D8 (C3 44 s) [] (Ei s).1 hp List.Pairwise.nil y_;refine⟨b,λx hx=>?_⟩;rcases d x hx with hh|⟨p,_,hh⟩
 .cases hh
 .have h1:=Mq p;have h2:=U5 p;rw[hh]at h1 h2;exact⟨h1,h2⟩
def S9{s:ByteArray}{hi:Int}(h:(listR hi s).2=true):E2 (listR hi s).1 hi=true:=A4x (Aaf h)
def Bt(hi:Int):E2 [] hi=true:=by simp[E2,Vy]
def zV:(0:Int)<=0/\(0:Int)<=4094:=by decide
def zN:(0:Int)<=0/\(0:Int)<=16777215:=by decide
def zC:(0:Int)<=0/\(0:Int)<=65535:=by decide
def zB:(0:Int)<=0/\(0:Int)<=32:=by decide
def zM:(0:Int)<=0/\(0:Int)<18446744073709551616:=by decide
def zA:(0:Int)<=0/\(0:Int)<4294967296:=by decide
def zS:(⟨#[]⟩:ByteArray).size<=12:=by decide
def Aoy{w:List ByteArray}{row:Int}(h:(Cp w row).2=0):LineR (Cp w row).1:=by
 obtain ⟨g1,g2⟩:=Au3 h;rw[g1];clear g1 h;have ez:=Ar3;have o1:∀{m:Int},0<=m->statB m=true->0<=m/\m<18446744073709551616:=λa b=>⟨a,by have:=Aef b;omega⟩
 unfold B8 at g2|-;dsimp only at g2|-;by_cases h1:kindL (wdT w 0)=1
 .simp only[zE h1,yI,xH,vJ,forall_eq_or_imp,forall_eq,xM,wS,zG]at g2|-;obtain ⟨b1,b2,b3,b4⟩:=g2;have c:=I2 b2;have n1:=Dt b1;exact⟨by simp[D6,By,b1,b4,within_iff.2 c,H6],⟨o1 (Ab8 _) b4,zA,by simp[lineZ]⟩,zV,⟨c.1,by have:=c.2;dsimp only;omega⟩,zC,zB,Bt _,Bt _,Bt _,by simp[lineZ],n1,zS,zS,zS,zS⟩
 by_cases h2:kindL (wdT w 0)=2
 .simp only[zD h1,zE h2]at g2|-;have b1:=g2 (!(A3 (wdT w 1)),20) y_;have b2:=g2 (!(A3 (wdT w 2)),20) y_;have b3:=g2 (!(numR (wdT w 3) 1 65535).2,21) y_;have b4:∀e∈(Ep w).2.2,e.1=false:=λe he=>g2 e (by simp[he])
  have b5:=g2 (!(membersB (Ep w).1 (Ep w).2.1),21) y_;simp only[xM,wS]at b1 b2 b3 b5;have c:=I2 b3;have hp:(0<=(Ep w).1/\(Ep w).1<=4094)/\E2 (Ep w).2.1 4094=true:=by
   clear b5 g2;unfold Ep at b4|-;split
   .rename_i e;rw[zE e]at b4;have:=b4 _ (zX.2 rfl);simp only[xM,wS]at this;have:=I2 this;exact⟨⟨by have:=this.1;dsimp only[C5];omega,this.2⟩,Bt _⟩
   .rename_i e;rw[zD e]at b4;split
    .rename_i e2;rw[zE e2]at b4;split
     .rename_i e3;rw[zE e3]at b4;have:=b4 _ (zX.2 rfl);simp only[xM,wS]at this;exact⟨zV,S9 this⟩
     .rename_i e3;rw[zD e3]at b4;have a1:=b4 _ (List.mem_cons_self);have a2:=b4 _ (List.mem_cons_of_mem _ (zX.2 rfl));simp only[xM,wS]at a1 a2;have:=I2 a1;exact⟨⟨by have:=this.1;dsimp only[C5];omega,this.2⟩,S9 a2⟩
    .exact⟨zV,Bt _⟩
  generalize Ep w=q at *;obtain ⟨hv,ht⟩:=hp;exact⟨by simp[D6,By,b1,b2,b5,ht,within_iff.2 c,within_iff.2 hv,H6],⟨zM,zA,by simp[lineZ]⟩,hv,zN,⟨by have:=c.1;dsimp only;omega,c.2⟩,zB,ht,Bt _,Bt _,by simp[lineZ],Dt b1,Dt b2,zS,zS,zS⟩
 by_cases h3:kindL (wdT w 0)=3
 .simp only[zD h1,zD h2,zE h3,yI,xH,vJ,forall_eq_or_imp,forall_eq,xM,wS,zG]at g2|-;obtain ⟨b1,b2,b3,b4⟩:=g2;exact⟨by simp[D6,By,b1,b2,b3,b4,H6],⟨zM,zA,by simp[lineZ]⟩,zV,zN,zC,zB,Bt _,Bt _,Bt _,by simp[lineZ],Dt b1,Dt b2,Dt b3,Dt b4,zS⟩
 by_cases h4:kindL (wdT w 0)=4
 .simp only[zD h1,zD h2,zD h3,zE h4,yI,xH,vJ,forall_eq_or_imp,forall_eq,xM,wS,zG]at g2|-;obtain ⟨b1,b2,⟨b3,b4⟩,b5⟩:=g2;have c:=I2 b2;exact⟨by simp[D6,By,b1,Ahm b2 E,b4,b5,H6],⟨o1 (Ab8 _) b4,zA,by simp[lineZ]⟩,⟨by have:=c.1;dsimp only[C5];omega,c.2⟩,zN,zC,zB,Bt _,Bt _,Bt _,by simp[lineZ],Dt b1,Dt b5,zS,zS,zS⟩
 by_cases h5:kindL (wdT w 0)=5
 .simp only[zD h1,zD h2,zD h3,zD h4,zE h5,yI,xH,vJ,forall_eq_or_imp,forall_eq,xM,wS,zG,zJ]at g2|-;obtain ⟨b1,b2,b3⟩:=g2;exact⟨by simp[D6,By,b1,b3,H6],⟨zM,⟨Mq _,U5 _⟩,by simp[lineZ]⟩,zV,zN,zC,zB,Bt _,Bt _,Bt _,by simp[lineZ],Dt b1,zS,zS,zS,zS⟩
 by_cases h6:kindL (wdT w 0)=6
 .simp only[zD h1,zD h2,zD h3,zD h4,zD h5,zE h6,yI,xH,vJ,forall_eq_or_imp,forall_eq,xM,wS,zG]at g2|-;obtain ⟨b1,b2,b3⟩:=g2;have c:=I2 b2;have d:=I2 b3;exact⟨by simp[D6,By,b1,Ahm b2 E,Ayp b3 E,H6],⟨zM,zA,by simp[lineZ]⟩,⟨by have:=c.1;dsimp only[C5];omega,c.2⟩,⟨by have:=d.1;dsimp only[Tu];omega,d.2⟩,zC,zB,Bt _,Bt _,Bt _,by simp[lineZ],Dt b1,zS,zS,zS,zS⟩
 by_cases h7:kindL (wdT w 0)=7
 .simp only[zD h1,zD h2,zD h3,zD h4,zD h5,zD h6,zE h7,yI,xH,vJ,forall_eq_or_imp,forall_eq,xM,wS,zG,zJ]at g2|-;obtain ⟨b1,b2,b3,b4⟩:=g2;have d:=I2 b2;have e:=Ayd b3;exact⟨by simp[D6,By,b1,Ayp b2 E,A3i (Aaf b3) b4,H6],⟨zM,zA,e.2⟩,zV,⟨by have:=d.1;dsimp only[Tu];omega,d.2⟩,zC,zB,Bt _,Bt _,Bt _,e.1,Dt b1,zS,zS,zS,zS⟩
 by_cases h8:kindL (wdT w 0)=8
 .simp only[zD h1,zD h2,zD h3,zD h4,zD h5,zD h6,zD h7,zE h8,yI,xH,vJ,forall_eq_or_imp,forall_eq,xM,wS,zG]at g2|-;obtain ⟨b1,b2,b3,b4⟩:=g2;exact⟨by simp[D6,By,b1,b2,S9 b3,S9 b4,H6],⟨zM,zA,by simp[lineZ]⟩,zV,zN,zC,zB,Bt _,S9 b3,S9 b4,by simp[lineZ],Dt b1,zS,zS,zS,Dt b2⟩
 .simp only[zD h1,zD h2,zD h3,zD h4,zD h5,zD h6,zD h7,zD h8,yI,xH,vJ,forall_eq_or_imp,forall_eq,xM,wS,zG]at g2|-;obtain ⟨b1,b2,b3,b4,b5⟩:=g2;have c:=I2 b2;have hb:=Vo b5;exact⟨by simp[D6,By,b1,b3,Ahm b2 E,b5,H6],⟨zM,Aep _,by simp[lineZ]⟩,⟨by have:=c.1;dsimp only[C5];omega,c.2⟩,zN,zC,⟨by dsimp only;omega,by dsimp only;omega⟩,Bt _,Bt _,Bt _,by simp[lineZ],Dt b1,zS,zS,zS,Dt b3⟩
def Tw:∀(rs:List ByteArray) (i:Nat) (out:List LineM),(∀x∈out,LineR x)->∀x∈(Ms i rs out).1,LineR x
 |[],_,_,h=>by rw[Ms];exact h
 |r::rs,i,out,h=>by
  rw[Ms];split
  .intro x hx;cases hx
  .split
   .exact Tw rs (i+1) out h
   .split
    .intro x hx;cases hx
    .rename_i h3;refine Tw rs (i+1) _ λx hx=>?_
     rcases yH.1 hx with hx|hx
     .exact h x hx
     .rw[zX.1 hx];exact Aoy q_
def Tv(b:List UInt8):∀x∈(textT b).1,LineR x:=by
 unfold textT;split
 .intro x hx;cases hx
 .exact Tw _ 0 [] y_
end Go.Sy.Zaa
