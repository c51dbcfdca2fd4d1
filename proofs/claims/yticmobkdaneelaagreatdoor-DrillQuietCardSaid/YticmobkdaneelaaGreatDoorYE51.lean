/- Parts of a proof. -/
import Derived.Test.YticmobkdaneelaaGreatDoorYE48
import Derived.Test.YticmobkdaneelaaGreatDoorYE26
import Derived.Test.YticmobkdaneelaaGreatDoorYE50
set_option linter.all false
set_option linter.unusedVariables false
set_option linter.unusedSimpArgs false
set_option linter.deprecated false
namespace Go.Sy.YticmobkdaneelaaGreatDoor
open Go.Proofs Go.Proofs.Tryz
attribute [local irreducible] Go.Sy.G Go.Sy.DR
set_option maxRecDepth 100000
set_option maxHeartbeats 4000000
def A0o(M:List LineM)(hM:∀l∈M,LineW l)(hl:M.length<2147483648):Sq 27 [.ptr 0 0] (Ig 0 0 M (emptyN,0,0)) (.tup [Am (Dc M).1,Aa (Dc M).2.1,Aa (Dc M).2.2]) (Ig 1 0 M (Dc M)):=cT F27 ntmps27 λF hF=>by
 have q:=A43 M hM hl;refine T ?_;refine X (Ad [] E F78 q E W E V) ?_;refine T ?_;exact done E (.cons (.cell E E E E) (.cons .tmp (.cons .tmp .nil))) [] (Ig 1 0 M (Dc M)) (λ_ h=>h) E E U
def Axv(M:List LineM)(hM:∀l∈M,LineW l)(hl:M.length<2147483648):Sp 12 [.sl 17 A3 M] (.tup [Am (Dc M).1,Aa (Dc M).2.1,Aa (Dc M).2.2]):=cT F12 ntmps12 λF hF=>by
 have q:=A0o M hM hl;refine T ?_;refine Ak 8 (Yx 0 0 M emptyN 0 0) E vL ?_;refine X (Ad [(0,8)] E F27 q E W E V) ?_;exact gA
theorem LineR.w{l:LineM}(h:LineR l):LineW l where
 fin:=by
  have e:∀{l:List Int} {m:Int},Ep l m=true→m≤65535→l.length≤100000:=λ{l} {m} hl hm=>by
   rcases listOK_iff.1 hl with h|h
   ·rw[h];exact vA _
   ·have:=(rising_iff.1 h).2.2.2;omega
  exact⟨e h.tagged j_,e h.imports j_,e h.exports j_,by have:=h.addrs;omega⟩
 ok:=h.ok
 dev:=by have:=h.dev;omega
 port:=by have:=h.port;omega
 peer:=by have:=h.peer;omega
 far:=by have:=h.far;omega
 name:=by have:=h.name;omega
def Xp:∀(rs:List ByteArray) (i:Nat) (out:List LineM),(Lz i rs out).1.length≤out.length+rs.length
 |[],_,out=>by rw[Lz];simp
 |r::rs,i,out=>by
  rw[Lz];split
  ·simp
  ·split
   ·have:=Xp rs (i+1) out;rw[yL];omega
   ·split
    ·simp
    ·have:=Xp rs (i+1) (out++[(Ci (wordsT r).1 ((i:Int)+1)).1]);rw[zW,yC]at this;rw[yL];omega
def Az8(b:List UInt8):(textT b).1.length≤400:=by
 have h:=(Ab4 b).1;unfold textT;split
 ·simp
 ·have:=Xp (rowsT b).1 0 [];rw[xM]at this;omega
def A10(b:List UInt8)(hb:b.length≤1000000):Sp 5 [.sl 1 Al b] (.tup [Am (netTextT b).1,Aa (netTextT b).2.1,Aa (netTextT b).2.2]):=cT F5 ntmps5 λF hF=>by
 have q1:=Awl b hb;have q2:=Axv (textT b).1 (λx hx=>(Xo b x hx).w) (by have:=Az8 b;omega);have aa:=netTextT.eq_1 b;generalize netTextT b=res at *;generalize textT b=t at *;refine gD q1 F11 ?_;refine T ?_;constructor<;>intro h
 ·have ag:t.2.2≠0:=by intro e;rw[e]at h;cases h
  rw[zG ag]at aa;subst aa;clear h;refine T ?_;refine Ak 2 (C6 emptyN) E vL ?_;exact D
 ·have he:t.2.2=0:=by simpa using h
  rw[zD (λhh=>hh he)]at aa;subst aa;clear h;refine gD q2 F12 ?_;exact D
end Go.Sy.YticmobkdaneelaaGreatDoor
namespace Go.Sy.YticmobkdaneelaaGreatDoor
open Go.Proofs Go.Proofs.Tryz
def An9(b:List UInt8):(netTextT b).1.Fin∧Dr (netTextT b).1:=by
 by_cases h:(netTextT b).2.2=0
 ·rw[netTextT]at h⊢;split at h
  ·contradiction
  rename_i h1;rw[zD h1];exact Yk (textT b).1 emptyN J3 (λx hx=>(by cases hx)) (λx hx=>(Xo b x hx).w) h
 ·have:(netTextT b).1=emptyN:=by
   rw[netTextT]at h⊢;split at h
   ·rename_i h1;rw[zG h1]
   ·rename_i h1;rw[zD h1];exact Ac1 (textT b).1 emptyN h
  rw[this];exact⟨J3,λx hx=>by cases hx⟩
def Aze{M:List LineM}(hM:∀z∈M,LineW z)(h:(Dc M).2.2=0):(Dc M).1.Fin∧BuiltK (Dc M).1∧Dk (Dc M).1=true:=by
 have hb:Dc M=Bt emptyN M:=rfl;rw[hb]at h⊢;obtain ⟨hn,hu⟩:=Yk M emptyN J3 (λx hx=>(by cases hx)) hM h;obtain ⟨_,hr,hm,_⟩:=Ac0 M emptyN (λ_=>0) Apt Aty h;have hme:=On (n:=(Bt emptyN M).1) (by rw[hm]);refine⟨hn,⟨hr,Ajx M emptyN Ajm h,⟨Aaa M emptyN (λd hd=>by cases hd) hM h,hu⟩,by rw[hm],?_⟩,costsK (Ac2 M emptyN Acx h)⟩;rw[←hme.1,hm]
def A4p{b:List UInt8}(h:(netTextT b).2.2=0):(netTextT b).1.Fin∧BuiltK (netTextT b).1∧Dk (netTextT b).1=true:=by
 rw[netTextT]at h⊢;split at h
 ·contradiction
 rename_i h1;rw[zD h1];exact Aze (λx hx=>(Xo b x hx).w) h
end Go.Sy.YticmobkdaneelaaGreatDoor
