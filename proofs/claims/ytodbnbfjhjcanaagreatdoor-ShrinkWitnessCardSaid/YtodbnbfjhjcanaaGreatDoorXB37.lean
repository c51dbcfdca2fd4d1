/- Parts of a proof. -/
import Derived.Test.YtodbnbfjhjcanaaGreatDoorXB35
import Derived.Test.YtodbnbfjhjcanaaGreatDoorXB36
set_option maxHeartbeats 4000000
set_option linter.all false
namespace Go.Sy.Zaa
open Go.Proofs Go.Proofs.Tryz
section
attribute [local irreducible]G DR
set_option maxRecDepth 100000
def Azh(M:List LineM)(hM:∀l∈M,LineW l)(hl:M.length<2147483648):Sq 67 [.ptr 0 0] (Iv 0 0 M (emptyN,0,0)) (.tup [Am (Do M).1,Aa (Do M).2.1,Aa (Do M).2.2]) (Iv 1 0 M (Do M)):=cT F67 ntmps67 λF hF=>by
 have q:=A38 M hM hl;refine T ?_;refine X (Ad [] E F137 q E W E V) ?_;refine T ?_;exact done E (.cons (.cell E E E E) (.cons .tmp Aq)) [] (Iv 1 0 M (Do M)) (λ_ h=>h) E E U
def Awh(M:List LineM)(hM:∀l∈M,LineW l)(hl:M.length<2147483648):Sp 35 [.sl 17 A5 M] (.tup [Am (Do M).1,Aa (Do M).2.1,Aa (Do M).2.2]):=cT F35 ntmps35 λF hF=>by
 have q:=Azh M hM hl;refine T ?_;refine Ak 8 (bC 0 0 M emptyN 0 0) E vL (X (Ad [(0,8)] E F67 q E W E V) ?_);exact gA
theorem LineR.w{l:LineM}(h:LineR l):LineW l where
 fin:=by
  have e:∀{l:List Int} {m:Int},E2 l m=true->m<=65535->l.length<=100000:=λ{l} {m} hl hm=>by
   rcases listOK_iff.1 hl with h|h
   .rw[h];exact xN _
   .have:=(rising_iff.1 h).2.2.2;omega
  exact⟨e h.tagged j_,e h.imports j_,e h.exports j_,by have:=h.addrs;omega⟩
 ok:=h.ok
 dev:=by have:=h.dev;omega
 port:=by have:=h.port;omega
 peer:=by have:=h.peer;omega
 far:=by have:=h.far;omega
 name:=by have:=h.name;omega
def Zn:∀(rs:List ByteArray) (i:Nat) (out:List LineM),(Ms i rs out).1.length<=out.length+rs.length
 |[],_,out=>by rw[Ms];simp
 |r::rs,i,out=>by
  rw[Ms];split
  .simp
  .split
   .have:=Zn rs (i+1) out;rw[yM];omega
   .split
    .simp
    .have:=Zn rs (i+1) (out++[(Cp (wordsT r).1 ((i:Int)+1)).1]);rw[zQ,zW]at this;rw[yM];omega
def Ay3(b:List UInt8):(textT b).1.length<=400:=by
 have h:=(Qy b).1;unfold textT;split
 .simp
 .have:=Zn (rowsT b).1 0 [];rw[xG]at this;omega
def Als(b:List UInt8)(hb:b.length<=1000000):Sp 14 [.sl 1 Al b] (.tup [Am (netTextT b).1,Aa (netTextT b).2.1,Aa (netTextT b).2.2]):=cT F14 ntmps14 λF hF=>by
 have q1:=Auv b hb;have q2:=Awh (textT b).1 (λx hx=>(Tv b x hx).w) (by have:=Ay3 b;omega);have aa:=netTextT.eq_1 b;generalize netTextT b=res at *;generalize textT b=t at *;refine gC q1 F34 ?_;refine gN ?_ ?_<;>intro h
 .have af:t.2.2≠0:=by intro e;rw[e]at h;cases h
  rw[zE af]at aa;subst aa;clear h;refine T ?_;exact Ak 2 (Dc emptyN) E vL D
 .have he:t.2.2=0:=by simpa using h
  rw[zD (λhh=>hh he)]at aa;subst aa;clear h;refine gC q2 F35 ?_;exact D
end
def Wg(b:List UInt8):(netTextT b).1.Fin/\C7 (netTextT b).1:=by
 by_cases h:(netTextT b).2.2=0
 .rw[netTextT]at h|-;split at h
  .contradiction
  rename_i h1;rw[zD h1];exact aJ (textT b).1 emptyN Kr (λx hx=>(by cases hx)) (λx hx=>(Tv b x hx).w) h
 .have:(netTextT b).1=emptyN:=by
   rw[netTextT]at h|-;split at h
   .rename_i h1;rw[zE h1]
   .rename_i h1;rw[zD h1];exact nY (textT b).1 emptyN h
  rw[this];exact⟨Kr,λx hx=>by cases hx⟩
def Ab6(b:List UInt8)(h:(netTextT b).2.2=0):(netTextT b).1.Num/\Cv (netTextT b).1=true:=by
 have hu:=(Wg b).2;rw[netTextT]at h hu|-;split at h
 .contradiction
 rename_i h1;rw[zD h1]at hu|-;exact⟨⟨U0 (textT b).1 emptyN (λd hd=>by cases hd) (λx hx=>(Tv b x hx).w) h,hu⟩,A2z (Xa (textT b).1 emptyN Wz h)⟩
def Ax5{M:List LineM}(hM:∀z∈M,LineW z)(h:(Do M).2.2=0):(Do M).1.Fin/\BuiltK (Do M).1/\Cv (Do M).1=true:=by
 have hb:Do M=Bv emptyN M:=rfl;rw[hb]at h|-;obtain ⟨hn,hu⟩:=aJ M emptyN Kr (λx hx=>(by cases hx)) hM h;obtain ⟨_,hr,hm,_⟩:=nX M emptyN (λ_=>0) Ang Ar4 h;have hme:=Oh (n:=(Bv emptyN M).1) (by rw[hm]);refine⟨hn,⟨hr,Ahb M emptyN Agy h,⟨U0 M emptyN (λd hd=>by cases hd) hM h,hu⟩,by rw[hm],?_⟩,A2z (Xa M emptyN Wz h)⟩;rw[<-hme.1,hm]
def Y1{b:List UInt8}(h:(netTextT b).2.2=0):(netTextT b).1.Fin/\BuiltK (netTextT b).1/\Cv (netTextT b).1=true:=by
 rw[netTextT]at h|-;split at h
 .contradiction
 rename_i h1;rw[zD h1];exact Ax5 (λx hx=>(Tv b x hx).w) h
end Go.Sy.Zaa
