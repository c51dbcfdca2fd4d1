/- Parts of a proof. -/
import Derived.Test.YtodbnbfjhjcanaaGreatDoorXA34
import Derived.Test.YtodbnbfjhjcanaaGreatDoorXA37
import Derived.Test.YtodbnbfjhjcanaaGreatDoorXA47
set_option maxHeartbeats 4000000
set_option linter.all false
namespace Go.Sy.Zaa
open Go.Proofs Go.Proofs.Tryz
section
attribute [local irreducible]G DR
set_option maxRecDepth 100000
def Awk(M:List LineM)(hM:∀l∈M,LineW l)(hl:M.length<2147483648):Sq 67 [.ptr 0 0] (Ij 0 0 M (emptyN,0,0)) (.tup [Am (Di M).1,Aa (Di M).2.1,Aa (Di M).2.2]) (Ij 1 0 M (Di M)):=cT F67 ntmps67 λF hF=>by
 have q:=A1b M hM hl;refine T ?_;refine X (Ad [] E F137 q E W E V) ?_;refine T ?_;exact done E (.cons (.cell E E E E) (.cons .tmp Ap)) [] (Ij 1 0 M (Di M)) (λ_ h=>h) E E U
def Atl(M:List LineM)(hM:∀l∈M,LineW l)(hl:M.length<2147483648):Sp 35 [.sl 17 A3 M] (.tup [Am (Di M).1,Aa (Di M).2.1,Aa (Di M).2.2]):=cT F35 ntmps35 λF hF=>by
 have q:=Awk M hM hl;refine T ?_;refine Ak 8 (Zp 0 0 M emptyN 0 0) E vL (X (Ad [(0,8)] E F67 q E W E V) ?_);exact gA
theorem LineR.w{l:LineM}(h:LineR l):LineW l where
 fin:=by
  have e:∀{l:List Int} {m:Int},Em l m=true->m<=65535->l.length<=100000:=λ{l} {m} hl hm=>by
   rcases listOK_iff.1 hl with h|h
   .rw[h];exact xX _
   .have:=(rising_iff.1 h).2.2.2;omega
  exact⟨e h.tagged y_,e h.imports y_,e h.exports y_,by have:=h.addrs;omega⟩
 ok:=h.ok
 dev:=by have:=h.dev;omega
 port:=by have:=h.port;omega
 peer:=by have:=h.peer;omega
 far:=by have:=h.far;omega
 name:=by have:=h.name;omega
def Yi:∀(rs:List ByteArray) (i:Nat) (out:List LineM),(L6 i rs out).1.length<=out.length+rs.length
 |[],_,out=>by rw[L6];simp
 |r::rs,i,out=>by
  rw[L6];split
  .simp
  .split
   .have:=Yi rs (i+1) out;rw[yL];omega
   .split
    .simp
    .have:=Yi rs (i+1) (out++[(Cm (wordsT r).1 ((i:Int)+1)).1]);rw[zU,yF]at this;rw[yL];omega
def Av5(b:List UInt8):(textT b).1.length<=400:=by
 have h:=(O7 b).1;unfold textT;split
 .simp
 .have:=Yi (rowsT b).1 0 [];rw[xK]at this;omega
def oZ(b:List UInt8)(hb:b.length<=1000000):Sp 14 [.sl 1 Al b] (.tup [Am (netTextT b).1,Aa (netTextT b).2.1,Aa (netTextT b).2.2]):=cT F14 ntmps14 λF hF=>by
 have q1:=Ar8 b hb;have q2:=Atl (textT b).1 (λx hx=>(S7 b x hx).w) (by have:=Av5 b;omega);have aa:=netTextT.eq_1 b;generalize netTextT b=res at *;generalize textT b=t at *;refine gC q1 F34 ?_;refine gL ?_ ?_<;>intro h
 .have ag:t.2.2≠0:=by intro e;rw[e]at h;cases h
  rw[zE ag]at aa;subst aa;clear h;refine T ?_;exact Ak 2 (C8 emptyN) E vL D
 .have he:t.2.2=0:=by simpa using h
  rw[zD (λhh=>hh he)]at aa;subst aa;clear h;refine gC q2 F35 ?_;exact D
end
def J9(b:List UInt8):(netTextT b).1.Fin/\C7 (netTextT b).1:=by
 by_cases h:(netTextT b).2.2=0
 .rw[netTextT]at h|-;split at h
  .contradiction
  rename_i h1;rw[zD h1];exact Y8 (textT b).1 emptyN Kh (λx hx=>(by cases hx)) (λx hx=>(S7 b x hx).w) h
 .have:(netTextT b).1=emptyN:=by
   rw[netTextT]at h|-;split at h
   .rename_i h1;rw[zE h1]
   .rename_i h1;rw[zD h1];exact fG (textT b).1 emptyN h
  rw[this];exact⟨Kh,λx hx=>by cases hx⟩
def Aoc(b:List UInt8)(h:(netTextT b).2.2=0):(netTextT b).1.Num/\Do (netTextT b).1=true:=by
 have hu:=(J9 b).2;rw[netTextT]at h hu|-;split at h
 .contradiction
 rename_i h1;rw[zD h1]at hu|-;exact⟨⟨T9 (textT b).1 emptyN (λd hd=>by cases hd) (λx hx=>(S7 b x hx).w) h,hu⟩,Az1 (Wa (textT b).1 emptyN V4 h)⟩
def Au6{M:List LineM}(hM:∀z∈M,LineW z)(h:(Di M).2.2=0):(Di M).1.Fin/\BuiltK (Di M).1/\Do (Di M).1=true:=by
 have hb:Di M=Bu emptyN M:=rfl;rw[hb]at h|-;obtain ⟨hn,hu⟩:=Y8 M emptyN Kh (λx hx=>(by cases hx)) hM h;obtain ⟨_,hr,hm,_⟩:=fF M emptyN (λ_=>0) Ak3 Apj h;have hme:=O9 (n:=(Bu emptyN M).1) (by rw[hm]);refine⟨hn,⟨hr,Afb M emptyN Aey h,⟨T9 M emptyN (λd hd=>by cases hd) hM h,hu⟩,by rw[hm],?_⟩,Az1 (Wa M emptyN V4 h)⟩;rw[<-hme.1,hm]
def Xx{b:List UInt8}(h:(netTextT b).2.2=0):(netTextT b).1.Fin/\BuiltK (netTextT b).1/\Do (netTextT b).1=true:=by
 rw[netTextT]at h|-;split at h
 .contradiction
 rename_i h1;rw[zD h1];exact Au6 (λx hx=>(S7 b x hx).w) h
def Ajo{b:List UInt8}(h:(netTextT b).2.2=0):FarK (netTextT b).1:=by
 rw[netTextT]at h|-;split at h
 .contradiction
 rename_i h1;rw[zD h1];exact Afc (textT b).1 emptyN Aez h
def Az6{n:Net}(B:BuiltK n)(hc:Do n=true):okB n (Zg n)=true:=ok_iff.2 ⟨by simp[Zg],B.right,hc⟩
end Go.Sy.Zaa
