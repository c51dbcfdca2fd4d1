/- Parts of a proof. -/
import Derived.Test.YticmobkdaneelaaGreatDoorYE28
set_option linter.all false
set_option linter.unusedVariables false
set_option linter.unusedSimpArgs false
set_option linter.deprecated false
namespace Go.Sy.YticmobkdaneelaaGreatDoor
open Go.Proofs Go.Proofs.Tryz
attribute [local irreducible] Go.Sy.G Go.Sy.DR
set_option maxRecDepth 100000
set_option maxHeartbeats 4000000
def Zq(l:List Static)(p:Static→Bool)(f:FuncId)(first cap:List SV)(hc:(SV.clo (.func f) first cap).inn []=true)(hf:∀x∈l,H3 prog f (first++[A0 x]++cap) (Ab (p x)))(hl:An l):Sp 332 [.sl 4 A0 l,.clo (.func f) first cap] (Aa (Bv p l)):=cT F332 ntmps332 λF hF=>by
 unfold An at hl;have az:∀x:Static,Cd [] (first++[A0 x]++cap)=true:=λx=>Dh hc rfl
 refine fW ?_;refine A9 l.length (λj=>En (λ_ x=>!(p x)) l j) (λj=>[(0,.sl 4 A0 l),(1,.clo (.func f) first cap),(7,Aa l.length),(8,Aa j)]) (λ_=>[]) [] (Bl _ _) ⟨⟨E,E,Bj _,hc,E,E,E,E,Y⟩,Y,E,E⟩ ?_;intro j hj hI;refine fU ?_;constructor<;>intro h
 ·have h:=zK h;have an:j<l.length:=by omega
  refine fU ?_;refine⟨E,by omega,by omega,?_⟩;refine fW ?_;refine D8 (hf l[j] (zI an)) E E E (by simp only[az];rfl) E E ?_;refine fU ?_;constructor<;>intro h2
  ·refine fU ?_;refine At E (.cons .tmp .nil) (zH Aa ?_) E;exact C7 an (λi hi br=>by simpa using hI i hi br) h2
  ·refine gG ?_;exact A8 [] hI an (Bi hI an (by simp[h2])) ⟨⟨E,E,Bj _,hc,E,E,E,E,Y⟩,Y,E,E⟩
 ·have h:=zQ h;refine fU ?_;refine At E (.cons .tmp .nil) (zH Aa ?_) E;exact D4 (λi hi=>by simpa using hI i hi q_)
def A12(dom m:Int)(s:Static):Sp 333 [A0 s,.ref 1 (Aa dom) 0,.ref 1 (A2 m) 0] (Ab (s.domain==dom&&s.mac==m)):=cT F333 ntmps333 λF hF=>by
 cases h:(s.domain==dom)
 ·exact gA
 ·exact gA
def A11(n:Net)(hn:n.Fin)(dom m:Int):Sp 263 [Am n,Aa dom,A2 m] (Aa (Alp n dom m)):=cT F263 ntmps263 λF hF=>by
 have q:=Zq n.statics (λs:Static=>s.domain==dom&&s.mac==m) 333 [] [.ref 1 (Aa dom) 0,.ref 1 (A2 m) 0] rfl (λx _=>⟨⟨_,_,F333⟩,A12 dom m x⟩) hn.statics;refine fW ?_;refine Bf 4 1 (Aa dom) E E E ?_;refine Bf 5 1 (A2 m) E E E ?_;refine c0 q F332 ?_;exact gC
def Arp(n:Net)(hn:n.Fin)(l:LineM)(hl:LineW l):Sp 185 [Am n,A3 l] (.tup [Am (putStatic n l).1,Aa (putStatic n l).2]):=cT F185 ntmps185 λF hF=>by
 have qr:=Ky l hl;have qn:=A1 n hn;have db:=Te n hn;have aa:=putStatic.eq_1 n l;dsimp only at aa;have hf:=fitsB.eq_1 n l 4;generalize putStatic n l=res at *;generalize fitsB n l 4=f at *;cases h1:(l.kind==4) with
 |false=>
  have g1:(l.kind != 4)=true:=by rw[bne,h1];rfl
  rw[h1,yE]at hf;rw[hf,zG rfl]at aa;subst aa;refine T ?_;refine Ak 4 (C6 emptyN) E vL ?_;exact gA
 |true=>
 have g1:(l.kind != 4)=false:=by rw[bne,h1];rfl
 rw[h1,yF]at hf;cases h2:Cj l with
 |false=>
  rw[h2]at qr hf;rw[hf,yE,zG rfl]at aa;subst aa;refine gD qr F261 ?_;refine Ak 4 (C6 emptyN) E vL ?_;exact gA
 |true=>
 rw[h2]at qr hf;cases hr:Ac n with
 |false=>
  rw[hr]at qn hf;rw[hf,wR,zG rfl]at aa;subst aa;refine gB qr F261 qn F22 ?_;refine Ak 4 (C6 emptyN) E vL ?_;exact gA
 |true=>
 rw[hr]at qn hf;rw[hf,zD y_]at aa;have q1:=Ke n hn hr l.dev;have q2:=Xy n hn hr (Cn n l.dev) l.port;have q3:=Lg n hn hr (Cn n l.dev) l.vlan;have q5:=A11 n hn (C2 n (Cn n l.dev) l.vlan) l.mac;have hpr:Uq n (Cn n l.dev) l.port<0∨∃k:Nat,Uq n (Cn n l.dev) l.port=k∧k<n.ports.length:=by
  by_cases h:Uq n (Cn n l.dev) l.port<0
  ·exact .inl h
  ·exact .inr (K6 h)
 have il:n.statics.length<2147483648:=hn.statics;generalize Uq n (Cn n l.dev) l.port=pt at *;generalize C2 n (Cn n l.dev) l.vlan=dm at *;generalize Cn n l.dev=dv at *;generalize Alp n dm l.mac=en at *;by_cases h3:dv<0
 ·have g3:decide (dv<0)=true:=zO h3;rw[zG (.inl h3)]at aa;subst aa;refine gB qr F261 qn F22 ?_;refine gJ q1 F258 q2 F259 ?_;refine C q3 F102 ?_;refine Ak 4 (C6 emptyN) E vL ?_;exact gA
 have g3:decide (dv<0)=false:=zL h3;by_cases h4:pt<0
 ·have g4:decide (pt<0)=true:=zO h4;rw[zG (.inr h4)]at aa;subst aa;refine gB qr F261 qn F22 ?_;refine gJ q1 F258 q2 F259 ?_;refine C q3 F102 ?_;refine Ak 4 (C6 emptyN) E vL ?_;exact gA
 have g4:decide (pt<0)=false:=zL h4;rw[zD (λh=>h.elim h3 h4)]at aa;obtain ⟨p,hp,bh⟩:=hpr.resolve_left h4;subst hp;clear hpr;have gr:(p:Int).toNat<n.ports.length:=bh;have zg:nth n.ports (p:Int)=n.ports[(p:Int).toNat]'gr:=Ai gr;rw[zg]at aa;by_cases h5:dm<0
 ·have g5:decide (dm<0)=true:=zO h5;rw[zG (.inl h5)]at aa;subst aa;refine gB qr F261 qn F22 ?_;refine gJ q1 F258 q2 F259 ?_;refine C q3 F102 ?_;refine Ak 4 (C6 emptyN) E vL ?_;exact gA
 have g5:decide (dm<0)=false:=zL h5;have q4:=Zi (n.ports[(p:Int).toNat]'gr) l.vlan (hn.tagged _ (zI gr));cases hb:Dl (n.ports[(p:Int).toNat]'gr) l.vlan with
 |false=>
  rw[hb]at q4;rw[zG (.inr hb)]at aa;subst aa;refine gB qr F261 qn F22 ?_;refine gJ q1 F258 q2 F259 ?_;refine gJ q3 F102 q4 F106 ?_;refine Ak 4 (C6 emptyN) E vL ?_;exact gA
 |true=>
 rw[hb]at q4;rw[zD (λh=>h.elim h5 (by rw[hb];simp))]at aa;by_cases h6:0≤en
 ·have g6:decide (en≥0)=true:=zO h6;rw[zG h6]at aa;subst aa;refine gB qr F261 qn F22 ?_;refine gJ q1 F258 q2 F259 ?_;refine gJ q3 F102 q4 F106 ?_;refine C q5 F263 ?_;refine Ak 4 (C6 emptyN) E vL ?_;exact gA
 have g6:decide (en≥0)=false:=zL h6;rw[zD h6]at aa;by_cases h7:n.statics.length=64
 ·have g7:((n.statics.length:Int)==64)=true:=by rw[yJ];omega
  rw[zG h7]at aa;subst aa;refine gB qr F261 qn F22 ?_;refine gJ q1 F258 q2 F259 ?_;refine gJ q3 F102 q4 F106 ?_;refine C q5 F263 ?_;refine Ak 4 (C6 emptyN) E vL ?_;exact gA
 have g7:((n.statics.length:Int)==64)=false:=by rw[zR];omega
 rw[zD h7]at aa;subst aa;refine gB qr F261 qn F22 ?_;refine gJ q1 F258 q2 F259 ?_;refine gJ q3 F102 q4 F106 ?_;refine C q5 F263 ?_;refine X (Ad [(0,901),(1,902),(2,903),(3,904),(4,905),(5,906),(6,907),(7,908)] E F30 db E W E V) ?_;refine X (Ag Γ.toTy 87 E E E E E (.row E) (.lit (e:=A0) (l:=[(⟨l.row,dm,(p:Int),l.mac⟩:Static)]) E E) j_ (by simp only[yC];omega) (by simp only[yC];omega)) ?_;refine Aj 901 E ?_;refine Aj 902 E ?_;refine Aj 903 E ?_;refine Aj 904 E ?_;refine Aj 87 E ?_;refine Aj 906 E ?_;refine Aj 907 E ?_;refine Aj 908 E ?_;exact D
end Go.Sy.YticmobkdaneelaaGreatDoor
