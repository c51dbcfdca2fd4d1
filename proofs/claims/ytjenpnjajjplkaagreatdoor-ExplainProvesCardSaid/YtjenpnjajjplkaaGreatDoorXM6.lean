/-
  E22 E23 E24 E25 E26 E27 E28 E30 E31 D3 D4 D7 D8 D9 D10 BF1 I20 I21 I22 E32: parts of a proof, joined by program.
-/
import Derived.Test.YtjenpnjajjplkaaGreatDoorXM5
import Derived.Test.YtjenpnjajjplkaaGreatDoorXM4
import Derived.Test.YtjenpnjajjplkaaGreatDoorXM3
set_option linter.all false
set_option linter.unusedVariables false
set_option linter.unusedSimpArgs false
set_option linter.deprecated false
namespace Go.Sy.YtjenpnjajjplkaaGreatDoor
open Go.Proofs
attribute [local irreducible] Go.Sy.G Go.Sy.DR
set_option maxRecDepth 20000
set_option maxHeartbeats 4000000
structure Lead where
 (to domain addr:Int)
abbrev H7 (l:Lead):SV:=.agg [Aa l.to,Aa l.domain,A5 l.addr]
instance:Inhabited Lead:=⟨⟨0,0,0⟩⟩
def leadF (n:Net) (irb:Int) (i:Nat):Option Lead:=if (addrT n irb i).2=true then some ⟨i,(nth n.irbs i).domain,(addrT n irb i).1⟩ else none
def Jm (n:Net) (irb:Int) (j:Nat):List Lead:=(List.range j).filterMap (leadF n irb)
def routesT (n:Net) (d:Int):List Lead:=if (0≤d∧d<n.domains.length)∧0≤(nth n.domains d).irb∧Ac n=true then Jm n (nth n.domains d).irb n.irbs.length else []
theorem Zu (n:Net) (irb:Int) (j:Nat):Jm n irb (j+1)=Jm n irb j++(match leadF n irb j with | some h=>[h] | none=>[]):=by
 rw[Jm,List.range_succ,List.filterMap_append]
 cases h:leadF n irb j<;>simp[h,Jm]
theorem L8 (n:Net) (irb:Int) (j:Nat):(Jm n irb j).length≤j:=by
 have:=List.length_filterMap_le (leadF n irb) (List.range j)
 simpa [Jm] using this
theorem V7 (n:Net) (hn:n.Fin) (hu:Bp n) (d:Int):Sy.Spec Tryz.prog 194 [Ae n,Aa d] [] (.sl 3 H7 (routesT n d)) []:=cT F194 Tryz.ntmps194 fun F hF=>by
 have hlk:=routesT.eq_1 n d
 generalize routesT n d=res at *
 have hr:=Aw n hn
 have hsi:=hn.irbs
 unfold Ag at hsi
 ((conv=>whnf);repeat((first|refine aF ?_|refine aT ?_);(first|refine rG Γ hm ?_|refine rD Γ hm z_ ?_);conv=>whnf))
 refine⟨fun h=>?_,fun h=>?_⟩
 ·rw[if_neg (qA h)]at hlk
  subst hlk
  ((first|refine rG Γ hm ?_|refine rD Γ hm z_ ?_);(conv=>whnf);repeat((first|refine aF ?_|refine aT ?_);(first|refine rG Γ hm ?_|refine rD Γ hm z_ ?_);conv=>whnf))
  refine Ci 4 3 H7 E ?_
  ((first|refine rG Γ hm ?_|refine rD Γ hm z_ ?_);(conv=>whnf);repeat((first|refine aF ?_|refine aT ?_);(first|refine rG Γ hm ?_|refine rD Γ hm z_ ?_);conv=>whnf))
  exact dN
 have h1:¬ d<0:=of_decide_eq_false h
 refine A1 2 8 (Ae n) E E E ?_
 ((first|refine rG Γ hm ?_|refine rD Γ hm z_ ?_);(conv=>whnf);repeat((first|refine aF ?_|refine aT ?_);(first|refine rG Γ hm ?_|refine rD Γ hm z_ ?_);conv=>whnf))
 refine⟨fun h=>?_,fun h=>?_⟩
 ·rw[if_neg (qA h)]at hlk
  subst hlk
  ((first|refine rG Γ hm ?_|refine rD Γ hm z_ ?_);(conv=>whnf);repeat((first|refine aF ?_|refine aT ?_);(first|refine rG Γ hm ?_|refine rD Γ hm z_ ?_);conv=>whnf))
  refine Ci 4 3 H7 E ?_
  ((first|refine rG Γ hm ?_|refine rD Γ hm z_ ?_);(conv=>whnf);repeat((first|refine aF ?_|refine aT ?_);(first|refine rG Γ hm ?_|refine rD Γ hm z_ ?_);conv=>whnf))
  exact dN
 have h2:d<n.domains.length:=qB h
 have hk:d.toNat<n.domains.length:=by omega
 rw[Ad hk]at hlk
 obtain ⟨x,hx⟩:∃ x,n.domains[d.toNat]'hk=x:=⟨_,rfl⟩
 rw[hx]at hlk
 ((first|refine rG Γ hm ?_|refine rD Γ hm z_ ?_);(conv=>whnf);repeat((first|refine aF ?_|refine aT ?_);(first|refine rG Γ hm ?_|refine rD Γ hm z_ ?_);conv=>whnf))
 refine⟨E,by omega,hk,?_⟩
 rw[hx]
 ((conv=>whnf);repeat((first|refine aF ?_|refine aT ?_);(first|refine rG Γ hm ?_|refine rD Γ hm z_ ?_);conv=>whnf))
 refine⟨fun h=>?_,fun h=>?_⟩
 ·rw[if_neg (qA h)]at hlk
  subst hlk
  ((first|refine rG Γ hm ?_|refine rD Γ hm z_ ?_);(conv=>whnf);repeat((first|refine aF ?_|refine aT ?_);(first|refine rG Γ hm ?_|refine rD Γ hm z_ ?_);conv=>whnf))
  refine Ci 4 3 H7 E ?_
  ((first|refine rG Γ hm ?_|refine rD Γ hm z_ ?_);(conv=>whnf);repeat((first|refine aF ?_|refine aT ?_);(first|refine rG Γ hm ?_|refine rD Γ hm z_ ?_);conv=>whnf))
  exact dN
 have h3:0≤x.irb:=qB h
 ((first|refine rG Γ hm ?_|refine rD Γ hm z_ ?_);(conv=>whnf);repeat((first|refine aF ?_|refine aT ?_);(first|refine rG Γ hm ?_|refine rD Γ hm z_ ?_);conv=>whnf))
 refine c0 hr F25 ?_
 cases hb:Ac n
 ·rw[if_neg (by simp[hb])]at hlk
  subst hlk
  ((first|refine rG Γ hm ?_|refine rD Γ hm z_ ?_);(conv=>whnf);repeat((first|refine aF ?_|refine aT ?_);(first|refine rG Γ hm ?_|refine rD Γ hm z_ ?_);conv=>whnf))
  refine Ci 4 3 H7 E ?_
  ((first|refine rG Γ hm ?_|refine rD Γ hm z_ ?_);(conv=>whnf);repeat((first|refine aF ?_|refine aT ?_);(first|refine rG Γ hm ?_|refine rD Γ hm z_ ?_);conv=>whnf))
  exact dN
 rw[if_pos ⟨⟨by omega,h2⟩,h3,hb⟩]at hlk
 subst hlk
 ((first|refine rG Γ hm ?_|refine rD Γ hm z_ ?_);(conv=>whnf);repeat((first|refine aF ?_|refine aT ?_);(first|refine rG Γ hm ?_|refine rD Γ hm z_ ?_);conv=>whnf))
 refine Cq 5 1000 3 H7 E E ?_
 refine By n.irbs.length (fun j=>[(1,Aa d),(2,.ref 8 (Ae n) 0),(5,.osl 1000),(34,.sl 5 Bf n.irbs),(35,Aa n.irbs.length),(36,Aa j)]) (fun j=>[(1000,.row 3 H7 (Jm n x.irb j))]) []
  ⟨⟨rfl,rfl,rfl,rfl,rfl,rfl,rfl,rfl,rfl,rfl,rfl,rfl,trivial⟩,⟨.inl rfl,rfl,trivial⟩,rfl,rfl⟩ ?_
 intro j hj
 have hll:=L8 n x.irb j
 ((first|refine rG Γ hm ?_|refine rD Γ hm z_ ?_);(conv=>whnf);repeat((first|refine aF ?_|refine aT ?_);(first|refine rG Γ hm ?_|refine rD Γ hm z_ ?_);conv=>whnf))
 refine⟨fun h=>?_,fun h=>?_⟩
 ·have hlt:j<n.irbs.length:=by simpa using h
  have hj0:((j:Nat):Int).toNat<n.irbs.length:=by simpa using hlt
  have q:=Va n hn hu x.irb j
  have hs:=Zu n x.irb j
  have hle:=leadF.eq_1 n x.irb j
  rw[Ad hj0]at hle
  rw[hle]at hs
  obtain ⟨y,hy⟩:∃ y,n.irbs[((j:Nat):Int).toNat]'hj0=y:=⟨_,rfl⟩
  rw[hy]at hs
  generalize addrT n x.irb j=ad at *
  obtain ⟨a,ok⟩:=ad
  dsimp only at hs q
  ((first|refine rG Γ hm ?_|refine rD Γ hm z_ ?_);(conv=>whnf);repeat((first|refine aF ?_|refine aT ?_);(first|refine rG Γ hm ?_|refine rD Γ hm z_ ?_);conv=>whnf))
  refine⟨E,by omega,hj0,?_⟩
  rw[hy]
  ((conv=>whnf);repeat((first|refine aF ?_|refine aT ?_);(first|refine rG Γ hm ?_|refine rD Γ hm z_ ?_);conv=>whnf))
  refine⟨E,by omega,hk,?_⟩
  rw[hx]
  ((conv=>whnf);repeat((first|refine aF ?_|refine aT ?_);(first|refine rG Γ hm ?_|refine rD Γ hm z_ ?_);conv=>whnf))
  refine cD q F266 ?_
  ((first|refine rG Γ hm ?_|refine rD Γ hm z_ ?_);(conv=>whnf);repeat((first|refine aF ?_|refine aT ?_);(first|refine rG Γ hm ?_|refine rD Γ hm z_ ?_);conv=>whnf))
  refine⟨z_,?_⟩
  ((conv=>whnf);repeat((first|refine aF ?_|refine aT ?_);(first|refine rG Γ hm ?_|refine rD Γ hm z_ ?_);conv=>whnf))
  refine⟨fun h=>?_,fun h=>?_⟩<;>(have h:ok=_:=h;subst h)
  ·((first|refine rG Γ hm ?_|refine rD Γ hm z_ ?_);(conv=>whnf);repeat((first|refine aF ?_|refine aT ?_);(first|refine rG Γ hm ?_|refine rD Γ hm z_ ?_);conv=>whnf))
   refine A2 (Ai Γ.toTy 61 E E E E E (.row E) (.lit (e:=H7) (l:=[⟨j,y.domain,a⟩]) E E) y_ (by simp;omega) (by simp;omega)) E E ?_
   ((first|refine rG Γ hm ?_|refine rD Γ hm z_ ?_);(conv=>whnf);repeat((first|refine aF ?_|refine aT ?_);(first|refine rG Γ hm ?_|refine rD Γ hm z_ ?_);conv=>whnf))
   refine iL ?_
   ((conv=>whnf);repeat((first|refine aF ?_|refine aT ?_);(first|refine rG Γ hm ?_|refine rD Γ hm z_ ?_);conv=>whnf))
   exact Bs [(1000,61)] hlt ⟨⟨E,E,E,E,E,E,E,E,E,E,E,E,Y⟩,⟨.inl (congrArg (Ob.row 3 H7) hs),E,Y⟩,E,E⟩
  ·((first|refine rG Γ hm ?_|refine rD Γ hm z_ ?_);(conv=>whnf);repeat((first|refine aF ?_|refine aT ?_);(first|refine rG Γ hm ?_|refine rD Γ hm z_ ?_);conv=>whnf))
   refine iL ?_
   ((conv=>whnf);repeat((first|refine aF ?_|refine aT ?_);(first|refine rG Γ hm ?_|refine rD Γ hm z_ ?_);conv=>whnf))
   exact Bs [] hlt ⟨⟨E,E,E,E,E,E,E,E,E,E,E,E,Y⟩,⟨.inl (congrArg (Ob.row 3 H7) (hs.trans (List.append_nil _))),E,Y⟩,E,E⟩
 ·have:j=n.irbs.length:=qB h
  subst this
  ((first|refine rG Γ hm ?_|refine rD Γ hm z_ ?_);(conv=>whnf);repeat((first|refine aF ?_|refine aT ?_);(first|refine rG Γ hm ?_|refine rD Γ hm z_ ?_);conv=>whnf))
  refine Ah 1000 E ?_
  ((first|refine rG Γ hm ?_|refine rD Γ hm z_ ?_);(conv=>whnf);repeat((first|refine aF ?_|refine aT ?_);(first|refine rG Γ hm ?_|refine rD Γ hm z_ ?_);conv=>whnf))
  exact dN
def Ei (n:Net) (i:Int):Bool:=decide (0≤i) && decide (i<n.ports.length) && decide ((nth n.ports i).link<0)
theorem Yh (n:Net) (i:Int):Sy.Spec Tryz.prog 98 [Ae n,Aa i] [] (Ab (Ei n i)) []:=cT F98 Tryz.ntmps98 fun F hF=>by
 ((conv=>whnf);repeat((first|refine aF ?_|refine aT ?_);(first|refine rG Γ hm ?_|refine rD Γ hm z_ ?_);conv=>whnf))
 refine⟨fun h=>?_,fun h=>?_⟩
 ·have h1:0≤i:=of_decide_eq_true h
  refine A1 2 8 (Ae n) E E E ?_
  ((first|refine rG Γ hm ?_|refine rD Γ hm z_ ?_);(conv=>whnf);repeat((first|refine aF ?_|refine aT ?_);(first|refine rG Γ hm ?_|refine rD Γ hm z_ ?_);conv=>whnf))
  refine⟨fun h=>?_,fun h=>?_⟩
  ·have h2:i<n.ports.length:=of_decide_eq_true h
   have hk:i.toNat<n.ports.length:=by omega
   rw[Ei,Ad hk,decide_eq_true h1,decide_eq_true h2,Bool.true_and,Bool.true_and]
   obtain ⟨p,hp⟩:∃ p,n.ports[i.toNat]'hk=p:=⟨_,rfl⟩
   rw[hp]
   ((first|refine rG Γ hm ?_|refine rD Γ hm z_ ?_);(conv=>whnf);repeat((first|refine aF ?_|refine aT ?_);(first|refine rG Γ hm ?_|refine rD Γ hm z_ ?_);conv=>whnf))
   refine⟨E,h1,hk,?_⟩
   rw[hp]
   ((conv=>whnf);repeat((first|refine aF ?_|refine aT ?_);(first|refine rG Γ hm ?_|refine rD Γ hm z_ ?_);conv=>whnf))
   exact dN
  ·have h2:¬ i<n.ports.length:=of_decide_eq_false h
   rw[Ei,decide_eq_false h2,Bool.and_false,Bool.false_and]
   ((first|refine rG Γ hm ?_|refine rD Γ hm z_ ?_);(conv=>whnf);repeat((first|refine aF ?_|refine aT ?_);(first|refine rG Γ hm ?_|refine rD Γ hm z_ ?_);conv=>whnf))
   exact dN
 ·have h1:¬ 0≤i:=of_decide_eq_false h
  rw[Ei,decide_eq_false h1,Bool.false_and,Bool.false_and]
  ((first|refine rG Γ hm ?_|refine rD Γ hm z_ ?_);(conv=>whnf);repeat((first|refine aF ?_|refine aT ?_);(first|refine rG Γ hm ?_|refine rD Γ hm z_ ?_);conv=>whnf))
  exact dN
structure Fnd where
 (domain kind:Int) (hop:Hop) (ahead:Int)
abbrev Me (f:Fnd):SV:=.agg [Aa f.domain,Aa f.kind,Aa f.hop.kind,Aa f.hop.port,Aa f.hop.domain,A5 f.hop.addr,Aa f.ahead]
instance:Inhabited Fnd:=⟨⟨0,0,default,0⟩⟩
structure Srch where
 (m0 m1:List Bool) (list:List Fnd)
abbrev stSV (d k:Int):SV:=.agg [Aa d,Aa k]
abbrev Si (n:Net) (S:Srch):Obs:=[(0,.box [.sl 5 Ap n.devices,.sl 7 As n.ports,.sl 3 Bg n.links,.sl 6 Af n.domains,.sl 4 Av n.statics,.sl 4 Ax n.floods,.sl 5 Bh n.vrfs,.sl 5 Bf n.irbs,.osl 1,.osl 2,.osl 3]),
 (1,.row 1 Ab S.m0),(2,.row 1 Ab S.m1),(3,.row 7 Me S.list)]
abbrev M3 (n:Net) (S:Srch):Obs:=[(0,.box [.sl 5 Ap n.devices,.sl 7 As n.ports,.sl 3 Bg n.links,.sl 6 Af n.domains,.sl 4 Av n.statics,.sl 4 Ax n.floods,.sl 5 Bh n.vrfs,.sl 5 Bf n.irbs,.osl 1,.osl 2,.osl 4]),
 (1,.row 1 Ab S.m0),(2,.row 1 Ab S.m1),(3,.non),(4,.row 7 Me S.list)]
def Jg (S:Srch) (d k:Int):Bool:=if k=0 then nth S.m0 d else nth S.m1 d
def Ij (S:Srch) (d k:Int) (h:Hop) (ahead:Int):Srch :=
 if k=0 then ⟨S.m0.set d.toNat true,S.m1,S.list++[⟨d,k,h,ahead⟩]⟩ else ⟨S.m0,S.m1.set d.toNat true,S.list++[⟨d,k,h,ahead⟩]⟩
def meetT (S:Srch) (d k:Int) (h:Hop) (ahead:Int):Srch:=if Jg S d k=true then S else Ij S d k h ahead
theorem Agv (n:Net) (S:Srch) (d:Int) (h:Hop) (ahead:Int) (hd:0≤d∧d.toNat<S.m0.length) (hl:Ag S.list) :
  Sy.Spec Tryz.prog 191 [.ptr 0 0,stSV d 0,B7 h,Aa ahead] (Si n S) (.tup []) (M3 n (meetT S d 0 h ahead)):=cT F191 Tryz.ntmps191 fun F hF=>by
 unfold Ag at hl
 have hlk:=meetT.eq_1 S d 0 h ahead
 rw[Jg,if_pos rfl,Ad hd.2,show Ij S d 0 h ahead=⟨S.m0.set d.toNat true,S.m1,S.list++[⟨d,0,h,ahead⟩]⟩ from if_pos rfl]at hlk
 generalize meetT S d 0 h ahead=res at *
 ((conv=>whnf);repeat((first|refine aF ?_|refine aT ?_);(first|refine rG Γ hm ?_|refine rD Γ hm z_ ?_);conv=>whnf))
 refine⟨by decide,by decide,?_⟩
 ((conv=>whnf);repeat((first|refine aF ?_|refine aT ?_);(first|refine rG Γ hm ?_|refine rD Γ hm z_ ?_);conv=>whnf))
 refine⟨hd.1,hd.2,?_⟩
 ((conv=>whnf);repeat((first|refine aF ?_|refine aT ?_);(first|refine rG Γ hm ?_|refine rD Γ hm z_ ?_);conv=>whnf))
 refine⟨E,hd.2,?_⟩
 ((conv=>whnf);repeat((first|refine aF ?_|refine aT ?_);(first|refine rG Γ hm ?_|refine rD Γ hm z_ ?_);conv=>whnf))
 refine⟨z_,?_⟩
 ((conv=>whnf);repeat((first|refine aF ?_|refine aT ?_);(first|refine rG Γ hm ?_|refine rD Γ hm z_ ?_);conv=>whnf))
 refine⟨fun h1=>?_,fun h1=>?_⟩
 rotate_left
 ·rw[if_pos (by simpa using h1)]at hlk
  subst hlk
  refine Ql 3 1000 E E j_ ?_
  ((first|refine rG Γ hm ?_|refine rD Γ hm z_ ?_);(conv=>whnf);repeat((first|refine aF ?_|refine aT ?_);(first|refine rG Γ hm ?_|refine rD Γ hm z_ ?_);conv=>whnf))
  exact Ch E .nil [(4,1000)] (M3 n res) (fun _ h=>h) E E ⟨Y,⟨.inl E,E,.inl E,E,.inl E,E,.inl E,E,.inl E,E,Y⟩,E,E⟩
 rw[if_neg (by simpa using h1)]at hlk
 subst hlk
 ((first|refine rG Γ hm ?_|refine rD Γ hm z_ ?_);(conv=>whnf);repeat((first|refine aF ?_|refine aT ?_);(first|refine rG Γ hm ?_|refine rD Γ hm z_ ?_);conv=>whnf))
 refine⟨by decide,by decide,?_⟩
 ((conv=>whnf);repeat((first|refine aF ?_|refine aT ?_);(first|refine rG Γ hm ?_|refine rD Γ hm z_ ?_);conv=>whnf))
 refine⟨hd.1,hd.2,?_⟩
 ((conv=>whnf);repeat((first|refine aF ?_|refine aT ?_);(first|refine rG Γ hm ?_|refine rD Γ hm z_ ?_);conv=>whnf))
 refine⟨E,hd.2,true,E,E,?_⟩
 ((conv=>whnf);repeat((first|refine aF ?_|refine aT ?_);(first|refine rG Γ hm ?_|refine rD Γ hm z_ ?_);conv=>whnf))
 refine⟨z_,?_⟩
 ((conv=>whnf);repeat((first|refine aF ?_|refine aT ?_);(first|refine rG Γ hm ?_|refine rD Γ hm z_ ?_);conv=>whnf))
 refine Dr (Ai Γ.toTy 40 E E E E E (.row E) (.lit (e:=Me) (l:=[⟨d,0,h,ahead⟩]) E E) y_ (by simp;omega) (by simp;omega)) z_ E ?_
 ((first|refine rG Γ hm ?_|refine rD Γ hm z_ ?_);(conv=>whnf);repeat((first|refine aF ?_|refine aT ?_);(first|refine rG Γ hm ?_|refine rD Γ hm z_ ?_);conv=>whnf))
 refine⟨z_,?_⟩
 ((conv=>whnf);repeat((first|refine aF ?_|refine aT ?_);(first|refine rG Γ hm ?_|refine rD Γ hm z_ ?_);conv=>whnf))
 exact Ch E .nil [(4,40)] (M3 n ⟨S.m0.set d.toNat true,S.m1,S.list++[⟨d,0,h,ahead⟩]⟩) (fun _ h=>h) E E ⟨Y,⟨.inl E,E,.inl E,E,.inl E,E,.inl E,E,.inl E,E,Y⟩,E,E⟩
theorem Agu (n:Net) (S:Srch) (d:Int) (h:Hop) (ahead:Int) (hd:0≤d∧d.toNat<S.m1.length) (hl:Ag S.list) :
  Sy.Spec Tryz.prog 191 [.ptr 0 0,stSV d 1,B7 h,Aa ahead] (Si n S) (.tup []) (M3 n (meetT S d 1 h ahead)):=cT F191 Tryz.ntmps191 fun F hF=>by
 unfold Ag at hl
 have hlk:=meetT.eq_1 S d 1 h ahead
 rw[show Jg S d 1=nth S.m1 d from if_neg j_,Ad hd.2,show Ij S d 1 h ahead=⟨S.m0,S.m1.set d.toNat true,S.list++[⟨d,1,h,ahead⟩]⟩ from if_neg j_]at hlk
 generalize meetT S d 1 h ahead=res at *
 ((conv=>whnf);repeat((first|refine aF ?_|refine aT ?_);(first|refine rG Γ hm ?_|refine rD Γ hm z_ ?_);conv=>whnf))
 refine⟨by decide,by decide,?_⟩
 ((conv=>whnf);repeat((first|refine aF ?_|refine aT ?_);(first|refine rG Γ hm ?_|refine rD Γ hm z_ ?_);conv=>whnf))
 refine⟨hd.1,hd.2,?_⟩
 ((conv=>whnf);repeat((first|refine aF ?_|refine aT ?_);(first|refine rG Γ hm ?_|refine rD Γ hm z_ ?_);conv=>whnf))
 refine⟨E,hd.2,?_⟩
 ((conv=>whnf);repeat((first|refine aF ?_|refine aT ?_);(first|refine rG Γ hm ?_|refine rD Γ hm z_ ?_);conv=>whnf))
 refine⟨z_,?_⟩
 ((conv=>whnf);repeat((first|refine aF ?_|refine aT ?_);(first|refine rG Γ hm ?_|refine rD Γ hm z_ ?_);conv=>whnf))
 refine⟨fun h1=>?_,fun h1=>?_⟩
 rotate_left
 ·rw[if_pos (by simpa using h1)]at hlk
  subst hlk
  refine Ql 3 1000 E E j_ ?_
  ((first|refine rG Γ hm ?_|refine rD Γ hm z_ ?_);(conv=>whnf);repeat((first|refine aF ?_|refine aT ?_);(first|refine rG Γ hm ?_|refine rD Γ hm z_ ?_);conv=>whnf))
  exact Ch E .nil [(4,1000)] (M3 n res) (fun _ h=>h) E E ⟨Y,⟨.inl E,E,.inl E,E,.inl E,E,.inl E,E,.inl E,E,Y⟩,E,E⟩
 rw[if_neg (by simpa using h1)]at hlk
 subst hlk
 ((first|refine rG Γ hm ?_|refine rD Γ hm z_ ?_);(conv=>whnf);repeat((first|refine aF ?_|refine aT ?_);(first|refine rG Γ hm ?_|refine rD Γ hm z_ ?_);conv=>whnf))
 refine⟨by decide,by decide,?_⟩
 ((conv=>whnf);repeat((first|refine aF ?_|refine aT ?_);(first|refine rG Γ hm ?_|refine rD Γ hm z_ ?_);conv=>whnf))
 refine⟨hd.1,hd.2,?_⟩
 ((conv=>whnf);repeat((first|refine aF ?_|refine aT ?_);(first|refine rG Γ hm ?_|refine rD Γ hm z_ ?_);conv=>whnf))
 refine⟨E,hd.2,true,E,E,?_⟩
 ((conv=>whnf);repeat((first|refine aF ?_|refine aT ?_);(first|refine rG Γ hm ?_|refine rD Γ hm z_ ?_);conv=>whnf))
 refine⟨z_,?_⟩
 ((conv=>whnf);repeat((first|refine aF ?_|refine aT ?_);(first|refine rG Γ hm ?_|refine rD Γ hm z_ ?_);conv=>whnf))
 refine Dr (Ai Γ.toTy 40 E E E E E (.row E) (.lit (e:=Me) (l:=[⟨d,1,h,ahead⟩]) E E) y_ (by simp;omega) (by simp;omega)) z_ E ?_
 ((first|refine rG Γ hm ?_|refine rD Γ hm z_ ?_);(conv=>whnf);repeat((first|refine aF ?_|refine aT ?_);(first|refine rG Γ hm ?_|refine rD Γ hm z_ ?_);conv=>whnf))
 refine⟨z_,?_⟩
 ((conv=>whnf);repeat((first|refine aF ?_|refine aT ?_);(first|refine rG Γ hm ?_|refine rD Γ hm z_ ?_);conv=>whnf))
 exact Ch E .nil [(4,40)] (M3 n ⟨S.m0,S.m1.set d.toNat true,S.list++[⟨d,1,h,ahead⟩]⟩) (fun _ h=>h) E E ⟨Y,⟨.inl E,E,.inl E,E,.inl E,E,.inl E,E,.inl E,E,Y⟩,E,E⟩
structure Srch.OK (n:Net) (S:Srch):Prop where
 l0:S.m0.length=n.domains.length
 l1:S.m1.length=n.domains.length
 at_:∀ f∈S.list,(0≤f.domain∧f.domain.toNat<n.domains.length)∧(f.kind=0∨f.kind=1)
 len:S.list.length≤S.m0.count true+S.m1.count true
theorem Srch.OK.le {n:Net} {S:Srch} (h:S.OK n):S.list.length≤2 * n.domains.length:=by
 have h1:S.m0.count true≤S.m0.length:=List.count_le_length
 have h2:S.m1.count true≤S.m1.length:=List.count_le_length
 have:=h.len
 rw[h.l0]at h1
 rw[h.l1]at h2
 omega
theorem count_set {l:List Bool} {i:Nat} (h:i<l.length) (hi:l[i]=false):(l.set i true).count true=l.count true+1:=by
 rw[List.count_set h,hi]
 simp
theorem Srch.OK.meet {n:Net} {S:Srch} (h:S.OK n) {d k:Int} (hd:0≤d∧d.toNat<n.domains.length) (hk:k=0∨k=1) (hp:Hop) (a:Int):(meetT S d k hp a).OK n:=by
 rw[meetT]
 split
 ·exact h
 rename_i hmt
 have h0:d.toNat<S.m0.length:=by rw[h.l0];exact hd.2
 have h1:d.toNat<S.m1.length:=by rw[h.l1];exact hd.2
 rcases hk with rfl | rfl
 ·rw[Jg,if_pos rfl,Ad h0]at hmt
  rw[Ij,if_pos rfl]
  refine⟨by simp[h.l0],h.l1,fun f hf=>?_,?_⟩
  ·rcases List.mem_append.1 hf with hf | hf
   ·exact h.at_ f hf
   ·rw[List.mem_singleton]at hf
    subst hf
    exact⟨hd,.inl E⟩
  ·rw[count_set h0 (by simpa using hmt),List.length_append,List.length_singleton]
   have:=h.len
   show _≤_+S.m1.count true
   omega
 ·rw[Jg,if_neg j_,Ad h1]at hmt
  rw[Ij,if_neg j_]
  refine⟨h.l0,by simp[h.l1],fun f hf=>?_,?_⟩
  ·rcases List.mem_append.1 hf with hf | hf
   ·exact h.at_ f hf
   ·rw[List.mem_singleton]at hf
    subst hf
    exact⟨hd,.inr E⟩
  ·rw[count_set h1 (by simpa using hmt),List.length_append,List.length_singleton]
   have:=h.len
   show _≤S.m0.count true+_
   omega
theorem K3 {n:Net} (h:Ac n=true) {i:Nat} (hi:i<n.ports.length) {v:Int} (hv:B5 n.ports[i] v=true):0≤Dn n n.ports[i].dev v∧(Dn n n.ports[i].dev v).toNat<n.domains.length:=by
 have hp:=Acf h hi
 simp only[Ki,Bool.and_eq_true,Bool.not_eq_true']at hp
 simp only[B5,Bool.and_eq_true,bne_iff_ne,Bool.or_eq_true,beq_iff_eq]at hv
 have h0:0≤Dn n n.ports[i].dev v:=by
  rcases hv.2 with h1 | h1
  ·have h2:=hp.1.2
   have h3:=hp.1.1.1.1.1.1.1.2
   rw[h1]at hv ⊢
   have h4:decide (0<n.ports[i].native)=true:=by
    simp only[decide_eq_true_eq]at h3 ⊢
    omega
   rw[h4]at h2
   simpa [C6] using h2
  ·have h2:=hp.1.1.2
   obtain ⟨x,hx,e⟩:=List.any_eq_true.1 h1
   obtain ⟨j,hj,rfl⟩:=List.mem_iff_getElem.1 hx
   have h3:=allB_iff.1 h2 j hj
   simp only[beq_iff_eq]at e
   rw[e]at h3
   simpa [C6] using h3
 refine⟨h0,?_⟩
 have:=Ot (fun d:Domain=>d.dev == n.ports[i].dev && d.vlan == v) n.domains
 have e:Dn n n.ports[i].dev v=Bd (fun d:Domain=>d.dev == n.ports[i].dev && d.vlan == v) n.domains:=rfl
 omega
theorem Kt {n:Net} {i v:Int} (h:(linkDomT n i v).2=true):0≤(linkDomT n i v).1∧(linkDomT n i v).1.toNat<n.domains.length:=by
 unfold linkDomT at h ⊢
 split at h
 ·rename_i hc
  rw[if_pos hc]
  have hth:=Qa hc
  unfold crossT at hc hth ⊢
  split at hc
  ·rename_i h1
   rw[if_pos h1]at hth ⊢
   have hb:=(Hp h1.1).2.1
   have h2:=h1.2.2
   rw[Tw]at h2 ⊢
   rw[Bl,if_pos hb]
   dsimp only at hth ⊢
   rw[Ad hth.2]at h2 ⊢
   refine K3 hb hth.2 ?_
   simp only[B5,Bool.and_eq_true,bne_iff_ne,Bool.or_eq_true,beq_iff_eq]
   refine⟨h2,?_⟩
   split
   ·exact .inl E
   ·rename_i h3
    rw[if_neg h3]at h2
    split
    ·rename_i h4
     exact .inr h4
    ·rename_i h4
     rw[if_neg h4]at h2
     exact absurd E h2
  ·cases hc
 ·cases h
theorem Ahp {n:Net} (h:Ac n=true) {i:Nat} (hi:i<n.domains.length) {p:Int} (hp:p∈n.domains[i].peers):0≤p∧p.toNat<n.domains.length:=by
 simp only[Ac,Bool.and_eq_true]at h
 have h1:=allB_iff.1 h.1.1.1.1.1.1.2 i hi
 obtain ⟨j,hj,rfl⟩:=List.mem_iff_getElem.1 hp
 have h2:=allB_iff.1 h1 j hj
 simp only[Wl,Ar,Bool.and_eq_true,decide_eq_true_eq]at h2
 omega
theorem E5 {n:Net} {d:Int} {h:Hop} (hh:h∈Cv n d):0≤h.domain∧h.domain.toNat<n.domains.length:=by
 rw[Cv]at hh
 split at hh
 ·rename_i hd
  have hk:d.toNat<n.domains.length:=by have:=hd.1;omega
  rw[hopsL,Ad hk]at hh
  rcases List.mem_append.1 hh with hh | hh
  ·obtain ⟨p,_,hp⟩:=List.mem_filterMap.1 hh
   rw[linkHop]at hp
   split at hp
   ·rename_i hl
    simp only[Option.some.injEq]at hp
    subst hp
    exact Kt hl
   ·cases hp
  ·obtain ⟨p,hp,rfl⟩:=List.mem_map.1 hh
   exact Ahp hd.2 hk hp
 ·cases hh
theorem El {n:Net} {d:Int} {q:Lead} (hq:q∈routesT n d):0≤q.domain∧q.domain.toNat<n.domains.length:=by
 rw[routesT]at hq
 split at hq
 ·rename_i hc
  obtain ⟨i,hi,hp⟩:=List.mem_filterMap.1 hq
  rw[leadF]at hp
  split at hp
  ·simp only[Option.some.injEq]at hp
   subst hp
   have hi':((i:Nat):Int).toNat<n.irbs.length:=by simpa using hi
   show 0≤(nth n.irbs i).domain∧_
   rw[Ad hi']
   exact(B3 hc.2.2 hi').1
  ·cases hp
 ·cases hq
end Go.Sy.YtjenpnjajjplkaaGreatDoor
namespace Go.Sy.YtjenpnjajjplkaaGreatDoor
open Go.Proofs
attribute [local irreducible] Go.Sy.G Go.Sy.DR
set_option maxRecDepth 20000
set_option maxHeartbeats 8000000
def ext1 (S:Srch) (k i:Int) (l:List Hop):Srch:=l.foldl (fun S h=>meetT S h.domain k h i) S
def ext2 (S:Srch) (i:Int) (l:List Lead):Srch:=l.foldl (fun S q=>meetT S q.domain 1 ⟨3,0,q.domain,q.addr⟩ i) S
def extT (n:Net) (S:Srch) (i:Int):Srch :=
 if (nth S.list i).kind=0 then ext2 (ext1 S 0 i (Cv n (nth S.list i).domain)) i (routesT n (nth S.list i).domain) else ext1 S 1 i (Cv n (nth S.list i).domain)
theorem Afa (S:Srch) (k i:Int) {l:List Hop} {j:Nat} {h:Hop} (hj:j<l.length) (hh:l[j]=h):ext1 S k i (l.take (j+1))=meetT (ext1 S k i (l.take j)) h.domain k h i:=by
 subst hh
 rw[ext1,List.take_add_one,List.getElem?_eq_getElem hj,List.foldl_append]
 rfl
theorem Ae9 (S:Srch) (i:Int) {l:List Lead} {j:Nat} {q:Lead} (hj:j<l.length) (hh:l[j]=q):ext2 S i (l.take (j+1))=meetT (ext2 S i (l.take j)) q.domain 1 ⟨3,0,q.domain,q.addr⟩ i:=by
 subst hh
 rw[ext2,List.take_add_one,List.getElem?_eq_getElem hj,List.foldl_append]
 rfl
theorem Srch.OK.ext1 {n:Net} {k i:Int} (hk:k=0∨k=1):∀ {l:List Hop} {S:Srch},S.OK n→(∀ h∈l,0≤h.domain∧h.domain.toNat<n.domains.length)→(ext1 S k i l).OK n
 | [],S,h,_=>h
 | x::l,S,h,hl=>Srch.OK.ext1 hk (l:=l) (h.meet (hl x y_) hk x i) (fun y hy=>hl y (by simp[hy]))
theorem Srch.OK.ext2 {n:Net} {i:Int}:∀ {l:List Lead} {S:Srch},S.OK n→(∀ h∈l,0≤h.domain∧h.domain.toNat<n.domains.length)→(ext2 S i l).OK n
 | [],S,h,_=>h
 | x::l,S,h,hl=>Srch.OK.ext2 (l:=l) (h.meet (hl x y_) (.inr rfl) _ i) (fun y hy=>hl y (by simp[hy]))
theorem Srch.OK.ext {n:Net} {S:Srch} (h:S.OK n) (i:Int):(extT n S i).OK n:=by
 rw[extT]
 split
 ·exact(h.ext1 (.inl E) (fun x hx=>E5 hx)).ext2 (fun x hx=>El hx)
 ·exact h.ext1 (.inr E) (fun x hx=>E5 hx)
theorem Z2 {n:Net} (hn:n.Fin) (d:Int):(Cv n d).length<4294967296:=by
 have h1:=D8 n hn d
 unfold Ag at h1
 rw[Cv]
 split
 ·rename_i hd
  have hk:d.toNat<n.domains.length:=by have:=hd.1;omega
  have h2:=hn.peers _ (List.getElem_mem hk)
  unfold Ag at h2
  have h3:=List.length_filterMap_le (linkHop n d) (Ao n d)
  rw[hopsL,Ad hk,List.length_append,List.length_map]
  omega
 ·decide
theorem Vl {n:Net} (hn:n.Fin) (d:Int):(routesT n d).length<4294967296:=by
 have h1:=hn.irbs
 unfold Ag at h1
 rw[routesT]
 split
 ·have:=L8 n (nth n.domains d).irb n.irbs.length
  omega
 ·decide
abbrev Af1 (n:Net) (S:Srch) (d k:Int):Obs:=[(0,.box [.sl 5 Ap n.devices,.sl 7 As n.ports,.sl 3 Bg n.links,.sl 6 Af n.domains,.sl 4 Av n.statics,.sl 4 Ax n.floods,.sl 5 Bh n.vrfs,.sl 5 Bf n.irbs,.osl 1,.osl 2,.osl 1000]),
 (1,.row 1 Ab S.m0),(2,.row 1 Ab S.m1),(3,.non),(1000,.row 7 Me S.list),(4,.box [Aa d,Aa k])]
theorem Aja (n:Net) (hn:n.Fin) (hu:Bp n) (hD:n.domains.length<1000000) (S:Srch) (hS:S.OK n) (i:Int) (hi:0≤i∧i.toNat<S.list.length) :
  Sy.Spec Tryz.prog 103 [.ptr 0 0,Aa i] (Si n S) (.tup []) (M3 n (extT n S i)):=cT F103 Tryz.ntmps103 fun F hF=>by
 have hlk:=extT.eq_1 n S i
 rw[Ad hi.2]at hlk
 generalize extT n S i=res at *
 have hfk:=(hS.at_ _ (List.getElem_mem hi.2)).2
 obtain ⟨f,hf⟩:∃ f,S.list[i.toNat]'hi.2=f:=⟨_,rfl⟩
 rw[hf]at hlk hfk
 obtain ⟨d,k,hp,ah⟩:=f
 dsimp only at hlk hfk
 have q1:=Abq n hn d
 have q2:=V7 n hn hu d
 have hin1:=fun h=>E5 (n:=n) (d:=d) (h:=h)
 have hin2:=fun h=>El (n:=n) (d:=d) (q:=h)
 have hs1:=Z2 hn d
 have hs2:=Vl hn d
 generalize Cv n d=hops at *
 generalize routesT n d=leads at *
 have ok1:∀ k,k=0∨k=1→∀ j,(ext1 S k i (hops.take j)).OK n:=fun k hk j=>hS.ext1 hk (fun x hx=>hin1 x (List.mem_of_mem_take hx))
 have ok2:∀ j,(ext2 (ext1 S 0 i hops) i (leads.take j)).OK n:=fun j=>Srch.OK.ext2 (hS.ext1 (.inl rfl) (fun x hx=>hin1 x hx)) (fun x hx=>hin2 x (List.mem_of_mem_take hx))
 have hsucc:=fun k j h hj hh=>Afa S k i (l:=hops) (j:=j) (h:=h) hj hh
 have hsucc2:=fun j h hj hh=>Ae9 (ext1 S 0 i hops) i (l:=leads) (j:=j) (q:=h) hj hh
 ((conv=>whnf);repeat((first|refine aF ?_|refine aT ?_);(first|refine rG Γ hm ?_|refine rD Γ hm z_ ?_);conv=>whnf))
 refine⟨hi.1,hi.2,?_⟩
 ((conv=>whnf);repeat((first|refine aF ?_|refine aT ?_);(first|refine rG Γ hm ?_|refine rD Γ hm z_ ?_);conv=>whnf))
 refine⟨by intro e;rw[e]at hi;simp at hi,?_⟩
 ((conv=>whnf);repeat((first|refine aF ?_|refine aT ?_);(first|refine rG Γ hm ?_|refine rD Γ hm z_ ?_);conv=>whnf))
 refine⟨E,hi.2,?_⟩
 rw[hf]
 ((conv=>whnf);repeat((first|refine aF ?_|refine aT ?_);(first|refine rG Γ hm ?_|refine rD Γ hm z_ ?_);conv=>whnf))
 rcases hfk with rfl | rfl
 ·rw[if_pos rfl]at hlk
  have ok1:=ok1 0 j_
  have hsucc:=hsucc 0
  ((first|refine rG Γ hm ?_|refine rD Γ hm z_ ?_);(conv=>whnf);repeat((first|refine aF ?_|refine aT ?_);(first|refine rG Γ hm ?_|refine rD Γ hm z_ ?_);conv=>whnf))
  refine cD q1 F193 ?_
  ((first|refine rG Γ hm ?_|refine rD Γ hm z_ ?_);(conv=>whnf);repeat((first|refine aF ?_|refine aT ?_);(first|refine rG Γ hm ?_|refine rD Γ hm z_ ?_);conv=>whnf))
  refine⟨z_,?_⟩
  ((conv=>whnf);repeat((first|refine aF ?_|refine aT ?_);(first|refine rG Γ hm ?_|refine rD Γ hm z_ ?_);conv=>whnf))
  refine Ql 3 1000 E E j_ ?_
  refine By hops.length (fun j=>[(0,.ptr 0 0),(1,Aa i),(4,.ptr 4 0),(23,.sl 4 B7 hops),(24,Aa hops.length),(25,Aa j)]) (fun j=>Af1 n (ext1 S 0 i (hops.take j)) d 0) []
   ⟨⟨rfl,rfl,rfl,rfl,rfl,rfl,rfl,rfl,rfl,rfl,rfl,rfl,trivial⟩,⟨.inl rfl,rfl,.inl rfl,rfl,.inl rfl,rfl,.inl rfl,rfl,.inl rfl,rfl,.inl rfl,rfl,trivial⟩,rfl,rfl⟩ ?_
  intro j hj
  have okj:=ok1 j
  have lej:=okj.le
  have l0:=okj.l0
  have scj:=hsucc j
  generalize hSj:ext1 S 0 i (hops.take j)=Sj at *
  ((first|refine rG Γ hm ?_|refine rD Γ hm z_ ?_);(conv=>whnf);repeat((first|refine aF ?_|refine aT ?_);(first|refine rG Γ hm ?_|refine rD Γ hm z_ ?_);conv=>whnf))
  refine⟨fun h=>?_,fun h=>?_⟩
  ·have hlt:j<hops.length:=by simpa using h
   have hj0:((j:Nat):Int).toNat<hops.length:=by simpa using hlt
   obtain ⟨hp,hhp⟩:∃ hp,hops[((j:Nat):Int).toNat]'hj0=hp:=⟨_,rfl⟩
   have hdi:=hin1 hp (by rw[← hhp];exact List.getElem_mem _)
   have sc:=scj hp hlt hhp
   have q3:=Agv n Sj hp.domain hp i (by rw[l0];exact hdi) (by unfold Ag;omega)
   rw[← sc]at q3
   ((first|refine rG Γ hm ?_|refine rD Γ hm z_ ?_);(conv=>whnf);repeat((first|refine aF ?_|refine aT ?_);(first|refine rG Γ hm ?_|refine rD Γ hm z_ ?_);conv=>whnf))
   refine⟨E,by omega,hj0,?_⟩
   rw[hhp]
   ((conv=>whnf);repeat((first|refine aF ?_|refine aT ?_);(first|refine rG Γ hm ?_|refine rD Γ hm z_ ?_);conv=>whnf))
   refine A2 (Aj [(0,0),(1,1),(2,2),(3,1000),(4,1001)] E F191 q3 E ⟨E,E,E,E,Y⟩ E ⟨.inl E,.inl E,.inl E,.inl E,.inr E,Y⟩) E E ?_
   ((first|refine rG Γ hm ?_|refine rD Γ hm z_ ?_);(conv=>whnf);repeat((first|refine aF ?_|refine aT ?_);(first|refine rG Γ hm ?_|refine rD Γ hm z_ ?_);conv=>whnf))
   refine iL ?_
   ((conv=>whnf);repeat((first|refine aF ?_|refine aT ?_);(first|refine rG Γ hm ?_|refine rD Γ hm z_ ?_);conv=>whnf))
   exact Bs [(1000,1001)] hlt ⟨⟨E,E,E,E,E,E,E,E,E,E,E,E,Y⟩,⟨.inl E,E,.inl E,E,.inl E,E,.inl E,E,.inl E,E,.inl E,E,Y⟩,E,E⟩
  ·have:j=hops.length:=qB h
   subst this
   rw[List.take_length]at hSj
   simp only[hSj]at hlk ok2 hsucc2
   ((first|refine rG Γ hm ?_|refine rD Γ hm z_ ?_);(conv=>whnf);repeat((first|refine aF ?_|refine aT ?_);(first|refine rG Γ hm ?_|refine rD Γ hm z_ ?_);conv=>whnf))
   refine cD q2 F194 ?_
   ((first|refine rG Γ hm ?_|refine rD Γ hm z_ ?_);(conv=>whnf);repeat((first|refine aF ?_|refine aT ?_);(first|refine rG Γ hm ?_|refine rD Γ hm z_ ?_);conv=>whnf))
   refine⟨z_,?_⟩
   ((conv=>whnf);repeat((first|refine aF ?_|refine aT ?_);(first|refine rG Γ hm ?_|refine rD Γ hm z_ ?_);conv=>whnf))
   refine By leads.length (fun j=>[(0,.ptr 0 0),(1,Aa i),(4,.ptr 4 0),(48,.sl 3 H7 leads),(49,Aa leads.length),(50,Aa j)]) (fun j=>Af1 n (ext2 Sj i (leads.take j)) d 0) []
    ⟨⟨rfl,rfl,rfl,rfl,rfl,rfl,rfl,rfl,rfl,rfl,rfl,rfl,trivial⟩,⟨.inl rfl,rfl,.inl rfl,rfl,.inl rfl,rfl,.inl rfl,rfl,.inl rfl,rfl,.inl rfl,rfl,trivial⟩,rfl,rfl⟩ ?_
   intro j hj
   have okj:=ok2 j
   have lej:=okj.le
   have l0:=okj.l1
   have scj:=hsucc2 j
   generalize hSk:ext2 Sj i (leads.take j)=Sk at *
   ((first|refine rG Γ hm ?_|refine rD Γ hm z_ ?_);(conv=>whnf);repeat((first|refine aF ?_|refine aT ?_);(first|refine rG Γ hm ?_|refine rD Γ hm z_ ?_);conv=>whnf))
   refine⟨fun h=>?_,fun h=>?_⟩
   ·have hlt:j<leads.length:=by simpa using h
    have hj0:((j:Nat):Int).toNat<leads.length:=by simpa using hlt
    obtain ⟨hp,hhp⟩:∃ hp,leads[((j:Nat):Int).toNat]'hj0=hp:=⟨_,rfl⟩
    have hdi:=hin2 hp (by rw[← hhp];exact List.getElem_mem _)
    have sc:=scj hp hlt hhp
    have q3:=Agu n Sk hp.domain ⟨3,0,hp.domain,hp.addr⟩ i (by rw[l0];exact hdi) (by unfold Ag;omega)
    rw[← sc]at q3
    ((first|refine rG Γ hm ?_|refine rD Γ hm z_ ?_);(conv=>whnf);repeat((first|refine aF ?_|refine aT ?_);(first|refine rG Γ hm ?_|refine rD Γ hm z_ ?_);conv=>whnf))
    refine⟨E,by omega,hj0,?_⟩
    rw[hhp]
    ((conv=>whnf);repeat((first|refine aF ?_|refine aT ?_);(first|refine rG Γ hm ?_|refine rD Γ hm z_ ?_);conv=>whnf))
    refine A2 (Aj [(0,0),(1,1),(2,2),(3,1000),(4,1001)] E F191 q3 E ⟨E,E,E,E,Y⟩ E ⟨.inl E,.inl E,.inl E,.inl E,.inr E,Y⟩) E E ?_
    ((first|refine rG Γ hm ?_|refine rD Γ hm z_ ?_);(conv=>whnf);repeat((first|refine aF ?_|refine aT ?_);(first|refine rG Γ hm ?_|refine rD Γ hm z_ ?_);conv=>whnf))
    refine iL ?_
    ((conv=>whnf);repeat((first|refine aF ?_|refine aT ?_);(first|refine rG Γ hm ?_|refine rD Γ hm z_ ?_);conv=>whnf))
    exact Bs [(1000,1001)] hlt ⟨⟨E,E,E,E,E,E,E,E,E,E,E,E,Y⟩,⟨.inl E,E,.inl E,E,.inl E,E,.inl E,E,.inl E,E,.inl E,E,Y⟩,E,E⟩
   ·have:j=leads.length:=qB h
    subst this
    rw[List.take_length]at hSk
    rw[hSk]at hlk
    subst hlk
    ((first|refine rG Γ hm ?_|refine rD Γ hm z_ ?_);(conv=>whnf);repeat((first|refine aF ?_|refine aT ?_);(first|refine rG Γ hm ?_|refine rD Γ hm z_ ?_);conv=>whnf))
    exact Ch E .nil [(4,1000)] (M3 n _) (fun _ h=>h) E E ⟨Y,⟨.inl E,E,.inl E,E,.inl E,E,.inl E,E,.inl E,E,Y⟩,E,E⟩
 ·rw[if_neg j_]at hlk
  clear ok2 hsucc2 q2 hs2 hin2
  have ok1:=ok1 1 j_
  have hsucc:=hsucc 1
  ((first|refine rG Γ hm ?_|refine rD Γ hm z_ ?_);(conv=>whnf);repeat((first|refine aF ?_|refine aT ?_);(first|refine rG Γ hm ?_|refine rD Γ hm z_ ?_);conv=>whnf))
  refine cD q1 F193 ?_
  ((first|refine rG Γ hm ?_|refine rD Γ hm z_ ?_);(conv=>whnf);repeat((first|refine aF ?_|refine aT ?_);(first|refine rG Γ hm ?_|refine rD Γ hm z_ ?_);conv=>whnf))
  refine⟨z_,?_⟩
  ((conv=>whnf);repeat((first|refine aF ?_|refine aT ?_);(first|refine rG Γ hm ?_|refine rD Γ hm z_ ?_);conv=>whnf))
  refine Ql 3 1000 E E j_ ?_
  refine By hops.length (fun j=>[(0,.ptr 0 0),(1,Aa i),(4,.ptr 4 0),(23,.sl 4 B7 hops),(24,Aa hops.length),(25,Aa j)]) (fun j=>Af1 n (ext1 S 1 i (hops.take j)) d 1) []
   ⟨⟨rfl,rfl,rfl,rfl,rfl,rfl,rfl,rfl,rfl,rfl,rfl,rfl,trivial⟩,⟨.inl rfl,rfl,.inl rfl,rfl,.inl rfl,rfl,.inl rfl,rfl,.inl rfl,rfl,.inl rfl,rfl,trivial⟩,rfl,rfl⟩ ?_
  intro j hj
  have okj:=ok1 j
  have lej:=okj.le
  have l0:=okj.l1
  have scj:=hsucc j
  generalize hSj:ext1 S 1 i (hops.take j)=Sj at *
  ((first|refine rG Γ hm ?_|refine rD Γ hm z_ ?_);(conv=>whnf);repeat((first|refine aF ?_|refine aT ?_);(first|refine rG Γ hm ?_|refine rD Γ hm z_ ?_);conv=>whnf))
  refine⟨fun h=>?_,fun h=>?_⟩
  ·have hlt:j<hops.length:=by simpa using h
   have hj0:((j:Nat):Int).toNat<hops.length:=by simpa using hlt
   obtain ⟨hp,hhp⟩:∃ hp,hops[((j:Nat):Int).toNat]'hj0=hp:=⟨_,rfl⟩
   have hdi:=hin1 hp (by rw[← hhp];exact List.getElem_mem _)
   have sc:=scj hp hlt hhp
   have q3:=Agu n Sj hp.domain hp i (by rw[l0];exact hdi) (by unfold Ag;omega)
   rw[← sc]at q3
   ((first|refine rG Γ hm ?_|refine rD Γ hm z_ ?_);(conv=>whnf);repeat((first|refine aF ?_|refine aT ?_);(first|refine rG Γ hm ?_|refine rD Γ hm z_ ?_);conv=>whnf))
   refine⟨E,by omega,hj0,?_⟩
   rw[hhp]
   ((conv=>whnf);repeat((first|refine aF ?_|refine aT ?_);(first|refine rG Γ hm ?_|refine rD Γ hm z_ ?_);conv=>whnf))
   refine A2 (Aj [(0,0),(1,1),(2,2),(3,1000),(4,1001)] E F191 q3 E ⟨E,E,E,E,Y⟩ E ⟨.inl E,.inl E,.inl E,.inl E,.inr E,Y⟩) E E ?_
   ((first|refine rG Γ hm ?_|refine rD Γ hm z_ ?_);(conv=>whnf);repeat((first|refine aF ?_|refine aT ?_);(first|refine rG Γ hm ?_|refine rD Γ hm z_ ?_);conv=>whnf))
   refine iL ?_
   ((conv=>whnf);repeat((first|refine aF ?_|refine aT ?_);(first|refine rG Γ hm ?_|refine rD Γ hm z_ ?_);conv=>whnf))
   exact Bs [(1000,1001)] hlt ⟨⟨E,E,E,E,E,E,E,E,E,E,E,E,Y⟩,⟨.inl E,E,.inl E,E,.inl E,E,.inl E,E,.inl E,E,.inl E,E,Y⟩,E,E⟩
  ·have:j=hops.length:=qB h
   subst this
   rw[List.take_length]at hSj
   rw[hSj]at hlk
   subst hlk
   ((first|refine rG Γ hm ?_|refine rD Γ hm z_ ?_);(conv=>whnf);repeat((first|refine aF ?_|refine aT ?_);(first|refine rG Γ hm ?_|refine rD Γ hm z_ ?_);conv=>whnf))
   exact Ch E .nil [(4,1000)] (M3 n _) (fun _ h=>h) E E ⟨Y,⟨.inl E,E,.inl E,E,.inl E,E,.inl E,E,.inl E,E,Y⟩,E,E⟩
def Es (n:Net) (dev:Int) (S:Srch) (v:Int):Srch:=if v=0 then S else meetT S (Bl n dev v) 0 ⟨0,0,Bl n dev v,0⟩ (-1)
def Eg (n:Net):Srch:=⟨List.replicate n.domains.length false,List.replicate n.domains.length false,[]⟩
def Iz (n:Net) (dev:Int) (l:List Int):Srch:=l.foldl (Es n dev) (Eg n)
def beginT (n:Net) (port:Int):Srch:=Iz n (nth n.ports port).dev ((nth n.ports port).native::(nth n.ports port).tagged)
theorem Aaq (n:Net) (dev:Int) {l:List Int} {j:Nat} {v:Int} (hj:j<l.length) (hh:l[j]=v):Iz n dev (l.take (j+1))=Es n dev (Iz n dev (l.take j)) v:=by
 subst hh
 rw[Iz,List.take_add_one,List.getElem?_eq_getElem hj,List.foldl_append]
 rfl
theorem Yv (n:Net):(Eg n).OK n:=⟨by simp[Eg],by simp[Eg],fun f hf=>by simp[Eg]at hf,by simp[Eg]⟩
theorem Sc {n:Net} {dev:Int} {l:List Int} (h:∀ v∈l,v≠0→0≤Bl n dev v∧(Bl n dev v).toNat<n.domains.length):(Iz n dev l).OK n:=by
 suffices hs:∀ (l:List Int) (S:Srch),S.OK n→(∀ v∈l,v≠0→0≤Bl n dev v∧(Bl n dev v).toNat<n.domains.length)→(l.foldl (Es n dev) S).OK n from hs l _ (Yv n) h
 intro l
 induction l with
 | nil=>exact fun S h _=>h
 | cons x l ih =>
  intro S hS hl
  refine ih _ ?_ (fun v hv=>hl v (by simp[hv]))
  rw[Es]
  split
  ·exact hS
  ·rename_i hx
   exact hS.meet (hl x y_ hx) (.inl E) _ _
theorem E8 {n:Net} (hb:Ac n=true) {i:Nat} (hi:i<n.ports.length) {v:Int} (hv:v∈n.ports[i].native::n.ports[i].tagged) (h0:v≠0) :
  0≤Bl n n.ports[i].dev v∧(Bl n n.ports[i].dev v).toNat<n.domains.length:=by
 rw[Bl,if_pos hb]
 refine K3 hb hi ?_
 simp only[B5,Bool.and_eq_true,bne_iff_ne,Bool.or_eq_true,beq_iff_eq]
 refine⟨h0,?_⟩
 rcases List.mem_cons.1 hv with h | h
 ·exact .inl h
 ·exact .inr (List.any_eq_true.2 ⟨v,h,by simp⟩)
abbrev T4 (n:Net) (a b c:SV):Ob:=.box [.sl 5 Ap n.devices,.sl 7 As n.ports,.sl 3 Bg n.links,.sl 6 Af n.domains,.sl 4 Av n.statics,.sl 4 Ax n.floods,.sl 5 Bh n.vrfs,.sl 5 Bf n.irbs,a,b,c]
abbrev Ol:SV:=.val (.slice none 0 0)
def madeO (n:Net):Nat→Obs
 | 0=>[(0,T4 n Ol Ol Ol)]
 | 1=>[(0,T4 n (.osl 1001) Ol Ol),(1001,.row 1 Ab (List.replicate n.domains.length false))]
 | _=>[(0,T4 n (.osl 1001) (.osl 1002) Ol),(1001,.row 1 Ab (List.replicate n.domains.length false)),(1002,.row 1 Ab (List.replicate n.domains.length false))]
abbrev srchB (n:Net) (S:Srch) (vs:List Int):Obs:=[(0,T4 n (.osl 1001) (.osl 1002) (.osl 1003)),(1001,.row 1 Ab S.m0),(1002,.row 1 Ab S.m1),(1003,.row 7 Me S.list),(38,.row 1 Aa vs)]
theorem beginS (n:Net) (hn:n.Fin) (hb:Ac n=true) (hD:n.domains.length<1000000) (port:Int) (hp:0≤port∧port.toNat<n.ports.length) :
  Sy.Spec Tryz.prog 99 [.ptr 0 0,Aa port] [(0,T4 n Ol Ol Ol)] (.tup []) (Si n (beginT n port)):=cT F99 Tryz.ntmps99 fun F hF=>by
 have hlk:=beginT.eq_1 n port
 rw[Ad hp.2]at hlk
 generalize beginT n port=res at *
 have hin:=fun v hv h0=>E8 hb hp.2 (v:=v) hv h0
 have hts:=hn.tagged _ (List.getElem_mem hp.2)
 unfold Ag at hts
 obtain ⟨p,hpp⟩:∃ p,n.ports[port.toNat]'hp.2=p:=⟨_,rfl⟩
 rw[hpp]at hlk hin hts
 have hok:∀ j,(Iz n p.dev ((p.native::p.tagged).take j)).OK n:=fun j=>Sc fun v hv h0=>hin v (List.mem_of_mem_take hv) h0
 have hsc:=fun j v hj hh=>Aaq n p.dev (l:=p.native::p.tagged) (j:=j) (v:=v) hj hh
 have hd:=fun v=>Je n hn p.dev v
 ((conv=>whnf);repeat((first|refine aF ?_|refine aT ?_);(first|refine rG Γ hm ?_|refine rD Γ hm z_ ?_);conv=>whnf))
 refine⟨E,hp.1,hp.2,?_⟩
 rw[hpp]
 ((conv=>whnf);repeat((first|refine aF ?_|refine aT ?_);(first|refine rG Γ hm ?_|refine rD Γ hm z_ ?_);conv=>whnf))
 refine A1 4 7 (As p) E E E ?_
 refine Az 2 (fun _=>True) (fun j=>[(0,.ptr 0 0),(4,.ref 7 (As p) 0),(17,Aa j)]) (fun j=>madeO n j) [] Y ⟨⟨E,E,E,E,E,E,Y⟩,⟨.inl E,E,Y⟩,E,E⟩ ?_
 intro j hj _
 ((first|refine rG Γ hm ?_|refine rD Γ hm z_ ?_);(conv=>whnf);repeat((first|refine aF ?_|refine aT ?_);(first|refine rG Γ hm ?_|refine rD Γ hm z_ ?_);conv=>whnf))
 refine⟨fun h=>?_,fun h=>?_⟩
 ·have hlt:j<2:=qA h
  have hj01:j=0∨j=1:=by omega
  rcases hj01 with rfl | rfl
  ·((first|refine rG Γ hm ?_|refine rD Γ hm z_ ?_);(conv=>whnf);repeat((first|refine aF ?_|refine aT ?_);(first|refine rG Γ hm ?_|refine rD Γ hm z_ ?_);conv=>whnf))
   refine Dr (Eb Γ.toTy (d:=28) (n:=n.domains.length) Ab false E E E E E E E E q_ q_ E E E) z_ E ?_
   ((first|refine rG Γ hm ?_|refine rD Γ hm z_ ?_);(conv=>whnf);repeat((first|refine aF ?_|refine aT ?_);(first|refine rG Γ hm ?_|refine rD Γ hm z_ ?_);conv=>whnf))
   refine⟨by decide,by decide,?_⟩
   ((conv=>whnf);repeat((first|refine aF ?_|refine aT ?_);(first|refine rG Γ hm ?_|refine rD Γ hm z_ ?_);conv=>whnf))
   refine⟨z_,?_⟩
   ((conv=>whnf);repeat((first|refine aF ?_|refine aT ?_);(first|refine rG Γ hm ?_|refine rD Γ hm z_ ?_);conv=>whnf))
   refine⟨by unfold I64;decide,?_⟩
   ((conv=>whnf);repeat((first|refine aF ?_|refine aT ?_);(first|refine rG Γ hm ?_|refine rD Γ hm z_ ?_);conv=>whnf))
   exact Ay [(1001,28)] Y j_ Y ⟨⟨E,E,E,E,E,E,Y⟩,⟨.inl E,E,.inl E,E,Y⟩,E,E⟩
  ·((first|refine rG Γ hm ?_|refine rD Γ hm z_ ?_);(conv=>whnf);repeat((first|refine aF ?_|refine aT ?_);(first|refine rG Γ hm ?_|refine rD Γ hm z_ ?_);conv=>whnf))
   refine Dr (Eb Γ.toTy (d:=28) (n:=n.domains.length) Ab false E E E E E E E E q_ q_ E E E) z_ E ?_
   ((first|refine rG Γ hm ?_|refine rD Γ hm z_ ?_);(conv=>whnf);repeat((first|refine aF ?_|refine aT ?_);(first|refine rG Γ hm ?_|refine rD Γ hm z_ ?_);conv=>whnf))
   refine⟨by decide,by decide,?_⟩
   ((conv=>whnf);repeat((first|refine aF ?_|refine aT ?_);(first|refine rG Γ hm ?_|refine rD Γ hm z_ ?_);conv=>whnf))
   refine⟨z_,?_⟩
   ((conv=>whnf);repeat((first|refine aF ?_|refine aT ?_);(first|refine rG Γ hm ?_|refine rD Γ hm z_ ?_);conv=>whnf))
   refine⟨by unfold I64;decide,?_⟩
   ((conv=>whnf);repeat((first|refine aF ?_|refine aT ?_);(first|refine rG Γ hm ?_|refine rD Γ hm z_ ?_);conv=>whnf))
   exact Ay [(1002,28)] Y j_ Y ⟨⟨E,E,E,E,E,E,Y⟩,⟨.inl E,E,.inl E,E,.inl E,E,Y⟩,E,E⟩
 ·have:j=2:=qB h
  subst this
  ((first|refine rG Γ hm ?_|refine rD Γ hm z_ ?_);(conv=>whnf);repeat((first|refine aF ?_|refine aT ?_);(first|refine rG Γ hm ?_|refine rD Γ hm z_ ?_);conv=>whnf))
  refine A2 (Ai Γ.toTy 38 E E E E E (.lit (e:=Aa) (l:=[p.native]) E E) .sl j_ (by simp;omega) (by simp;omega)) E E ?_
  refine Aie 0 10 1003 7 Me E E E E ?_
  ((first|refine rG Γ hm ?_|refine rD Γ hm z_ ?_);(conv=>whnf);repeat((first|refine aF ?_|refine aT ?_);(first|refine rG Γ hm ?_|refine rD Γ hm z_ ?_);conv=>whnf))
  generalize hvs:p.native::p.tagged=vs at *
  have hvl:vs.length=p.tagged.length+1:=by rw[← hvs];rfl
  refine By vs.length (fun j=>[(0,.ptr 0 0),(4,.ref 7 (As p) 0),(38,.osl 38),(39,Aa vs.length),(40,Aa j)]) (fun j=>srchB n (Iz n p.dev (vs.take j)) vs) []
   ⟨⟨rfl,rfl,rfl,rfl,rfl,rfl,congrArg Aa (by rw[hvl];rfl),rfl,rfl,rfl,trivial⟩,⟨.inl rfl,rfl,.inl rfl,rfl,.inl rfl,rfl,.inl rfl,rfl,.inl (congrArg (Ob.row 1 Aa) hvs.symm),rfl,trivial⟩,rfl,rfl⟩ ?_
  intro j hj
  have okj:=hok j
  have lej:=okj.le
  have l0:=okj.l0
  have scj:=hsc j
  generalize hSj:Iz n p.dev (vs.take j)=Sj at *
  ((first|refine rG Γ hm ?_|refine rD Γ hm z_ ?_);(conv=>whnf);repeat((first|refine aF ?_|refine aT ?_);(first|refine rG Γ hm ?_|refine rD Γ hm z_ ?_);conv=>whnf))
  refine⟨fun h=>?_,fun h=>?_⟩
  ·have hlt:j<vs.length:=by simpa using h
   have hj0:((j:Nat):Int).toNat<vs.length:=by simpa using hlt
   obtain ⟨v,hv⟩:∃ v,vs[((j:Nat):Int).toNat]'hj0=v:=⟨_,rfl⟩
   have hmem:v∈vs:=by rw[← hv];exact List.getElem_mem _
   have sc:=scj v hlt hv
   rw[Es]at sc
   have hdv:=hd v
   have hiv:=hin v hmem
   generalize Bl n p.dev v=dm at *
   ((first|refine rG Γ hm ?_|refine rD Γ hm z_ ?_);(conv=>whnf);repeat((first|refine aF ?_|refine aT ?_);(first|refine rG Γ hm ?_|refine rD Γ hm z_ ?_);conv=>whnf))
   refine⟨by omega,hj0,?_⟩
   ((conv=>whnf);repeat((first|refine aF ?_|refine aT ?_);(first|refine rG Γ hm ?_|refine rD Γ hm z_ ?_);conv=>whnf))
   refine⟨E,hj0,?_⟩
   rw[hv]
   ((conv=>whnf);repeat((first|refine aF ?_|refine aT ?_);(first|refine rG Γ hm ?_|refine rD Γ hm z_ ?_);conv=>whnf))
   refine⟨fun h=>?_,fun h=>?_⟩
   ·have h0:v≠0:=by simpa using h
    rw[if_neg h0]at sc
    have q3:=Agv n Sj dm ⟨0,0,dm,0⟩ (-1) (by rw[l0];exact hiv h0) (by unfold Ag;omega)
    rw[← sc]at q3
    ((first|refine rG Γ hm ?_|refine rD Γ hm z_ ?_);(conv=>whnf);repeat((first|refine aF ?_|refine aT ?_);(first|refine rG Γ hm ?_|refine rD Γ hm z_ ?_);conv=>whnf))
    refine cD hdv F168 ?_
    ((first|refine rG Γ hm ?_|refine rD Γ hm z_ ?_);(conv=>whnf);repeat((first|refine aF ?_|refine aT ?_);(first|refine rG Γ hm ?_|refine rD Γ hm z_ ?_);conv=>whnf))
    refine⟨z_,?_⟩
    ((conv=>whnf);repeat((first|refine aF ?_|refine aT ?_);(first|refine rG Γ hm ?_|refine rD Γ hm z_ ?_);conv=>whnf))
    refine A2 (Aj [(0,0),(1,1001),(2,1002),(3,1003),(4,1004)] E F191 q3 E ⟨E,E,E,E,Y⟩ E ⟨.inl E,.inl E,.inl E,.inl E,.inr E,Y⟩) E E ?_
    ((first|refine rG Γ hm ?_|refine rD Γ hm z_ ?_);(conv=>whnf);repeat((first|refine aF ?_|refine aT ?_);(first|refine rG Γ hm ?_|refine rD Γ hm z_ ?_);conv=>whnf))
    refine iL ?_
    ((conv=>whnf);repeat((first|refine aF ?_|refine aT ?_);(first|refine rG Γ hm ?_|refine rD Γ hm z_ ?_);conv=>whnf))
    exact Bs [(1003,1004)] hlt ⟨⟨E,E,E,E,E,E,E,E,E,E,Y⟩,⟨.inl E,E,.inl E,E,.inl E,E,.inl E,E,.inl E,E,Y⟩,E,E⟩
   ·have h0:v=0:=by simpa using h
    rw[if_pos h0]at sc
    ((first|refine rG Γ hm ?_|refine rD Γ hm z_ ?_);(conv=>whnf);repeat((first|refine aF ?_|refine aT ?_);(first|refine rG Γ hm ?_|refine rD Γ hm z_ ?_);conv=>whnf))
    refine iL ?_
    ((conv=>whnf);repeat((first|refine aF ?_|refine aT ?_);(first|refine rG Γ hm ?_|refine rD Γ hm z_ ?_);conv=>whnf))
    exact Bs [] hlt ⟨⟨E,E,E,E,E,E,E,E,E,E,Y⟩,⟨.inl E,E,.inl (congrArg (fun S=>Ob.row 1 Ab (Srch.m0 S)) sc),E,.inl (congrArg (fun S=>Ob.row 1 Ab (Srch.m1 S)) sc),E,.inl (congrArg (fun S=>Ob.row 7 Me (Srch.list S)) sc),E,.inl E,E,Y⟩,E,E⟩
  ·have:j=vs.length:=qB h
   subst this
   rw[List.take_length]at hSj
   rw[hSj]at hlk
   subst hlk
   ((first|refine rG Γ hm ?_|refine rD Γ hm z_ ?_);(conv=>whnf);repeat((first|refine aF ?_|refine aT ?_);(first|refine rG Γ hm ?_|refine rD Γ hm z_ ?_);conv=>whnf))
   exact Ch E .nil [(1,1001),(2,1002),(3,1003)] (Si n _) (fun _ h=>h) E E ⟨Y,⟨.inl E,E,.inl E,E,.inl E,E,.inl E,E,Y⟩,E,E⟩
theorem Y4 (D:List Hop) (hl:D.length<4294967296):Sy.Spec Tryz.prog 192 [.osl 0] [(0,.row 4 B7 D)] (.tup []) [(0,.row 4 B7 D.reverse)]:=cT F192 Tryz.ntmps192 fun F hF=>by
 ((conv=>whnf);repeat((first|refine aF ?_|refine aT ?_);(first|refine rG Γ hm ?_|refine rD Γ hm z_ ?_);conv=>whnf))
 refine iL ?_
 ((conv=>whnf);repeat((first|refine aF ?_|refine aT ?_);(first|refine rG Γ hm ?_|refine rD Γ hm z_ ?_);conv=>whnf))
 refine By (D.length / 2) (fun j=>[(0,.osl 0),(2,Aa j),(3,Aa ((D.length:Int)-1-j))]) (fun j=>[(0,.row 4 B7 (Lp D j))]) []
  ⟨⟨rfl,rfl,rfl,rfl,congrArg (fun z=>SV.val (.int .i64 z)) q_,rfl,trivial⟩,⟨.inl (congrArg (Ob.row 4 B7) (Wh D)),rfl,trivial⟩,rfl,rfl⟩ ?_
 intro i hi
 have hul:=Cd D i
 ((first|refine rG Γ hm ?_|refine rD Γ hm z_ ?_);(conv=>whnf);repeat((first|refine aF ?_|refine aT ?_);(first|refine rG Γ hm ?_|refine rD Γ hm z_ ?_);conv=>whnf))
 refine⟨fun h2=>?_,fun h2=>?_⟩
 ·have hlt:2 * i+1<D.length:=by have:=of_decide_eq_true h2;omega
  obtain ⟨u,hu⟩:∃ u,Lp D i=u:=⟨_,rfl⟩
  obtain ⟨k,hk⟩:∃ k,D.length-1-i=k:=⟨_,rfl⟩
  have hk2:(D.length:Int)-1-i=(k:Nat):=by omega
  rw[hu]at hul
  have hs:=Wi hu hlt hk q_ q_
  rw[hu,hk2]
  ((first|refine rG Γ hm ?_|refine rD Γ hm z_ ?_);(conv=>whnf);repeat((first|refine aF ?_|refine aT ?_);(first|refine rG Γ hm ?_|refine rD Γ hm z_ ?_);conv=>whnf))
  refine⟨by omega,by omega,?_⟩
  ((conv=>whnf);repeat((first|refine aF ?_|refine aT ?_);(first|refine rG Γ hm ?_|refine rD Γ hm z_ ?_);conv=>whnf))
  refine⟨E,by omega,?_⟩
  ((conv=>whnf);repeat((first|refine aF ?_|refine aT ?_);(first|refine rG Γ hm ?_|refine rD Γ hm z_ ?_);conv=>whnf))
  refine⟨by omega,by omega,?_⟩
  ((conv=>whnf);repeat((first|refine aF ?_|refine aT ?_);(first|refine rG Γ hm ?_|refine rD Γ hm z_ ?_);conv=>whnf))
  refine⟨E,by omega,?_⟩
  ((conv=>whnf);repeat((first|refine aF ?_|refine aT ?_);(first|refine rG Γ hm ?_|refine rD Γ hm z_ ?_);conv=>whnf))
  refine⟨by omega,by omega,?_⟩
  ((conv=>whnf);repeat((first|refine aF ?_|refine aT ?_);(first|refine rG Γ hm ?_|refine rD Γ hm z_ ?_);conv=>whnf))
  refine⟨E,by omega,u[k],E,E,?_⟩
  ((conv=>whnf);repeat((first|refine aF ?_|refine aT ?_);(first|refine rG Γ hm ?_|refine rD Γ hm z_ ?_);conv=>whnf))
  refine⟨by omega,by simp;omega,?_⟩
  ((conv=>whnf);repeat((first|refine aF ?_|refine aT ?_);(first|refine rG Γ hm ?_|refine rD Γ hm z_ ?_);conv=>whnf))
  refine⟨E,by simp;omega,u[i],E,E,?_⟩
  ((conv=>whnf);repeat((first|refine aF ?_|refine aT ?_);(first|refine rG Γ hm ?_|refine rD Γ hm z_ ?_);conv=>whnf))
  refine⟨z_,?_⟩
  ((conv=>whnf);repeat((first|refine aF ?_|refine aT ?_);(first|refine rG Γ hm ?_|refine rD Γ hm z_ ?_);conv=>whnf))
  refine iL ?_
  ((conv=>whnf);repeat((first|refine aF ?_|refine aT ?_);(first|refine rG Γ hm ?_|refine rD Γ hm z_ ?_);conv=>whnf))
  refine iL ?_
  ((conv=>whnf);repeat((first|refine aF ?_|refine aT ?_);(first|refine rG Γ hm ?_|refine rD Γ hm z_ ?_);conv=>whnf))
  refine Bs [] q_ ⟨⟨E,E,E,E,congrArg (fun z=>SV.val (.int .i64 z)) q_,E,Y⟩,⟨.inl (congrArg (Ob.row 4 B7) hs.symm),E,Y⟩,E,E⟩
 ·have h3:D.length≤2 * i+1:=by have:=of_decide_eq_false h2;omega
  rw[Y5 D i h3]
  ((first|refine rG Γ hm ?_|refine rD Γ hm z_ ?_);(conv=>whnf);repeat((first|refine aF ?_|refine aT ?_);(first|refine rG Γ hm ?_|refine rD Γ hm z_ ?_);conv=>whnf))
  exact Ch E .nil [] [(0,.row 4 B7 D.reverse)] (fun _ h=>h) E E ⟨Y,⟨.inl E,E,Y⟩,E,E⟩
def backC (l:List Fnd) (i:Int):List Hop :=
 if _h:0≤i∧(nth l i).ahead<i then (nth l i).hop::backC l (nth l i).ahead else []
 termination_by (i+1).toNat
 decreasing_by omega
def backT (l:List Fnd) (i:Int):List Hop:=(backC l i).reverse
def Backs (l:List Fnd):Prop:=∀ i (h:i<l.length),-1≤l[i].ahead∧l[i].ahead<i
theorem Backs.snoc {l:List Fnd} (h:Backs l) {f:Fnd} (hf:-1≤f.ahead∧f.ahead<l.length):Backs (l++[f]):=fun i hi=>by
 by_cases hl:i<l.length
 ·rw[List.getElem_append_left hl]
  exact h i hl
 ·have:i=l.length:=by simp at hi;omega
  subst this
  simpa using hf
theorem Backs.meet {S:Srch} (h:Backs S.list) (d k:Int) (hp:Hop) {a:Int} (ha:-1≤a∧a<S.list.length):Backs (meetT S d k hp a).list∧S.list.length≤(meetT S d k hp a).list.length:=by
 rw[meetT]
 split
 ·exact⟨h,Nat.le_refl _⟩
 ·rw[Ij]
  split
  ·exact⟨h.snoc ha,by simp⟩
  ·exact⟨h.snoc ha,by simp⟩
theorem Backs.ext1 {k i:Int}:∀ {l:List Hop} {S:Srch},Backs S.list→(-1≤i∧i<S.list.length)→Backs (ext1 S k i l).list∧S.list.length≤(ext1 S k i l).list.length
 | [],S,h,_=>⟨h,Nat.le_refl _⟩
 | x::l,S,h,hi=>by
  obtain ⟨h1,h2⟩:=h.meet x.domain k x hi
  obtain ⟨h3,h4⟩:=Backs.ext1 (k:=k) (i:=i) (l:=l) h1 ⟨hi.1,by omega⟩
  exact⟨h3,Nat.le_trans h2 h4⟩
theorem Backs.ext2 {i:Int}:∀ {l:List Lead} {S:Srch},Backs S.list→(-1≤i∧i<S.list.length)→Backs (ext2 S i l).list∧S.list.length≤(ext2 S i l).list.length
 | [],S,h,_=>⟨h,Nat.le_refl _⟩
 | x::l,S,h,hi=>by
  obtain ⟨h1,h2⟩:=h.meet x.domain 1 ⟨3,0,x.domain,x.addr⟩ hi
  obtain ⟨h3,h4⟩:=Backs.ext2 (i:=i) (l:=l) h1 ⟨hi.1,by omega⟩
  exact⟨h3,Nat.le_trans h2 h4⟩
theorem Backs.ext {n:Net} {S:Srch} (h:Backs S.list) {i:Int} (hi:0≤i∧i<S.list.length):Backs (extT n S i).list∧S.list.length≤(extT n S i).list.length:=by
 rw[extT]
 split
 ·obtain ⟨h1,h2⟩:=h.ext1 (k:=0) (i:=i) (l:=Cv n (nth S.list i).domain) ⟨by omega,hi.2⟩
  obtain ⟨h3,h4⟩:=h1.ext2 (i:=i) (l:=routesT n (nth S.list i).domain) ⟨by omega,by omega⟩
  exact⟨h3,Nat.le_trans h2 h4⟩
 ·exact h.ext1 ⟨by omega,hi.2⟩
theorem Qf (n:Net) (dev:Int) (l:List Int):Backs (Iz n dev l).list:=by
 suffices hs:∀ (l:List Int) (S:Srch),Backs S.list→Backs (l.foldl (Es n dev) S).list from hs l _ (fun i h=>by simp[Eg]at h)
 intro l
 induction l with
 | nil=>exact fun S h=>h
 | cons x l ih =>
  intro S hS
  refine ih _ ?_
  rw[Es]
  split
  ·exact hS
  ·exact(hS.meet _ _ _ ⟨by omega,by omega⟩).1
abbrev srchA (n:Net) (S:Srch) (l:List Hop):Obs:=[(0,T4 n (.osl 1) (.osl 2) (.osl 3)),(1,.row 1 Ab S.m0),(2,.row 1 Ab S.m1),(3,.row 7 Me S.list),(1000,.row 4 B7 l)]
theorem backS (n:Net) (S:Srch) (hB:Backs S.list) (hl:S.list.length<4000000) (i:Int) (hi:-1≤i∧i<S.list.length) :
  Sy.Spec Tryz.prog 102 [.ptr 0 0,Aa i] (Si n S) (.sl 4 B7 (backT S.list i)) (Si n S):=cT F102 Tryz.ntmps102 fun F hF=>by
 have hlk:=backT.eq_1 S.list i
 generalize backT S.list i=res at *
 ((conv=>whnf);repeat((first|refine aF ?_|refine aT ?_);(first|refine rG Γ hm ?_|refine rD Γ hm z_ ?_);conv=>whnf))
 refine Cq 5 1000 4 B7 E E ?_
 refine Cc (fun x:Int × List Hop=>(-1≤x.1∧x.1<S.list.length)∧x.2.length+(x.1+1).toNat≤S.list.length∧x.2++backC S.list x.1=backC S.list i)
  (fun x=>[(0,.ptr 0 0),(1,Aa x.1),(5,.osl 1000)]) (fun x=>srchA n S x.2) (fun x=>(x.1+1).toNat) (i,[]) [] ⟨hi,by simp;omega,rfl⟩
  ⟨⟨rfl,rfl,rfl,rfl,rfl,rfl,trivial⟩,⟨.inl rfl,rfl,.inl rfl,rfl,.inl rfl,rfl,.inl rfl,rfl,.inl rfl,rfl,trivial⟩,rfl,rfl⟩ ?_
 rintro ⟨z,acc⟩ ⟨hz,hal,hacc⟩
 dsimp only at hz hal hacc
 ((first|refine rG Γ hm ?_|refine rD Γ hm z_ ?_);(conv=>whnf);repeat((first|refine aF ?_|refine aT ?_);(first|refine rG Γ hm ?_|refine rD Γ hm z_ ?_);conv=>whnf))
 refine⟨fun h=>?_,fun h=>?_⟩
 ·have h0:0≤z:=of_decide_eq_true h
  have hk:z.toNat<S.list.length:=by omega
  have hb:=hB z.toNat hk
  rw[backC,Ad hk]at hacc
  obtain ⟨f,hf⟩:∃ f,S.list[z.toNat]'hk=f:=⟨_,rfl⟩
  rw[hf]at hacc hb
  rw[dif_pos ⟨h0,by omega⟩]at hacc
  ((first|refine rG Γ hm ?_|refine rD Γ hm z_ ?_);(conv=>whnf);repeat((first|refine aF ?_|refine aT ?_);(first|refine rG Γ hm ?_|refine rD Γ hm z_ ?_);conv=>whnf))
  refine⟨h0,hk,?_⟩
  ((conv=>whnf);repeat((first|refine aF ?_|refine aT ?_);(first|refine rG Γ hm ?_|refine rD Γ hm z_ ?_);conv=>whnf))
  refine⟨by intro e;rw[e]at hk;simp at hk,?_⟩
  ((conv=>whnf);repeat((first|refine aF ?_|refine aT ?_);(first|refine rG Γ hm ?_|refine rD Γ hm z_ ?_);conv=>whnf))
  refine⟨E,hk,?_⟩
  rw[hf]
  ((conv=>whnf);repeat((first|refine aF ?_|refine aT ?_);(first|refine rG Γ hm ?_|refine rD Γ hm z_ ?_);conv=>whnf))
  refine A2 (Ai Γ.toTy 26 E E E E E (.row E) (.lit (e:=B7) (l:=[f.hop]) E E) y_ (by simp;omega) (by simp;omega)) E E ?_
  ((first|refine rG Γ hm ?_|refine rD Γ hm z_ ?_);(conv=>whnf);repeat((first|refine aF ?_|refine aT ?_);(first|refine rG Γ hm ?_|refine rD Γ hm z_ ?_);conv=>whnf))
  refine⟨h0,hk,?_⟩
  ((conv=>whnf);repeat((first|refine aF ?_|refine aT ?_);(first|refine rG Γ hm ?_|refine rD Γ hm z_ ?_);conv=>whnf))
  refine⟨by intro e;rw[e]at hk;simp at hk,?_⟩
  ((conv=>whnf);repeat((first|refine aF ?_|refine aT ?_);(first|refine rG Γ hm ?_|refine rD Γ hm z_ ?_);conv=>whnf))
  refine⟨E,hk,?_⟩
  rw[hf]
  ((conv=>whnf);repeat((first|refine aF ?_|refine aT ?_);(first|refine rG Γ hm ?_|refine rD Γ hm z_ ?_);conv=>whnf))
  exact A8 (f.ahead,acc++[f.hop]) [(1000,26)] ⟨⟨hb.1,by omega⟩,by simp;omega,by rw[List.append_assoc];exact hacc⟩ (by simp only;omega)
   ⟨⟨rfl,rfl,rfl,rfl,rfl,rfl,trivial⟩,⟨.inl rfl,rfl,.inl rfl,rfl,.inl rfl,rfl,.inl rfl,rfl,.inl rfl,rfl,trivial⟩,rfl,rfl⟩
 ·have h0:¬ 0≤z:=of_decide_eq_false h
  rw[backC,dif_neg (fun e=>h0 e.1),List.append_nil]at hacc
  have q:=Y4 acc q_
  rw[← hacc]at hlk
  ((first|refine rG Γ hm ?_|refine rD Γ hm z_ ?_);(conv=>whnf);repeat((first|refine aF ?_|refine aT ?_);(first|refine rG Γ hm ?_|refine rD Γ hm z_ ?_);conv=>whnf))
  refine A2 (Aj [(0,1000)] E F192 q E ⟨E,Y⟩ E ⟨.inl E,Y⟩) E E ?_
  refine Ah 1000 E ?_
  rw[← hlk]
  ((first|refine rG Γ hm ?_|refine rD Γ hm z_ ?_);(conv=>whnf);repeat((first|refine aF ?_|refine aT ?_);(first|refine rG Γ hm ?_|refine rD Γ hm z_ ?_);conv=>whnf))
  exact done E (.cons .tmp .nil) [] (Si n S) (fun _ h=>h) E E ⟨Y,⟨.inl E,E,.inl E,E,.inl E,E,.inl E,E,Y⟩,E,E⟩
def C0 (n:Net) (to:Int):Nat→Srch→Nat→List Hop × Bool
 | 0,_,_=>([],false)
 | k+1,S,i=>if i<S.list.length then (if inB (Ao n (nth S.list i).domain) to=true then (backT S.list i,true) else C0 n to k (extT n S i) (i+1)) else ([],false)
def wayT (n:Net) (from_ to:Int):List Hop × Bool :=
 if Ei n from_=true∧Ei n to=true∧from_≠to∧Ac n=true then C0 n to (2 * n.domains.length+1) (beginT n from_) 0 else ([],false)
abbrev srchW (n:Net) (S:Srch):Obs:=[(32,T4 n (.osl 1001) (.osl 1002) (.osl 1003)),(1001,.row 1 Ab S.m0),(1002,.row 1 Ab S.m1),(1003,.row 7 Me S.list)]
theorem I6 {n:Net} {i:Int} (h:Ei n i=true):0≤i∧i.toNat<n.ports.length:=by
 simp only[Ei,Bool.and_eq_true,decide_eq_true_eq]at h
 omega
theorem wayS (n:Net) (hn:n.Fin) (hu:Bp n) (from_ to:Int):Sy.Spec Tryz.prog 30 [Ae n,Aa from_,Aa to] [] (.tup [.sl 4 B7 (wayT n from_ to).1,Ab (wayT n from_ to).2]) []:=cT F30 Tryz.ntmps30 fun F hF=>by
 have hlk:=wayT.eq_1 n from_ to
 generalize wayT n from_ to=res at *
 have hr:=Aw n hn
 have h1:=Yh n from_
 have h2:=Yh n to
 ((conv=>whnf);repeat((first|refine aF ?_|refine aT ?_);(first|refine rG Γ hm ?_|refine rD Γ hm z_ ?_);conv=>whnf))
 refine A1 3 8 (Ae n) E E E ?_
 ((first|refine rG Γ hm ?_|refine rD Γ hm z_ ?_);(conv=>whnf);repeat((first|refine aF ?_|refine aT ?_);(first|refine rG Γ hm ?_|refine rD Γ hm z_ ?_);conv=>whnf))
 refine c0 h1 F98 ?_
 cases hf:Ei n from_
 ·rw[if_neg (by simp[hf])]at hlk
  subst hlk
  ((first|refine rG Γ hm ?_|refine rD Γ hm z_ ?_);(conv=>whnf);repeat((first|refine aF ?_|refine aT ?_);(first|refine rG Γ hm ?_|refine rD Γ hm z_ ?_);conv=>whnf))
  refine Ci 6 4 B7 E ?_
  ((first|refine rG Γ hm ?_|refine rD Γ hm z_ ?_);(conv=>whnf);repeat((first|refine aF ?_|refine aT ?_);(first|refine rG Γ hm ?_|refine rD Γ hm z_ ?_);conv=>whnf))
  exact dN
 ((first|refine rG Γ hm ?_|refine rD Γ hm z_ ?_);(conv=>whnf);repeat((first|refine aF ?_|refine aT ?_);(first|refine rG Γ hm ?_|refine rD Γ hm z_ ?_);conv=>whnf))
 refine c0 h2 F98 ?_
 cases ht:Ei n to
 ·rw[if_neg (by simp[ht])]at hlk
  subst hlk
  ((first|refine rG Γ hm ?_|refine rD Γ hm z_ ?_);(conv=>whnf);repeat((first|refine aF ?_|refine aT ?_);(first|refine rG Γ hm ?_|refine rD Γ hm z_ ?_);conv=>whnf))
  refine Ci 6 4 B7 E ?_
  ((first|refine rG Γ hm ?_|refine rD Γ hm z_ ?_);(conv=>whnf);repeat((first|refine aF ?_|refine aT ?_);(first|refine rG Γ hm ?_|refine rD Γ hm z_ ?_);conv=>whnf))
  exact dN
 ((first|refine rG Γ hm ?_|refine rD Γ hm z_ ?_);(conv=>whnf);repeat((first|refine aF ?_|refine aT ?_);(first|refine rG Γ hm ?_|refine rD Γ hm z_ ?_);conv=>whnf))
 refine⟨fun h=>?_,fun h=>?_⟩
 ·rw[if_neg (by have:from_=to:=(by simpa using h);simp[this])]at hlk
  subst hlk
  ((first|refine rG Γ hm ?_|refine rD Γ hm z_ ?_);(conv=>whnf);repeat((first|refine aF ?_|refine aT ?_);(first|refine rG Γ hm ?_|refine rD Γ hm z_ ?_);conv=>whnf))
  refine Ci 6 4 B7 E ?_
  ((first|refine rG Γ hm ?_|refine rD Γ hm z_ ?_);(conv=>whnf);repeat((first|refine aF ?_|refine aT ?_);(first|refine rG Γ hm ?_|refine rD Γ hm z_ ?_);conv=>whnf))
  exact dN
 have hne:from_≠to:=by simpa using h
 ((first|refine rG Γ hm ?_|refine rD Γ hm z_ ?_);(conv=>whnf);repeat((first|refine aF ?_|refine aT ?_);(first|refine rG Γ hm ?_|refine rD Γ hm z_ ?_);conv=>whnf))
 refine c0 hr F25 ?_
 cases hb:Ac n
 ·rw[if_neg (by simp[hb])]at hlk
  subst hlk
  ((first|refine rG Γ hm ?_|refine rD Γ hm z_ ?_);(conv=>whnf);repeat((first|refine aF ?_|refine aT ?_);(first|refine rG Γ hm ?_|refine rD Γ hm z_ ?_);conv=>whnf))
  refine Ci 6 4 B7 E ?_
  ((first|refine rG Γ hm ?_|refine rD Γ hm z_ ?_);(conv=>whnf);repeat((first|refine aF ?_|refine aT ?_);(first|refine rG Γ hm ?_|refine rD Γ hm z_ ?_);conv=>whnf))
  exact dN
 rw[if_pos ⟨hf,ht,hne,hb⟩]at hlk
 have hD:n.domains.length<1000000:=by have:=(Wz hb).2.2.2.1;omega
 have hp:=I6 hf
 have q0:=beginS n hn hb hD from_ hp
 have ok0:(beginT n from_).OK n:=by
  rw[beginT,Ad hp.2]
  exact Sc fun v hv h0=>E8 hb hp.2 hv h0
 have bk0:Backs (beginT n from_).list:=by rw[beginT];exact Qf _ _ _
 generalize beginT n from_=S0 at *
 ((first|refine rG Γ hm ?_|refine rD Γ hm z_ ?_);(conv=>whnf);repeat((first|refine aF ?_|refine aT ?_);(first|refine rG Γ hm ?_|refine rD Γ hm z_ ?_);conv=>whnf))
 refine A2 (Aj [(0,32),(1,1001),(2,1002),(3,1003)] E F99 q0 E ⟨E,Y⟩ E ⟨.inl E,.inr E,.inr E,.inr E,Y⟩) E E ?_
 ((first|refine rG Γ hm ?_|refine rD Γ hm z_ ?_);(conv=>whnf);repeat((first|refine aF ?_|refine aT ?_);(first|refine rG Γ hm ?_|refine rD Γ hm z_ ?_);conv=>whnf))
 refine Cc (fun x:Srch × Nat=>x.1.OK n∧Backs x.1.list∧x.2≤x.1.list.length∧res=C0 n to (2 * n.domains.length+1-x.2) x.1 x.2)
  (fun x=>[(2,Aa to),(3,.ref 8 (Ae n) 0),(8,.ptr 32 0),(9,Aa x.2)]) (fun x=>srchW n x.1) (fun x=>2 * n.domains.length+1-x.2) (S0,0) [] ⟨ok0,bk0,Nat.zero_le _,hlk⟩
  ⟨⟨rfl,rfl,rfl,rfl,rfl,rfl,rfl,rfl,trivial⟩,⟨.inl rfl,rfl,.inl rfl,rfl,.inl rfl,rfl,.inl rfl,rfl,trivial⟩,rfl,rfl⟩ ?_
 clear hlk ok0 bk0 q0
 rintro ⟨S,i⟩ ⟨ok,bk,hi,hlk⟩
 dsimp only at ok bk hi hlk ⊢
 have hle:=ok.le
 obtain ⟨fuel,hfu⟩:∃ k,2 * n.domains.length+1-i=k+1:=⟨2 * n.domains.length-i,by omega⟩
 rw[hfu,C0]at hlk
 ((first|refine rG Γ hm ?_|refine rD Γ hm z_ ?_);(conv=>whnf);repeat((first|refine aF ?_|refine aT ?_);(first|refine rG Γ hm ?_|refine rD Γ hm z_ ?_);conv=>whnf))
 refine⟨fun h=>?_,fun h=>?_⟩
 ·have hlt:i<S.list.length:=qA h
  have hi0:((i:Nat):Int).toNat<S.list.length:=by simpa using hlt
  rw[if_pos hlt,Ad hi0]at hlk
  obtain ⟨f,hf2⟩:∃ f,S.list[((i:Nat):Int).toNat]'hi0=f:=⟨_,rfl⟩
  rw[hf2]at hlk
  have q1:=Is n hn f.domain
  have q2:=Dk (Ao n f.domain) to (D8 n hn f.domain)
  generalize Ao n f.domain=mem at *
  ((first|refine rG Γ hm ?_|refine rD Γ hm z_ ?_);(conv=>whnf);repeat((first|refine aF ?_|refine aT ?_);(first|refine rG Γ hm ?_|refine rD Γ hm z_ ?_);conv=>whnf))
  refine⟨by omega,hi0,?_⟩
  ((conv=>whnf);repeat((first|refine aF ?_|refine aT ?_);(first|refine rG Γ hm ?_|refine rD Γ hm z_ ?_);conv=>whnf))
  refine⟨by intro e;rw[e]at hlt;simp at hlt,?_⟩
  ((conv=>whnf);repeat((first|refine aF ?_|refine aT ?_);(first|refine rG Γ hm ?_|refine rD Γ hm z_ ?_);conv=>whnf))
  refine⟨by intro e;rw[e]at hlt;simp at hlt,?_⟩
  ((conv=>whnf);repeat((first|refine aF ?_|refine aT ?_);(first|refine rG Γ hm ?_|refine rD Γ hm z_ ?_);conv=>whnf))
  refine⟨E,hi0,?_⟩
  rw[hf2]
  ((conv=>whnf);repeat((first|refine aF ?_|refine aT ?_);(first|refine rG Γ hm ?_|refine rD Γ hm z_ ?_);conv=>whnf))
  refine cD q1 F101 ?_
  ((first|refine rG Γ hm ?_|refine rD Γ hm z_ ?_);(conv=>whnf);repeat((first|refine aF ?_|refine aT ?_);(first|refine rG Γ hm ?_|refine rD Γ hm z_ ?_);conv=>whnf))
  refine cD q2 F100 ?_
  ((first|refine rG Γ hm ?_|refine rD Γ hm z_ ?_);(conv=>whnf);repeat((first|refine aF ?_|refine aT ?_);(first|refine rG Γ hm ?_|refine rD Γ hm z_ ?_);conv=>whnf))
  refine⟨z_,?_⟩
  ((conv=>whnf);repeat((first|refine aF ?_|refine aT ?_);(first|refine rG Γ hm ?_|refine rD Γ hm z_ ?_);conv=>whnf))
  generalize inB mem to=bm at *
  cases bm
  ·refine aF ?_
   rw[if_neg y_]at hlk
   have q3:=Aja n hn hu hD S ok i ⟨by omega,hi0⟩
   have ok':=ok.ext i
   have bk':=bk.ext (n:=n) (i:=i) ⟨by omega,by omega⟩
   generalize extT n S i=S' at *
   ((first|refine rG Γ hm ?_|refine rD Γ hm z_ ?_);(conv=>whnf);repeat((first|refine aF ?_|refine aT ?_);(first|refine rG Γ hm ?_|refine rD Γ hm z_ ?_);conv=>whnf))
   refine A2 (Aj [(0,32),(1,1001),(2,1002),(3,1003),(4,1004)] E F103 q3 E ⟨E,E,E,E,Y⟩ E ⟨.inl E,.inl E,.inl E,.inl E,.inr E,Y⟩) E E ?_
   ((first|refine rG Γ hm ?_|refine rD Γ hm z_ ?_);(conv=>whnf);repeat((first|refine aF ?_|refine aT ?_);(first|refine rG Γ hm ?_|refine rD Γ hm z_ ?_);conv=>whnf))
   refine iL ?_
   ((conv=>whnf);repeat((first|refine aF ?_|refine aT ?_);(first|refine rG Γ hm ?_|refine rD Γ hm z_ ?_);conv=>whnf))
   exact A8 (S',i+1) [(1003,1004)] ⟨ok',bk'.1,by simp only;omega,by simp only;rw[show 2 * n.domains.length+1-(i+1)=fuel by omega];exact hlk⟩ (by simp only;omega)
    ⟨⟨rfl,rfl,rfl,rfl,rfl,rfl,rfl,rfl,trivial⟩,⟨.inl rfl,rfl,.inl rfl,rfl,.inl rfl,rfl,.inl rfl,rfl,trivial⟩,rfl,rfl⟩
  ·refine aT ?_
   rw[if_pos rfl]at hlk
   subst hlk
   have q4:=backS n S bk q_ i ⟨by omega,by omega⟩
   generalize backT S.list i=w at *
   ((first|refine rG Γ hm ?_|refine rD Γ hm z_ ?_);(conv=>whnf);repeat((first|refine aF ?_|refine aT ?_);(first|refine rG Γ hm ?_|refine rD Γ hm z_ ?_);conv=>whnf))
   refine A2 (Aj [(0,32),(1,1001),(2,1002),(3,1003)] E F102 q4 E ⟨E,E,E,E,Y⟩ E ⟨.inl E,.inl E,.inl E,.inl E,Y⟩) E E ?_
   ((first|refine rG Γ hm ?_|refine rD Γ hm z_ ?_);(conv=>whnf);repeat((first|refine aF ?_|refine aT ?_);(first|refine rG Γ hm ?_|refine rD Γ hm z_ ?_);conv=>whnf))
   exact dN
 ·have hlt:¬ i<S.list.length:=qB h
  rw[if_neg hlt]at hlk
  subst hlk
  ((first|refine rG Γ hm ?_|refine rD Γ hm z_ ?_);(conv=>whnf);repeat((first|refine aF ?_|refine aT ?_);(first|refine rG Γ hm ?_|refine rD Γ hm z_ ?_);conv=>whnf))
  refine Ci 6 4 B7 E ?_
  ((first|refine rG Γ hm ?_|refine rD Γ hm z_ ?_);(conv=>whnf);repeat((first|refine aF ?_|refine aT ?_);(first|refine rG Γ hm ?_|refine rD Γ hm z_ ?_);conv=>whnf))
  exact dN
end Go.Sy.YtjenpnjajjplkaaGreatDoor
namespace Go.Sy.YtjenpnjajjplkaaGreatDoor
open Go.Proofs
def HopOK (n:Net) (h:Hop):Prop:=(0≤h.domain∧h.domain.toNat<n.domains.length)∧0≤h.addr∧h.addr<4294967296
theorem Afn {n:Net} {irb to e:Int} (he:e<4294967296):∀ {x:Int},0≤x→0≤(addrGo n irb to e x).1∧(addrGo n irb to e x).1<4294967296:=by
 intro x
 induction x using addrGo.induct n irb to e with
 | case1 x h1 h2=>intro h0;rw[addrGo,if_pos h1,if_pos h2];exact⟨h0,by simp only;omega⟩
 | case2 x h1 h2 h3=>intro h0;rw[addrGo,if_pos h1,if_neg h2,if_pos h3];decide
 | case3 x h1 h2 h3 h4 ih=>intro h0;rw[addrGo,if_pos h1,if_neg h2,if_neg h3,if_pos h4];exact ih q_
 | case4 x h1 h2 h3 h4=>intro h0;rw[addrGo,if_pos h1,if_neg h2,if_neg h3,if_neg h4];decide
 | case5 x h1=>intro h0;rw[addrGo,if_neg h1];decide
theorem Ah8 {n:Net} (hu:Bp n) (irb to:Int):0≤(addrT n irb to).1∧(addrT n irb to).1<4294967296:=by
 rw[addrT]
 split
 ·rename_i hc
  have hk:to.toNat<n.irbs.length:=by omega
  rw[Ad hk]
  have hui:=hu _ (List.getElem_mem hk)
  exact Afn (I5 _ _ hui).2 (Q6 _ _ hui).1
 ·decide
theorem Z3 {n:Net} {d:Int} {h:Hop} (hh:h∈Cv n d):HopOK n h:=by
 refine⟨E5 hh,?_⟩
 rw[Cv]at hh
 split at hh
 ·rcases List.mem_append.1 hh with hh | hh
  ·obtain ⟨p,_,hp⟩:=List.mem_filterMap.1 hh
   rw[linkHop]at hp
   split at hp
   ·simp only[Option.some.injEq]at hp
    subst hp
    exact⟨by simp,by simp⟩
   ·cases hp
  ·obtain ⟨p,hp,rfl⟩:=List.mem_map.1 hh
   exact⟨by simp[Hq],by simp[Hq]⟩
 ·cases hh
theorem Oa {n:Net} (hu:Bp n) {d:Int} {q:Lead} (hq:q∈routesT n d):0≤q.addr∧q.addr<4294967296:=by
 rw[routesT]at hq
 split at hq
 ·obtain ⟨i,hi,hp⟩:=List.mem_filterMap.1 hq
  rw[leadF]at hp
  split at hp
  ·simp only[Option.some.injEq]at hp
   subst hp
   exact Ah8 hu _ _
  ·cases hp
 ·cases hq
def HopsOK (n:Net) (l:List Fnd):Prop:=∀ f∈l,HopOK n f.hop
theorem HopsOK.meet {n:Net} {S:Srch} (h:HopsOK n S.list) (d k:Int) {hp:Hop} (hh:HopOK n hp) (a:Int):HopsOK n (meetT S d k hp a).list:=by
 rw[meetT]
 split
 ·exact h
 ·rw[Ij]
  split<;>(intro f hf;rcases List.mem_append.1 hf with hf | hf;exact h f hf;rw[List.mem_singleton]at hf;subst hf;exact hh)
theorem HopsOK.ext1 {n:Net} {k i:Int}:∀ {l:List Hop} {S:Srch},HopsOK n S.list→(∀ h∈l,HopOK n h)→HopsOK n (ext1 S k i l).list
 | [],S,h,_=>h
 | x::l,S,h,hl=>HopsOK.ext1 (l:=l) (h.meet x.domain k (hl x y_) i) (fun y hy=>hl y (by simp[hy]))
theorem HopsOK.ext2 {n:Net} {i:Int}:∀ {l:List Lead} {S:Srch},HopsOK n S.list→(∀ q∈l,HopOK n ⟨3,0,q.domain,q.addr⟩)→HopsOK n (ext2 S i l).list
 | [],S,h,_=>h
 | x::l,S,h,hl=>HopsOK.ext2 (l:=l) (h.meet x.domain 1 (hl x y_) i) (fun y hy=>hl y (by simp[hy]))
theorem HopsOK.ext {n:Net} (hu:Bp n) {S:Srch} (h:HopsOK n S.list) (i:Int):HopsOK n (extT n S i).list:=by
 rw[extT]
 split
 ·exact(h.ext1 (fun x hx=>Z3 hx)).ext2 (fun q hq=>⟨El hq,Oa hu hq⟩)
 ·exact h.ext1 (fun x hx=>Z3 hx)
theorem Aar {n:Net} {dev:Int} {l:List Int} (h:∀ v∈l,v≠0→0≤Bl n dev v∧(Bl n dev v).toNat<n.domains.length):HopsOK n (Iz n dev l).list:=by
 suffices hs:∀ (l:List Int) (S:Srch),HopsOK n S.list→(∀ v∈l,v≠0→0≤Bl n dev v∧(Bl n dev v).toNat<n.domains.length)→HopsOK n (l.foldl (Es n dev) S).list from hs l _ (fun f hf=>by simp[Eg]at hf) h
 intro l
 induction l with
 | nil=>exact fun S h _=>h
 | cons x l ih =>
  intro S hS hl
  refine ih _ ?_ (fun v hv=>hl v (by simp[hv]))
  rw[Es]
  split
  ·exact hS
  ·rename_i hx
   exact hS.meet _ _ ⟨hl x y_ hx,by simp,by simp⟩ _
theorem Aat {l:List Fnd} (hB:Backs l) {P:Hop→Prop} (hP:∀ f∈l,P f.hop):∀ (k:Nat) (i:Int),i<k→i<l.length→(∀ h∈backC l i,P h)∧((backC l i).length:Int)≤i+1∨i<0:=by
 intro k
 induction k with
 | zero=>intro i hi _;exact .inr q_
 | succ k ih =>
  intro i hi hl
  by_cases h0:0≤i
  ·left
   have hk:i.toNat<l.length:=by omega
   have hb:=hB i.toNat hk
   rw[backC,Ad hk,dif_pos ⟨h0,by omega⟩]
   have hm:=hP _ (List.getElem_mem hk)
   rcases ih (l[i.toNat]'hk).ahead q_ q_ with ⟨h1,h2⟩ | h1
   ·refine⟨fun h hh=>?_,by rw[List.length_cons];omega⟩
    rcases List.mem_cons.1 hh with rfl | hh
    ·exact hm
    ·exact h1 h hh
   ·rw[backC,dif_neg (fun e=>by omega)]
    refine⟨fun h hh=>?_,by simp;omega⟩
    rw[List.mem_singleton]at hh
    subst hh
    exact hm
  ·exact .inr q_
theorem Aas {l:List Fnd} (hB:Backs l) {P:Hop→Prop} (hP:∀ f∈l,P f.hop) {i:Nat} (hi:i<l.length):(∀ h∈backT l i,P h)∧(backT l i).length≤i+1∧backT l i≠[]:=by
 rcases Aat hB hP (i+1) i q_ q_ with ⟨h1,h2⟩ | h
 ·refine⟨fun h hh=>h1 h (by simpa [backT] using hh),by rw[backT,List.length_reverse];omega,?_⟩
  rw[backT]
  intro e
  have hk:((i:Nat):Int).toNat<l.length:=by simpa using hi
  have hb:=hB ((i:Nat):Int).toNat hk
  rw[backC,Ad hk,dif_pos ⟨by omega,by omega⟩]at e
  simp at e
 ·omega
theorem L0 {n:Net} (hu:Bp n) {to:Int}:∀ (k:Nat) (S:Srch) (i:Nat),S.OK n→Backs S.list→HopsOK n S.list→i≤S.list.length→(C0 n to k S i).2=true →
  (∀ h∈(C0 n to k S i).1,HopOK n h)∧(C0 n to k S i).1.length≤2 * n.domains.length∧(C0 n to k S i).1≠[]
 | 0,S,i,_,_,_,_,h=>by cases h
 | k+1,S,i,ok,bk,hk,hi,h=>by
  rw[C0]at h ⊢
  split at h
  ·rename_i hlt
   rw[if_pos hlt]
   split at h
   ·rename_i hm2
    rw[if_pos hm2]
    have:=Aas bk hk hlt
    have hle:=ok.le
    exact⟨this.1,by have:=this.2.1;simp only;omega,this.2.2⟩
   ·rename_i hm2
    rw[if_neg hm2]
    have bk':=bk.ext (n:=n) (i:=i) ⟨by omega,by omega⟩
    exact L0 hu k _ _ (ok.ext i) bk'.1 (hk.ext hu i) q_ h
  ·cases h
theorem T0 {n:Net} (hu:Bp n) {from_ to:Int} (h:(wayT n from_ to).2=true) :
  (∀ h∈(wayT n from_ to).1,HopOK n h)∧(wayT n from_ to).1.length≤2 * n.domains.length∧(wayT n from_ to).1≠[]∧Ac n=true:=by
 rw[wayT]at h ⊢
 split at h
 ·rename_i hc
  rw[if_pos hc]
  have hp:=I6 hc.1
  have ok0:(beginT n from_).OK n:=by
   rw[beginT,Ad hp.2]
   exact Sc fun v hv h0=>E8 hc.2.2.2 hp.2 hv h0
  have hk0:HopsOK n (beginT n from_).list:=by
   rw[beginT,Ad hp.2]
   exact Aar fun v hv h0=>E8 hc.2.2.2 hp.2 hv h0
  have bk0:Backs (beginT n from_).list:=by rw[beginT];exact Qf _ _ _
  obtain ⟨h1,h2,h3⟩:=L0 hu _ _ _ ok0 bk0 hk0 (Nat.zero_le _) h
  exact⟨h1,h2,h3,hc.2.2.2⟩
 ·cases h
end Go.Sy.YtjenpnjajjplkaaGreatDoor
namespace Go.Sy.YtjenpnjajjplkaaGreatDoor
open Go.Proofs
attribute [local irreducible] Go.Sy.G Go.Sy.DR
set_option maxRecDepth 20000
set_option maxHeartbeats 8000000
def rowT (n:Net) (h:Hop):ByteArray :=
 if h.kind=1 then Ct [Kc,Bj n h.port,Bj n (Bu n h.port),Cj n h.domain] ⟨#[32]⟩
 else if h.kind=2 then Ct [tMesh,Dx (nth n.domains h.domain).vni,Cj n h.domain] ⟨#[32]⟩
 else Ct [tRoute,D0 h.addr,Cj n h.domain] ⟨#[32]⟩
theorem Aad (n:Net) (hn:n.Fin) (hnm:Hc n) (hb:Ac n=true) (h:Hop) (hh:HopOK n h) :
  Sy.Spec Tryz.prog 91 [Ae n,B7 h] [] (Ak (rowT n h)) []:=cT F91 Tryz.ntmps91 fun F hF=>by
 have hlk:=rowT.eq_1 n h
 rw[Ad hh.1.2]at hlk
 generalize rowT n h=res at *
 obtain ⟨k,pt,d,a⟩:=h
 have hin:=hh.1
 obtain ⟨y,hy⟩:=Int.eq_ofNat_of_zero_le hh.2.1
 have hlt:=hh.2.2
 dsimp only at hlk hin hy hlt
 have q1:=U7 n hn hnm d
 have q2:=Ht n hn hnm pt
 have q3:=Ji n hn pt
 have q4:=Ht n hn hnm (Bu n pt)
 have s1:=Q9 hnm d
 have s2:=H5 hnm pt
 have s3:=H5 hnm (Bu n pt)
 have hf:=Ce hb hin.2
 obtain ⟨x,hx⟩:∃ x,n.domains[d.toNat]'hin.2=x:=⟨_,rfl⟩
 rw[hx]at hf hlk
 obtain ⟨v,hv⟩:∃ v:Nat,x.vni=v:=⟨x.vni.toNat,by omega⟩
 have q5:=Uf v q_
 have s5:=Qx (n:=(v:Int)) q_
 rw[← hv]at q5 s5
 have q6:=Afm y q_
 have s6:(D0 a).size≤20:=by rw[D0,Df];exact Hx _ 4
 rw[← hy]at q6
 generalize Cj n d=td at *
 generalize Bj n pt=tp at *
 generalize Bj n (Bu n pt)=tq at *
 generalize Bu n pt=ot at *
 generalize Dx x.vni=tv at *
 generalize D0 a=ta at *
 have w1:=Tz [Kc,tp,tq,td] y_ (by show 4+(tp.size+(tq.size+(td.size+0)))≤_;omega)
 have w2:=Tz [tMesh,tv,td] y_ (by show 4+(tv.size+(td.size+0))≤_;omega)
 have w3:=Tz [tRoute,ta,td] y_ (by show 5+(ta.size+(td.size+0))≤_;omega)
 generalize Ct [Kc,tp,tq,td] ⟨#[32]⟩=r1 at *
 generalize Ct [tMesh,tv,td] ⟨#[32]⟩=r2 at *
 generalize Ct [tRoute,ta,td] ⟨#[32]⟩=r3 at *
 ((conv=>whnf);repeat((first|refine aF ?_|refine aT ?_);(first|refine rG Γ hm ?_|refine rD Γ hm z_ ?_);conv=>whnf))
 refine A1 2 8 (Ae n) E E E ?_
 refine A1 3 4 (B7 ⟨k,pt,d,a⟩) E E E ?_
 ((first|refine rG Γ hm ?_|refine rD Γ hm z_ ?_);(conv=>whnf);repeat((first|refine aF ?_|refine aT ?_);(first|refine rG Γ hm ?_|refine rD Γ hm z_ ?_);conv=>whnf))
 refine c0 q1 F90 ?_
 ((first|refine rG Γ hm ?_|refine rD Γ hm z_ ?_);(conv=>whnf);repeat((first|refine aF ?_|refine aT ?_);(first|refine rG Γ hm ?_|refine rD Γ hm z_ ?_);conv=>whnf))
 refine⟨fun h=>?_,fun h=>?_⟩
 ·have h1:k=1:=by simpa using h
  rw[if_pos h1]at hlk
  subst hlk
  ((first|refine rG Γ hm ?_|refine rD Γ hm z_ ?_);(conv=>whnf);repeat((first|refine aF ?_|refine aT ?_);(first|refine rG Γ hm ?_|refine rD Γ hm z_ ?_);conv=>whnf))
  refine cD q2 F89 ?_
  ((first|refine rG Γ hm ?_|refine rD Γ hm z_ ?_);(conv=>whnf);repeat((first|refine aF ?_|refine aT ?_);(first|refine rG Γ hm ?_|refine rD Γ hm z_ ?_);conv=>whnf))
  refine cD q3 F184 ?_
  ((first|refine rG Γ hm ?_|refine rD Γ hm z_ ?_);(conv=>whnf);repeat((first|refine aF ?_|refine aT ?_);(first|refine rG Γ hm ?_|refine rD Γ hm z_ ?_);conv=>whnf))
  refine cD q4 F89 ?_
  ((first|refine rG Γ hm ?_|refine rD Γ hm z_ ?_);(conv=>whnf);repeat((first|refine aF ?_|refine aT ?_);(first|refine rG Γ hm ?_|refine rD Γ hm z_ ?_);conv=>whnf))
  refine Hi [25] w1 F88 E (.cons (.lit E E E) .nil) E z_ E ?_
  ((first|refine rG Γ hm ?_|refine rD Γ hm z_ ?_);(conv=>whnf);repeat((first|refine aF ?_|refine aT ?_);(first|refine rG Γ hm ?_|refine rD Γ hm z_ ?_);conv=>whnf))
  refine⟨z_,?_⟩
  ((conv=>whnf);repeat((first|refine aF ?_|refine aT ?_);(first|refine rG Γ hm ?_|refine rD Γ hm z_ ?_);conv=>whnf))
  exact dN
 have h1:k≠1:=by simpa using h
 rw[if_neg h1]at hlk
 ((first|refine rG Γ hm ?_|refine rD Γ hm z_ ?_);(conv=>whnf);repeat((first|refine aF ?_|refine aT ?_);(first|refine rG Γ hm ?_|refine rD Γ hm z_ ?_);conv=>whnf))
 refine⟨fun h=>?_,fun h=>?_⟩
 ·have h2:k=2:=by simpa using h
  rw[if_pos h2]at hlk
  subst hlk
  ((first|refine rG Γ hm ?_|refine rD Γ hm z_ ?_);(conv=>whnf);repeat((first|refine aF ?_|refine aT ?_);(first|refine rG Γ hm ?_|refine rD Γ hm z_ ?_);conv=>whnf))
  refine⟨E,hin.1,hin.2,?_⟩
  rw[hx]
  ((conv=>whnf);repeat((first|refine aF ?_|refine aT ?_);(first|refine rG Γ hm ?_|refine rD Γ hm z_ ?_);conv=>whnf))
  first | refine c0 q5 F117 ?_ | refine cD q5 F117 ?_
  ((first|refine rG Γ hm ?_|refine rD Γ hm z_ ?_);(conv=>whnf);repeat((first|refine aF ?_|refine aT ?_);(first|refine rG Γ hm ?_|refine rD Γ hm z_ ?_);conv=>whnf))
  first | refine Mh [38] w2 F88 rfl (.cons (.lit rfl rfl rfl) .nil) rfl rfl rfl ?_ | refine Hi [38] w2 F88 rfl (.cons (.lit rfl rfl rfl) .nil) rfl z_ rfl ?_
  ((first|refine rG Γ hm ?_|refine rD Γ hm z_ ?_);(conv=>whnf);repeat((first|refine aF ?_|refine aT ?_);(first|refine rG Γ hm ?_|refine rD Γ hm z_ ?_);conv=>whnf))
  first | (refine⟨z_,?_⟩;((conv=>whnf);repeat((first|refine aF ?_|refine aT ?_);(first|refine rG Γ hm ?_|refine rD Γ hm z_ ?_);conv=>whnf))) | skip
  exact dN
 ·have h2:k≠2:=by simpa using h
  rw[if_neg h2]at hlk
  subst hlk
  ((first|refine rG Γ hm ?_|refine rD Γ hm z_ ?_);(conv=>whnf);repeat((first|refine aF ?_|refine aT ?_);(first|refine rG Γ hm ?_|refine rD Γ hm z_ ?_);conv=>whnf))
  first | refine c0 q6 F185 ?_ | refine cD q6 F185 ?_
  ((first|refine rG Γ hm ?_|refine rD Γ hm z_ ?_);(conv=>whnf);repeat((first|refine aF ?_|refine aT ?_);(first|refine rG Γ hm ?_|refine rD Γ hm z_ ?_);conv=>whnf))
  first | refine Mh [44] w3 F88 rfl (.cons (.lit rfl rfl rfl) .nil) rfl rfl rfl ?_ | refine Hi [44] w3 F88 rfl (.cons (.lit rfl rfl rfl) .nil) rfl z_ rfl ?_
  ((first|refine rG Γ hm ?_|refine rD Γ hm z_ ?_);(conv=>whnf);repeat((first|refine aF ?_|refine aT ?_);(first|refine rG Γ hm ?_|refine rD Γ hm z_ ?_);conv=>whnf))
  first | (refine⟨z_,?_⟩;((conv=>whnf);repeat((first|refine aF ?_|refine aT ?_);(first|refine rG Γ hm ?_|refine rD Γ hm z_ ?_);conv=>whnf))) | skip
  exact dN
end Go.Sy.YtjenpnjajjplkaaGreatDoor
namespace Go.Sy.YtjenpnjajjplkaaGreatDoor
open Go.Proofs
def Tk (n:Net) (irb a:Int):Int:=(nth n.irbs a).bits * 2+Vq n irb a
theorem Aak (n:Net) (irb a b:Int):0<Mw n irb a b↔Tk n irb b<Tk n irb a:=by
 have h1:=Tq n irb a
 have h2:=Tq n irb b
 rw[Mw,Tk,Tk]
 split<;>omega
theorem W8 (n:Net) (irb:Int) (p:Nat→Bool):∀ j,Db p j≠[] →
  ∀ y∈Db p j,Tk n irb y≤Tk n irb (Io (Mw n irb) (Db p j))∧(y<Io (Mw n irb) (Db p j)→Tk n irb y<Tk n irb (Io (Mw n irb) (Db p j)))
 | 0,h=>absurd rfl h
 | j+1,h=>by
  have ih:=W8 n irb p j
  have hm:=W9 (Mw n irb) (Db p j)
  have hin:=fun x=>@filtI_in p j x
  have hs:=Acp (Mw n irb) (Db p j) j
  have ho:=Aff (Mw n irb) j
  rw[Mr]at h ⊢
  split
  ·generalize Db p j=u at *
   by_cases hu:u=[]
   ·subst hu
    intro y hy
    rw[List.nil_append]at hy ⊢
    rw[ho]
    have:y=j:=by simpa using hy
    subst this
    omega
   ·have hs2:=hs hu
    have ih2:=ih hu
    have hmi:=hin _ (hm hu)
    rw[hs2]
    split
    ·rename_i hc
     rw[Aak]at hc
     intro y hy
     rcases List.mem_append.1 hy with h1 | h1
     ·have:=(ih2 y h1).1
      omega
     ·have:y=j:=by simpa using h1
      subst this
      omega
    ·rename_i hc
     rw[Aak]at hc
     intro y hy
     rcases List.mem_append.1 hy with h1 | h1
     ·exact ih2 y h1
     ·have:y=j:=by simpa using h1
      subst this
      omega
  ·rename_i hp
   rw[if_neg hp]at h
   exact ih h
theorem Agz {n:Net} {irb dst:Int} (h:(lookT n irb dst).2=true):Dq n irb dst≠[]∧(lookT n irb dst).1=Io (Mw n irb) (Dq n irb dst):=by
 rw[lookT]at h ⊢
 split at h
 ·cases h
 ·rename_i h1
  rw[if_neg h1]
  split at h
  ·cases h
  ·rename_i h2
   rw[if_neg h2]
   exact⟨h2,by rw[Io,if_neg h2]⟩
theorem Agy {n:Net} {irb dst:Int} (h:(lookT n irb dst).2=false):(∃ i,i<n.irbs.length∧Kb n irb dst i=true)∨Dq n irb dst=[]:=by
 rw[lookT]at h
 split at h
 ·rename_i h1
  obtain ⟨i,hi,ht⟩:=List.any_eq_true.1 h1
  exact .inl ⟨i,List.mem_range.1 hi,ht⟩
 ·split at h
  ·rename_i h2;exact .inr h2
  ·cases h
theorem Lc {n:Net} {irb dst:Int} (h:(lookT n irb dst).2=true):(lookT n irb dst).1∈Dq n irb dst∧∀ y∈Dq n irb dst,Tk n irb y≤Tk n irb (lookT n irb dst).1∧(y<(lookT n irb dst).1→Tk n irb y<Tk n irb (lookT n irb dst).1):=by
 obtain ⟨h1,h2⟩:=Agz h
 rw[h2]
 exact⟨W9 _ _ h1,W8 n irb _ _ h1⟩
theorem mem_ways {n:Net} {irb dst i:Int}:i∈Dq n irb dst↔InIrbs n i∧Vu (nth n.irbs i).addr (nth n.irbs i).bits dst=true∧Y0 n irb i=true:=by
 rw[Dq,filtI_mem]
 constructor
 ·rintro ⟨h1,h2,h3⟩
  have e:(i.toNat:Int)=i:=by omega
  rw[Mj,e,Bool.and_eq_true]at h3
  exact⟨⟨h1,by omega⟩,h3⟩
 ·rintro ⟨⟨h1,h2⟩,h3,h4⟩
  have e:(i.toNat:Int)=i:=by omega
  refine⟨h1,by omega,?_⟩
  rw[Mj,e,h3,h4];rfl
theorem takenA_iff {n:Net} {a:Int}:De n a=true↔∃ i,∃ h:i<n.irbs.length,n.irbs[i].addr=a:=by
 rw[De,Ia,List.any_eq_true]
 constructor
 ·rintro ⟨x,hx,hxa⟩
  obtain ⟨i,hi,rfl⟩:=List.getElem_of_mem hx
  exact⟨i,hi,by simpa using hxa⟩
 ·rintro ⟨i,hi,he⟩
  exact⟨_,List.getElem_mem hi,by simpa using he⟩
def Hg (n:Net) (irb to a:Int):Bool:=(lookT n irb a).2 && (lookT n irb a).1 == to && !De n a
theorem leadsB_iff {n:Net} {irb to a:Int}:Hg n irb to a=true↔(lookT n irb a).2=true∧(lookT n irb a).1=to∧De n a=false:=by
 simp[Hg,and_assoc]
def Adu (n:Net) (to:Int) (j:Nat):List Int:=[B2 (nth n.irbs to).addr (nth n.irbs to).bits]++(n.irbs.take j).flatMap fun x=>[x.addr+1,Cy x.addr x.bits+1]
def Qd (n:Net) (to:Int):List Int:=Adu n to n.irbs.length
theorem Adt {n:Net} {to:Int} {i:Nat} (h:i<n.irbs.length):n.irbs[i].addr+1∈Qd n to∧Cy n.irbs[i].addr n.irbs[i].bits+1∈Qd n to:=by
 rw[Qd,Adu,List.take_length]
 constructor
 ·exact List.mem_append_right _ (List.mem_flatMap.2 ⟨_,List.getElem_mem h,by simp⟩)
 ·exact List.mem_append_right _ (List.mem_flatMap.2 ⟨_,List.getElem_mem h,by simp⟩)
theorem Te {n:Net} (hu:Bp n) (hb:Ac n=true) {irb to:Int} (hti:InIrbs n to):∀ x,x∈Qd n to→B2 (nth n.irbs to).addr (nth n.irbs to).bits≤x →
  (∀ a,B2 (nth n.irbs to).addr (nth n.irbs to).bits≤a→a<x→Hg n irb to a=false) →
  ((addrGo n irb to (Cy (nth n.irbs to).addr (nth n.irbs to).bits) x).2=true∧(addrGo n irb to (Cy (nth n.irbs to).addr (nth n.irbs to).bits) x).1∈Qd n to ∧
    Hg n irb to (addrGo n irb to (Cy (nth n.irbs to).addr (nth n.irbs to).bits) x).1=true ∧
    ∀ a,B2 (nth n.irbs to).addr (nth n.irbs to).bits≤a→a<(addrGo n irb to (Cy (nth n.irbs to).addr (nth n.irbs to).bits) x).1→Hg n irb to a=false) ∨
   (addrGo n irb to (Cy (nth n.irbs to).addr (nth n.irbs to).bits) x)=(0,false)∧∀ a,B2 (nth n.irbs to).addr (nth n.irbs to).bits≤a→a≤Cy (nth n.irbs to).addr (nth n.irbs to).bits→Hg n irb to a=false:=by
 have hnt:nth n.irbs to=n.irbs[to.toNat]'hti.2:=Ad hti.2
 have hut:=hu _ (List.getElem_mem hti.2)
 have hbt:=(B3 hb hti.2).2.2
 rw[hnt]
 have hf:=Q6 _ (n.irbs[to.toNat]'hti.2).bits hut
 have hl:=I5 _ (n.irbs[to.toNat]'hti.2).bits hut
 have hht:∀ a,0≤a∧a<4294967296→(Vu (nth n.irbs to).addr (nth n.irbs to).bits a=true↔B2 (n.irbs[to.toNat]'hti.2).addr (n.irbs[to.toNat]'hti.2).bits≤a∧a≤Cy (n.irbs[to.toNat]'hti.2).addr (n.irbs[to.toNat]'hti.2).bits):=fun a ha=>by
  rw[hnt];exact Kw _ _ _ hbt hut ha
 generalize B2 (n.irbs[to.toNat]'hti.2).addr (n.irbs[to.toNat]'hti.2).bits=f at *
 generalize Cy (n.irbs[to.toNat]'hti.2).addr (n.irbs[to.toNat]'hti.2).bits=e at *
 have hway:∀ a b,f≤a→a≤e→f≤b→b≤e→Hg n irb to a=true→to∈Dq n irb b:=fun a b ha1 ha2 hb1 hb2 h=>by
  obtain ⟨h1,h2,_⟩:=leadsB_iff.1 h
  have h3:=(Lc h1).1
  rw[h2]at h3
  have h4:=mem_ways.1 h3
  exact mem_ways.2 ⟨h4.1,(hht b q_).2 ⟨hb1,hb2⟩,h4.2.2⟩
 intro x
 induction x using addrGo.induct n irb to e with
 | case1 x h1 h2 =>
  intro hc hfx hno
  rw[addrGo,if_pos h1,if_pos h2]
  exact .inl ⟨E,hc,leadsB_iff.2 h2,hno⟩
 | case2 x h1 h2 h3 =>
  intro hc hfx hno
  rw[addrGo,if_pos h1,if_neg h2,if_pos h3]
  refine .inr ⟨E,fun a ha1 ha2=>?_⟩
  cases hla:Hg n irb to a
  ·rfl
  have hw:=hway a x ha1 ha2 hfx h1 hla
  rcases Agy h3.1 with ⟨i,hi,ht⟩ | h
  ·rw[Kb,Ad (l:=n.irbs) (i:=(i:Int)) (by simpa using hi),Bool.and_eq_true]at ht
   have:De n x=true:=takenA_iff.2 ⟨i,hi,by simpa using ht.2⟩
   rw[h3.2]at this
   cases this
  ·rw[h]at hw
   cases hw
 | case3 x h1 h2 h3 h4 ih =>
  intro hc hfx hno
  rw[addrGo,if_pos h1,if_neg h2,if_neg h3,if_pos h4]
  rw[pastI]at h4 ih ⊢
  cases ht:De n x
  ·rw[ht]at h2 h3 h4 ih
   rw[if_neg y_]at h4 ih ⊢
   have hl2:(lookT n irb x).2=true:=by cases h:(lookT n irb x).2 with | true=>rfl | false=>exact absurd ⟨h,rfl⟩ h3
   have hne:(lookT n irb x).1≠to:=fun h=>h2 ⟨hl2,h,rfl⟩
   have hmx:=Lc hl2
   have hwl:=mem_ways.1 hmx.1
   have hul:=hu _ (List.getElem_mem hwl.1.2)
   have hbl:=(B3 hb hwl.1.2).2.2
   have hln:nth n.irbs (lookT n irb x).1=n.irbs[(lookT n irb x).1.toNat]'hwl.1.2:=Ad hwl.1.2
   refine ih ?_ q_ (fun a ha1 ha2=>?_)
   ·rw[hln];exact(Adt hwl.1.2).2
   ·rcases Int.lt_or_le a x with hax | hax
    ·exact hno a ha1 hax
    cases hla:Hg n irb to a
    ·rfl
    have hlb:=leadsB_iff.1 hla
    have hma:=Lc hlb.1
    rw[hlb.2.1]at hma
    have hta:=mem_ways.1 hma.1
    rw[hln]at ha2 hwl
    have hr:=I5 _ (n.irbs[(lookT n irb x).1.toNat]'hwl.1.2).bits hul
    have ha:0≤a∧a<4294967296:=by omega
    have hae:=((hht a ha).1 hta.2.1).2
    have hx:=(Kw _ _ _ hbl hul (by omega:0≤x∧x<4294967296)).1 hwl.2.1
    have hla2:(lookT n irb x).1∈Dq n irb a:=mem_ways.2 ⟨hwl.1,by rw[hln];exact(Kw _ _ _ hbl hul ha).2 ⟨by omega,by omega⟩,hwl.2.2⟩
    have k1:=hmx.2 to (hway a x ha1 hae hfx h1 hla)
    have k2:=hma.2 _ hla2
    exact absurd q_ hne
  ·rw[ht]at h4 ih
   rw[if_pos rfl]at h4 ih ⊢
   obtain ⟨i,hi,he⟩:=takenA_iff.1 ht
   refine ih (by rw[← he];exact(Adt hi).1) q_ (fun a ha1 ha2=>?_)
   rcases Int.lt_or_le a x with hax | hax
   ·exact hno a ha1 hax
   ·have:a=x:=by omega
    subst this
    simp[Hg,ht]
 | case4 x h1 h2 h3 h4 =>
  intro hc hfx hno
  refine absurd (Zh hu hb (irb:=irb) (a:=x) q_ (fun ht=>?_)).1 h4
  cases h:(lookT n irb x).2 with
  | true=>rfl
  | false=>exact absurd ⟨h,ht⟩ h3
 | case5 x h1 =>
  intro hc hfx hno
  rw[addrGo,if_neg h1]
  exact .inr ⟨E,fun a ha1 ha2=>hno a ha1 q_⟩
end Go.Sy.YtjenpnjajjplkaaGreatDoor
namespace Go.Sy.YtjenpnjajjplkaaGreatDoor
open Go.Proofs
attribute [local irreducible] Go.Sy.G Go.Sy.DR
set_option maxRecDepth 20000
set_option maxHeartbeats 8000000
structure WayD where
 (hops:List Hop) (routed:Bool)
instance:Inhabited WayD:=⟨⟨[],false⟩⟩
end Go.Sy.YtjenpnjajjplkaaGreatDoor
namespace Go.Sy.YtjenpnjajjplkaaGreatDoor
open Go.Proofs
theorem Um {α:Type} [Inhabited α] {l m:List α} {i:Int} (h:i.toNat<l.length):nth (l++m) i=nth l i:=by
 rw[nth,nth,List.getElem?_append_left h]
theorem Jy {l m:List Fnd} (hB:Backs l):∀ (k:Nat) (i:Int),i<k→i<l.length→backC (l++m) i=backC l i:=by
 intro k
 induction k with
 | zero =>
  intro i hi hl
  rw[backC,dif_neg (fun h=>by omega),backC,dif_neg (fun h=>by omega)]
 | succ k ih =>
  intro i hi hl
  by_cases h0:0≤i
  ·have hk:i.toNat<l.length:=by omega
   have hb:=hB i.toNat hk
   rw[backC,Um hk,backC.eq_1 l i,Ad hk,dif_pos ⟨h0,by omega⟩,dif_pos ⟨h0,by omega⟩]
   rw[ih _ q_ q_]
  ·rw[backC,dif_neg (fun h=>h0 h.1),backC,dif_neg (fun h=>h0 h.1)]
theorem Hw {l m:List Fnd} (hB:Backs l) {i:Int} (h:i<l.length):backT (l++m) i=backT l i:=by
 rw[backT,backT,Jy hB (i+1).toNat i q_ h]
theorem Vd {l:List Fnd} (hB:Backs l) {f:Fnd} (hf:-1≤f.ahead∧f.ahead<l.length):backT (l++[f]) l.length=backT l f.ahead++[f.hop]:=by
 have e:nth (l++[f]) (l.length:Int)=f:=by
  rw[Ad (l:=l++[f]) (i:=(l.length:Int)) y_]
  simp
 rw[backT,backC,e,dif_pos ⟨by omega,by omega⟩,List.reverse_cons,Jy hB (f.ahead+1).toNat _ q_ q_]
 rfl
theorem Acq (l:List Fnd):backT l (-1)=[]:=by
 rw[backT,backC,dif_neg (fun h=>by omega)];rfl
structure Met (n:Net) (S:Srch):Prop where
 ok:S.OK n
 bk:Backs S.list
 dom:∀ f∈S.list,f.hop.domain=f.domain
 m:∀ d:Int,0≤d∧d.toNat<n.domains.length→∀ k:Int,(k=0∨k=1)→(Jg S d k=true↔∃ f∈S.list,f.domain=d∧f.kind=k)
theorem Zj {l:List Bool} {a b:Nat} (hb:b<l.length):(l.set a true)[b]? = if a=b then some true else l[b]?:=by
 rw[List.getElem?_set]
 split
 ·rename_i h;subst h;simp[hb]
 ·rfl
theorem Ab1 {n:Net} {S:Srch} (hS:S.OK n) {d k:Int} (hd:0≤d∧d.toNat<n.domains.length) (hk:k=0∨k=1) (h:Hop) (a:Int) (d2 k2:Int) (hd2:0≤d2∧d2.toNat<n.domains.length) (hk2:k2=0∨k2=1) :
  Jg (Ij S d k h a) d2 k2=true↔Jg S d2 k2=true∨(d2=d∧k2=k):=by
 have h0:d2.toNat<S.m0.length:=by rw[hS.l0];exact hd2.2
 have h1:d2.toNat<S.m1.length:=by rw[hS.l1];exact hd2.2
 have e:(d.toNat=d2.toNat)↔d2=d:=by omega
 rcases hk with rfl | rfl<;>rcases hk2 with rfl | rfl
 ·rw[Ij,if_pos rfl,Jg,if_pos rfl,Jg,if_pos rfl,nth,nth,Zj h0]
  by_cases h:d2=d
  ·rw[if_pos (e.2 h)];simp[h]
  ·rw[if_neg (fun x=>h (e.1 x))];simp[h]
 ·rw[Ij,if_pos rfl,Jg,if_neg j_,Jg,if_neg j_]
  simp
 ·rw[Ij,if_neg j_,Jg,if_pos rfl,Jg,if_pos rfl]
  simp
 ·rw[Ij,if_neg j_,Jg,if_neg j_,Jg,if_neg j_,nth,nth,Zj h1]
  by_cases h:d2=d
  ·rw[if_pos (e.2 h)];simp[h]
  ·rw[if_neg (fun x=>h (e.1 x))];simp[h]
theorem Mo (S:Srch) (d k:Int) (h:Hop) (a:Int):(Ij S d k h a).list=S.list++[⟨d,k,h,a⟩]:=by
 rw[Ij];split<;>rfl
theorem Met.meet {n:Net} {S:Srch} (hS:Met n S) {d k:Int} (hd:0≤d∧d.toNat<n.domains.length) (hk:k=0∨k=1) {h:Hop} (hh:h.domain=d) {a:Int} (ha:-1≤a∧a<S.list.length):Met n (meetT S d k h a) where
 ok:=hS.ok.meet hd hk h a
 bk:=(hS.bk.meet d k h ha).1
 dom:=by
  rw[meetT]
  split
  ·exact hS.dom
  ·rw[Mo]
   intro f hf
   rcases List.mem_append.1 hf with h1 | h1
   ·exact hS.dom f h1
   ·rw[List.mem_singleton.1 h1];exact hh
 m:=by
  rw[meetT]
  split
  ·exact hS.m
  ·intro d2 hd2 k2 hk2
   rw[Ab1 hS.ok hd hk h a d2 k2 hd2 hk2,hS.m d2 hd2 k2 hk2,Mo]
   constructor
   ·rintro (⟨f,hf,h1⟩ | ⟨rfl,rfl⟩)
    ·exact⟨f,List.mem_append_left _ hf,h1⟩
    ·exact⟨_,List.mem_append_right _ (List.mem_singleton.2 E),E,E⟩
   ·rintro ⟨f,hf,h1,h2⟩
    rcases List.mem_append.1 hf with h3 | h3
    ·exact .inl ⟨f,h3,h1,h2⟩
    ·rw[List.mem_singleton.1 h3]at h1 h2
     exact .inr ⟨h1.symm,h2.symm⟩
def Ajm (n:Net) (x y:Int × Int):Prop:=(∃ h∈Cv n x.1,y=(h.domain,x.2))∨(x.2=0∧∃ q∈routesT n x.1,y=(q.domain,1))
def Aa0 (n:Net) (p:Int) (x:Int × Int):Prop:=∃ v∈(nth n.ports p).native::(nth n.ports p).tagged,v≠0∧x=(Bl n (nth n.ports p).dev v,0)
inductive Walk (n:Net) (p:Int):Nat→Int × Int→Prop
 | start {x:Int × Int}:Aa0 n p x→Walk n p 0 x
 | step {k:Nat} {x y:Int × Int}:Walk n p k x→Ajm n x y→Walk n p (k+1) y
inductive HWay (n:Net) (p:Int):List Hop→Int × Int→Prop
 | start {d:Int}:Aa0 n p (d,0)→HWay n p [⟨0,0,d,0⟩] (d,0)
 | hop {l:List Hop} {x:Int × Int} {h:Hop}:HWay n p l x→h∈Cv n x.1→HWay n p (l++[h]) (h.domain,x.2)
 | lead {l:List Hop} {x:Int × Int} {q:Lead}:HWay n p l x→x.2=0→q∈routesT n x.1→HWay n p (l++[⟨3,0,q.domain,q.addr⟩]) (q.domain,1)
theorem HWay.walk {n:Net} {p:Int} {l:List Hop} {x:Int × Int} (h:HWay n p l x):∃ k,l.length=k+1∧Walk n p k x:=by
 induction h with
 | start hs=>exact⟨0,rfl,.start hs⟩
 | hop _ hh ih =>
  obtain ⟨k,h1,h2⟩:=ih
  exact⟨k+1,by rw[List.length_append,h1];rfl,.step h2 (.inl ⟨_,hh,E⟩)⟩
 | lead _ h0 hq ih =>
  obtain ⟨k,h1,h2⟩:=ih
  exact⟨k+1,by rw[List.length_append,h1];rfl,.step h2 (.inr ⟨h0,_,hq,E⟩)⟩
def lnC (l:List Fnd) (i:Int):Nat:=(backC l i).length
theorem Zo (l:List Fnd):lnC l (-1)=0:=by
 rw[lnC,backC,dif_neg (fun h=>by omega)];rfl
theorem Jh {l m:List Fnd} (hB:Backs l) {i:Int} (h:i<l.length):lnC (l++m) i=lnC l i:=by
 rw[lnC,Jy hB (i+1).toNat i q_ h,lnC]
theorem Ag1 {l:List Fnd} (hB:Backs l) {f:Fnd} (hf:-1≤f.ahead∧f.ahead<l.length):lnC (l++[f]) (l.length:Int)=lnC l f.ahead+1:=by
 have:=congrArg List.length (Vd hB hf)
 rw[List.length_append,List.length_singleton]at this
 simpa [backT,lnC] using this
theorem Zp (l:List Fnd) (i:Int):lnC l i=(backT l i).length:=by simp[lnC,backT]
theorem Km {l m:List Fnd} {b:Nat} (h:b<l.length):nth (l++m) (b:Int)=nth l (b:Int):=Um (by simpa using h)
theorem Ul (l:List Fnd) (f:Fnd):nth (l++[f]) (l.length:Int)=f:=by
 rw[Ad (l:=l++[f]) (i:=(l.length:Int)) y_];simp
structure BI (n:Net) (p:Int) (S:Srch) (a:Int):Prop where
 met:Met n S
 mono:∀ b c:Nat,b≤c→c<S.list.length→lnC S.list b≤lnC S.list c
 bnd:∀ b:Nat,b<S.list.length→lnC S.list b≤lnC S.list a+1
 walk:∀ b:Nat,b<S.list.length→HWay n p (backT S.list b) ((nth S.list b).domain,(nth S.list b).kind)
def HasB (l:List Fnd) (x:Int × Int) (m:Nat):Prop:=∃ b:Nat,b<l.length∧(nth l (b:Int)).domain=x.1∧(nth l (b:Int)).kind=x.2∧lnC l (b:Int)≤m
theorem HasB.app {l e:List Fnd} (hB:Backs l) {x:Int × Int} {m:Nat}:HasB l x m→HasB (l++e) x m:=fun ⟨b,h1,h2,h3,h4⟩ =>
 ⟨b,by rw[List.length_append];omega,by rw[Km h1];exact h2,by rw[Km h1];exact h3,by rw[Jh hB q_];exact h4⟩
theorem BI.meet {n:Net} {p:Int} {S:Srch} {a:Int} (h:BI n p S a) (ha:-1≤a∧a<S.list.length) {d k:Int} (hd:0≤d∧d.toNat<n.domains.length) (hk:k=0∨k=1) {hp:Hop} (hh:hp.domain=d) (hw:HWay n p (backT S.list a++[hp]) (d,k)) :
  BI n p (meetT S d k hp a) a∧HasB (meetT S d k hp a).list (d,k) (lnC S.list a+1)∧∃ e,(meetT S d k hp a).list=S.list++e:=by
 have hm:=h.met.meet hd hk hh ha
 have hB:=h.met.bk
 cases hb:Jg S d k with
 | true =>
  have e:meetT S d k hp a=S:=by rw[meetT,if_pos hb]
  rw[e]
  refine⟨h,?_,[],by simp⟩
  obtain ⟨f,hf,f1,f2⟩:=(h.met.m d hd k hk).1 hb
  obtain ⟨b,hbl,rfl⟩:=List.getElem_of_mem hf
  have e2:nth S.list (b:Int)=S.list[b]:=Ad (l:=S.list) (i:=((b:Nat):Int)) hbl
  exact⟨b,hbl,by rw[e2];exact f1,by rw[e2];exact f2,h.bnd b hbl⟩
 | false =>
  have e:(meetT S d k hp a).list=S.list++[⟨d,k,hp,a⟩]:=by rw[meetT,if_neg (by rw[hb];decide),Mo]
  have hlast:=Ag1 hB (f:=⟨d,k,hp,a⟩) ha
  have hla:lnC (S.list++[⟨d,k,hp,a⟩]) a=lnC S.list a:=Jh hB ha.2
  have hlen:(S.list++[(⟨d,k,hp,a⟩:Fnd)]).length=S.list.length+1:=by simp
  dsimp only at hlast
  have hcase:∀ b:Nat,b<(S.list++[(⟨d,k,hp,a⟩:Fnd)]).length→(b<S.list.length∧lnC (S.list++[⟨d,k,hp,a⟩]) (b:Int)=lnC S.list (b:Int))∨(b=S.list.length∧lnC (S.list++[⟨d,k,hp,a⟩]) (b:Int)=lnC S.list a+1):=fun b hb=>by
   by_cases hl:b<S.list.length
   ·exact .inl ⟨hl,Jh hB q_⟩
   ·have:b=S.list.length:=by omega
    subst this
    exact .inr ⟨E,hlast⟩
  refine⟨⟨hm,?_,?_,?_⟩,?_,[⟨d,k,hp,a⟩],e⟩
  ·rw[e]
   intro b c hbc hc
   rcases hcase c hc with ⟨c1,c2⟩ | ⟨c1,c2⟩<;>rcases hcase b q_ with ⟨b1,b2⟩ | ⟨b1,b2⟩
   ·rw[c2,b2];exact h.mono b c hbc c1
   ·omega
   ·rw[c2,b2];exact h.bnd b b1
   ·rw[c2,b2];exact Nat.le_refl _
  ·rw[e]
   intro b hb
   rw[hla]
   rcases hcase b hb with ⟨b1,b2⟩ | ⟨b1,b2⟩
   ·rw[b2];exact h.bnd b b1
   ·rw[b2];exact Nat.le_refl _
  ·rw[e]
   intro b hb
   rcases hcase b hb with ⟨b1,_⟩ | ⟨b1,_⟩
   ·rw[Hw hB q_,Km b1];exact h.walk b b1
   ·subst b1
    rw[Vd hB (f:=⟨d,k,hp,a⟩) ha,Ul]
    exact hw
  ·rw[e]
   exact⟨S.list.length,by omega,by rw[Ul],by rw[Ul],by rw[hlast];exact Nat.le_refl _⟩
theorem BI.ext1 {n:Net} {p:Int} {a k:Int} (hk:k=0∨k=1):∀ {l:List Hop} {S:Srch},BI n p S a→(-1≤a∧a<S.list.length)→(∀ h∈l,(0≤h.domain∧h.domain.toNat<n.domains.length)∧HWay n p (backT S.list a++[h]) (h.domain,k)) →
  BI n p (Go.Sy.YtjenpnjajjplkaaGreatDoor.ext1 S k a l) a∧(∀ h∈l,HasB (Go.Sy.YtjenpnjajjplkaaGreatDoor.ext1 S k a l).list (h.domain,k) (lnC S.list a+1))∧∃ e,(Go.Sy.YtjenpnjajjplkaaGreatDoor.ext1 S k a l).list=S.list++e
 | [],S,h,_,_=>⟨h,fun _ hx=>(by cases hx),[],by simp[Go.Sy.YtjenpnjajjplkaaGreatDoor.ext1]⟩
 | x::l,S,h,ha,hl=>by
  obtain ⟨x1,x2⟩:=hl x y_
  obtain ⟨m1,m2,e,m3⟩:=h.meet ha x1 hk (hp:=x) rfl x2
  have hla:lnC (meetT S x.domain k x a).list a=lnC S.list a:=by rw[m3];exact Jh h.met.bk ha.2
  have hba:backT (meetT S x.domain k x a).list a=backT S.list a:=by rw[m3];exact Hw h.met.bk ha.2
  obtain ⟨i1,i2,e2,i3⟩:=BI.ext1 hk (l:=l) m1 ⟨ha.1,by rw[m3,List.length_append];omega⟩ (fun y hy=>by rw[hba];exact hl y (by simp[hy]))
  refine⟨i1,fun y hy=>?_,e++e2,?_⟩
  ·rcases List.mem_cons.1 hy with rfl | hy
   ·show HasB (Go.Sy.YtjenpnjajjplkaaGreatDoor.ext1 (meetT S y.domain k y a) k a l).list _ _
    rw[i3]
    exact m2.app m1.met.bk
   ·have:=i2 y hy
    rw[hla]at this
    exact this
  ·show (Go.Sy.YtjenpnjajjplkaaGreatDoor.ext1 (meetT S x.domain k x a) k a l).list=_
   rw[i3,m3,List.append_assoc]
theorem BI.ext2 {n:Net} {p:Int} {a:Int}:∀ {l:List Lead} {S:Srch},BI n p S a→(-1≤a∧a<S.list.length)→(∀ h∈l,(0≤h.domain∧h.domain.toNat<n.domains.length)∧HWay n p (backT S.list a++[⟨3,0,h.domain,h.addr⟩]) (h.domain,1)) →
  BI n p (Go.Sy.YtjenpnjajjplkaaGreatDoor.ext2 S a l) a∧(∀ h∈l,HasB (Go.Sy.YtjenpnjajjplkaaGreatDoor.ext2 S a l).list (h.domain,1) (lnC S.list a+1))∧∃ e,(Go.Sy.YtjenpnjajjplkaaGreatDoor.ext2 S a l).list=S.list++e
 | [],S,h,_,_=>⟨h,fun _ hx=>(by cases hx),[],by simp[Go.Sy.YtjenpnjajjplkaaGreatDoor.ext2]⟩
 | x::l,S,h,ha,hl=>by
  obtain ⟨x1,x2⟩:=hl x y_
  obtain ⟨m1,m2,e,m3⟩:=h.meet ha x1 (.inr rfl) (hp:=⟨3,0,x.domain,x.addr⟩) rfl x2
  have hla:lnC (meetT S x.domain 1 ⟨3,0,x.domain,x.addr⟩ a).list a=lnC S.list a:=by rw[m3];exact Jh h.met.bk ha.2
  have hba:backT (meetT S x.domain 1 ⟨3,0,x.domain,x.addr⟩ a).list a=backT S.list a:=by rw[m3];exact Hw h.met.bk ha.2
  obtain ⟨i1,i2,e2,i3⟩:=BI.ext2 (l:=l) m1 ⟨ha.1,by rw[m3,List.length_append];omega⟩ (fun y hy=>by rw[hba];exact hl y (by simp[hy]))
  refine⟨i1,fun y hy=>?_,e++e2,?_⟩
  ·rcases List.mem_cons.1 hy with rfl | hy
   ·show HasB (Go.Sy.YtjenpnjajjplkaaGreatDoor.ext2 (meetT S y.domain 1 ⟨3,0,y.domain,y.addr⟩ a) a l).list _ _
    rw[i3]
    exact m2.app m1.met.bk
   ·have:=i2 y hy
    rw[hla]at this
    exact this
  ·show (Go.Sy.YtjenpnjajjplkaaGreatDoor.ext2 (meetT S x.domain 1 ⟨3,0,x.domain,x.addr⟩ a) a l).list=_
   rw[i3,m3,List.append_assoc]
theorem BI.ext {n:Net} {p:Int} {S:Srch} {i:Nat} (h:BI n p S (i:Int)) (hi:i<S.list.length) :
  BI n p (extT n S (i:Int)) (i:Int)∧(∀ y,Ajm n ((nth S.list (i:Int)).domain,(nth S.list (i:Int)).kind) y→HasB (extT n S (i:Int)).list y (lnC S.list (i:Int)+1))∧∃ e,(extT n S (i:Int)).list=S.list++e:=by
 have hw:=h.walk i hi
 have ha:-1≤(i:Int)∧(i:Int)<S.list.length:=⟨by omega,by omega⟩
 have hkk:=(h.met.ok.at_ _ (show nth S.list (i:Int)∈S.list by rw[Ad (l:=S.list) (i:=(i:Int)) (by simpa using hi)];exact List.getElem_mem _)).2
 rw[extT]
 by_cases h0:(nth S.list (i:Int)).kind=0
 ·rw[if_pos h0]
  obtain ⟨i1,i2,e,i3⟩:=h.ext1 (k:=0) (.inl rfl) (l:=Cv n (nth S.list (i:Int)).domain) ha (fun x hx=>⟨E5 hx,by have:=HWay.hop hw (h:=x) hx;dsimp only at this;rw[h0]at this;exact this⟩)
  have hba:backT (Go.Sy.YtjenpnjajjplkaaGreatDoor.ext1 S 0 (i:Int) (Cv n (nth S.list (i:Int)).domain)).list (i:Int)=backT S.list (i:Int):=by rw[i3];exact Hw h.met.bk ha.2
  have hla:lnC (Go.Sy.YtjenpnjajjplkaaGreatDoor.ext1 S 0 (i:Int) (Cv n (nth S.list (i:Int)).domain)).list (i:Int)=lnC S.list (i:Int):=by rw[i3];exact Jh h.met.bk ha.2
  obtain ⟨j1,j2,e2,j3⟩:=i1.ext2 (l:=routesT n (nth S.list (i:Int)).domain) ⟨ha.1,by rw[i3,List.length_append];omega⟩ (fun x hx=>⟨El hx,by rw[hba];exact HWay.lead hw h0 hx⟩)
  refine⟨j1,?_,e++e2,by rw[j3,i3,List.append_assoc]⟩
  rintro y (⟨x,hx,rfl⟩ | ⟨_,q,hq,rfl⟩)
  ·have:=i2 x hx
   rw[j3]
   rw[h0]
   exact this.app i1.met.bk
  ·have:=j2 q hq
   rw[hla]at this
   exact this
 ·have h1:(nth S.list (i:Int)).kind=1:=hkk.resolve_left h0
  rw[if_neg h0]
  obtain ⟨i1,i2,e,i3⟩:=h.ext1 (k:=1) (.inr rfl) (l:=Cv n (nth S.list (i:Int)).domain) ha (fun x hx=>⟨E5 hx,by have:=HWay.hop hw (h:=x) hx;dsimp only at this;rw[h1]at this;exact this⟩)
  refine⟨i1,?_,e,i3⟩
  rintro y (⟨x,hx,rfl⟩ | ⟨h2,_⟩)
  ·rw[h1]
   exact i2 x hx
  ·exact absurd h2 h0
structure SI (n:Net) (p to:Int) (S:Srch) (i:Nat):Prop where
 met:Met n S
 mono:∀ b c:Nat,b≤c→c<S.list.length→lnC S.list b≤lnC S.list c
 bnd:i<S.list.length→∀ b:Nat,b<S.list.length→lnC S.list b≤lnC S.list i+1
 walk:∀ b:Nat,b<S.list.length→HWay n p (backT S.list b) ((nth S.list b).domain,(nth S.list b).kind)
 succ:∀ j:Nat,j<i→j<S.list.length→∀ y,Ajm n ((nth S.list (j:Int)).domain,(nth S.list (j:Int)).kind) y→HasB S.list y (lnC S.list (j:Int)+1)
 start:∀ y,Aa0 n p y→HasB S.list y 1
 goal:∀ j:Nat,j<i→j<S.list.length→inB (Ao n (nth S.list (j:Int)).domain) to=false
theorem SI.far {n:Net} {p to:Int} {S:Srch} {i M:Nat} (h:SI n p to S i) (hP:∀ b:Nat,b<S.list.length→lnC S.list (b:Int)≤M→b<i):∀ (m:Nat) (x:Int × Int),Walk n p m x→m≤M→HasB S.list x (m+1)
 | 0,x,hw,_=>by
  cases hw with
  | start hs=>exact h.start x hs
 | m+1,x,hw,hm=>by
  cases hw with
  | step hw hs =>
   rename_i y
   obtain ⟨b,b1,b2,b3,b4⟩:=h.far hP m y hw q_
   obtain ⟨c,c1,c2,c3,c4⟩:=h.succ b (hP b b1 q_) b1 x (by rw[b2,b3];exact hs)
   exact⟨c,c1,c2,c3,by omega⟩
theorem SI.none {n:Net} {p to:Int} {S:Srch} {i M:Nat} (h:SI n p to S i) (hP:∀ b:Nat,b<S.list.length→lnC S.list (b:Int)≤M→b<i) {m:Nat} {x:Int × Int} (hw:Walk n p m x) (hg:inB (Ao n x.1) to=true):M≤m:=by
 by_cases hm:m<M
 ·obtain ⟨b,b1,b2,b3,b4⟩:=h.far hP m x hw q_
  have:=h.goal b (hP b b1 q_) b1
  rw[b2,hg]at this
  cases this
 ·omega
theorem SI.next {n:Net} {p to:Int} {S:Srch} {i:Nat} (h:SI n p to S i) (hi:i<S.list.length) (hg:inB (Ao n (nth S.list (i:Int)).domain) to=false):SI n p to (extT n S (i:Int)) (i+1)∧i+1≤(extT n S (i:Int)).list.length:=by
 obtain ⟨b1,b2,e,b3⟩:=BI.ext (p:=p) ⟨h.met,h.mono,h.bnd hi,h.walk⟩ hi
 have hB:=h.met.bk
 refine⟨⟨b1.met,b1.mono,fun hi2 b hb=>?_,b1.walk,fun j hj hjl y hy=>?_,fun y hy=>?_,fun j hj hjl=>?_⟩,?_⟩
 ·have h1:=b1.bnd b hb
  have h2:=b1.mono i (i+1) q_ hi2
  omega
 ·have hji:j<S.list.length:=by omega
  rw[b3,Km hji]at hy
  rw[b3,Jh hB q_,← b3]
  by_cases hje:j=i
  ·subst hje
   exact b2 y hy
  ·rw[b3]
   exact(h.succ j q_ hji y hy).app hB
 ·rw[b3]
  exact(h.start y hy).app hB
 ·have hji:j<S.list.length:=by omega
  rw[b3,Km hji]
  by_cases hje:j=i
  ·subst hje;exact hg
  ·exact h.goal j q_ hji
 ·rw[b3,List.length_append];omega
theorem M7 {n:Net} {p to:Int}:∀ (k:Nat) (S:Srch) (i:Nat),SI n p to S i→i≤S.list.length→2 * n.domains.length+1≤i+k →
  ((C0 n to k S i).2=true→∃ m x,Walk n p m x∧inB (Ao n x.1) to=true∧(C0 n to k S i).1.length=m+1∧HWay n p (C0 n to k S i).1 x∧∀ m' x',Walk n p m' x'→inB (Ao n x'.1) to=true→m≤m') ∧
  ((C0 n to k S i).2=false→(C0 n to k S i).1=[]∧∀ m' x',Walk n p m' x'→inB (Ao n x'.1) to=true→False)
 | 0,S,i,h,hi,hk=>by
  have:=h.met.ok.le
  omega
 | k+1,S,i,h,hi,hk=>by
  rw[C0]
  by_cases hl:i<S.list.length
  ·rw[if_pos hl]
   cases hg:inB (Ao n (nth S.list (i:Int)).domain) to with
   | true =>
    rw[if_pos rfl]
    refine⟨fun _=>?_,fun hf=>by cases hf⟩
    have hH:=h.walk i hl
    obtain ⟨m,hm,hw⟩:=hH.walk
    rw[← Zp]at hm
    refine⟨m,_,hw,hg,?_,hH,fun m' x' hw' hg'=>?_⟩
    ·show (backT S.list (i:Int)).length=_
     rw[← Zp]
     exact hm
    ·refine h.none (M:=m) (fun b hb hbm=>?_) hw' hg'
     by_cases hbi:b<i
     ·exact hbi
     ·have:=h.mono i b q_ hb
      omega
   | false =>
    rw[if_neg j_]
    obtain ⟨h1,h2⟩:=h.next hl hg
    exact M7 k _ (i+1) h1 h2 q_
  ·rw[if_neg hl]
   refine⟨fun hf=>(by cases hf),fun _=>⟨rfl,fun m' x' hw' hg'=>?_⟩⟩
   have:=h.none (M:=m'+1) (fun b hb _=>by omega) hw' hg'
   omega
theorem Ahy {n:Net} (hr:Ac n=true) {p:Int} (hp:0≤p∧p.toNat<n.ports.length) (to:Int):SI n p to (beginT n p) 0:=by
 have e:nth n.ports p=n.ports[p.toNat]:=Ad hp.2
 have hv:∀ v∈(nth n.ports p).native::(nth n.ports p).tagged,v≠0→0≤Bl n (nth n.ports p).dev v∧(Bl n (nth n.ports p).dev v).toNat<n.domains.length:=by
  rw[e]
  exact fun v hv h0=>E8 hr hp.2 hv h0
 have key:∀ (l:List Int) (S:Srch),BI n p S (-1)→(∀ v∈l,v∈(nth n.ports p).native::(nth n.ports p).tagged)→BI n p (l.foldl (Es n (nth n.ports p).dev) S) (-1)∧(∀ v∈l,v≠0→HasB (l.foldl (Es n (nth n.ports p).dev) S).list (Bl n (nth n.ports p).dev v,0) 1)∧∃ x,(l.foldl (Es n (nth n.ports p).dev) S).list=S.list++x:=by
  intro l
  induction l with
  | nil=>exact fun S h _=>⟨h,fun _ hx=>(by cases hx),[],by simp⟩
  | cons v l ih =>
   intro S h hl
   rw[List.foldl_cons,Es]
   by_cases h0:v=0
   ·rw[if_pos h0]
    obtain ⟨i1,i2,x,i3⟩:=ih S h (fun w hw=>hl w (by simp[hw]))
    refine⟨i1,fun w hw hw0=>?_,x,i3⟩
    rcases List.mem_cons.1 hw with rfl | hw
    ·exact absurd h0 hw0
    ·exact i2 w hw hw0
   ·rw[if_neg h0]
    have hv1:=hl v y_
    obtain ⟨m1,m2,x,m3⟩:=h.meet (a:=-1) q_ (hv v hv1 h0) (.inl rfl) (hp:=⟨0,0,Bl n (nth n.ports p).dev v,0⟩) rfl (by rw[Acq];exact .start ⟨v,hv1,h0,rfl⟩)
    obtain ⟨i1,i2,y,i3⟩:=ih _ m1 (fun w hw=>hl w (by simp[hw]))
    refine⟨i1,fun w hw hw0=>?_,x++y,by rw[i3,m3,List.append_assoc]⟩
    rcases List.mem_cons.1 hw with rfl | hw
    ·rw[i3]
     rw[Zo]at m2
     exact m2.app m1.met.bk
    ·exact i2 w hw hw0
 have h0:BI n p (Eg n) (-1):=by
  refine⟨⟨Yv n,fun i hi=>by simp[Eg]at hi,fun f hf=>by simp[Eg]at hf,fun d hd k hk=>?_⟩,fun b c _ hc=>by simp[Eg]at hc,fun b hb=>by simp[Eg]at hb,fun b hb=>by simp[Eg]at hb⟩
  constructor
  ·intro hm
   have:Jg (Eg n) d k=false:=by
    unfold Jg Eg
    dsimp only
    split<;>(rw[Ad (by rw[List.length_replicate];exact hd.2)];simp)
   rw[this]at hm
   cases hm
  ·rintro ⟨f,hf,_⟩
   simp[Eg]at hf
 obtain ⟨i1,i2,x,i3⟩:=key ((nth n.ports p).native::(nth n.ports p).tagged) (Eg n) h0 (fun v hv=>hv)
 refine⟨i1.met,i1.mono,fun hl b hb=>?_,i1.walk,fun j hj=>by omega,?_,fun j hj=>by omega⟩
 ·have h1:=i1.bnd b hb
  rw[Zo]at h1
  show lnC (beginT n p).list (b:Int)≤_
  have h1:lnC (beginT n p).list (b:Int)≤0+1:=h1
  omega
 ·rintro y ⟨v,hv,h0,rfl⟩
  exact i2 v hv h0
theorem Qn {n:Net} {p to:Int}:((wayT n p to).2=true→Ac n=true∧Ei n p=true∧Ei n to=true∧p≠to∧∃ m x,Walk n p m x∧inB (Ao n x.1) to=true∧(wayT n p to).1.length=m+1∧HWay n p (wayT n p to).1 x∧∀ m' x',Walk n p m' x'→inB (Ao n x'.1) to=true→m≤m') ∧
  ((wayT n p to).2=false→(wayT n p to).1=[]∧(Ac n=true→Ei n p=true→Ei n to=true→p≠to→∀ m' x',Walk n p m' x'→inB (Ao n x'.1) to=true→False)):=by
 rw[wayT]
 split
 ·rename_i hc
  obtain ⟨s1,s2⟩:=M7 (2 * n.domains.length+1) (beginT n p) 0 (Ahy hc.2.2.2 (I6 hc.1) to) (Nat.zero_le _) q_
  exact⟨fun h=>⟨hc.2.2.2,hc.1,hc.2.1,hc.2.2.1,s1 h⟩,fun h=>⟨(s2 h).1,fun _ _ _ _=>(s2 h).2⟩⟩
 ·rename_i hc
  exact⟨fun h=>(by cases h),fun _=>⟨rfl,fun h1 h2 h3 h4=>absurd ⟨h2,h3,h4,h1⟩ hc⟩⟩
def emptyN:Net:=⟨[],[],[],[],[],[],[],[]⟩
def fitsB (n:Net) (l:LineM) (k:Int):Bool:=l.kind == k && (B0 l && Ac n)
def Cb (n:Net) (s:ByteArray):Int:=Bd (fun d:Device=>d.name == s) n.devices
def Qu (n:Net) (dev:Int) (s:ByteArray):Int:=Bd (fun p:Port=>p.dev == dev && p.name == s) n.ports
def Afs (n:Net) (dev:Int) (s:ByteArray):Int:=Bd (fun v:Vrf=>v.dev == dev && v.name == s) n.vrfs
def putDevice (n:Net) (l:LineM):Net × Int :=
 if fitsB n l 1=false then (emptyN,2) else if n.devices.any (fun d=>d.name == l.dev || d.mac == l.mac)=true then (emptyN,30) else if n.devices.length=8 then (emptyN,3)
 else ({ n with devices:=n.devices++[⟨l.row,l.num,l.dev,l.mac,0⟩] },0)
def Ck (dev:Int) (ds:List Domain) (v:Int):List Domain:=if 0<v∧ds.any (fun d=>d.dev == dev && d.vlan == v)=false then ds++[⟨dev,v,0,-1,0,[]⟩] else ds
def A3 (dev:Int) (ds:List Domain) (l:List Int):List Domain:=l.foldl (Ck dev) ds
def putPort (n:Net) (l:LineM):Net × Int :=
 if fitsB n l 2=false then (emptyN,2) else if Cb n l.dev<0 then (emptyN,31) else if 0≤Qu n (Cb n l.dev) l.port then (emptyN,30) else if n.ports.length=40 then (emptyN,3)
 else if 48<(A3 (Cb n l.dev) n.domains (l.vlan::l.tagged)).length then (emptyN,3)
 else ({ n with ports:=n.ports++[⟨l.row,Cb n l.dev,l.vlan,l.cost,-1,l.port,l.tagged⟩],domains:=A3 (Cb n l.dev) n.domains (l.vlan::l.tagged) },0)
def endI (n:Net) (dev port:ByteArray):Int:=if Cb n dev<0 then -1 else Qu n (Cb n dev) port
def Hj (l:List Port) (i k:Int):List Port:=l.set i.toNat { nth l i with link:=k }
def putLink (n:Net) (l:LineM):Net × Int :=
 if fitsB n l 3=false then (emptyN,2) else
 let a:=endI n l.dev l.port
 let b:=endI n l.peer l.far
 if a<0∨b<0 then (emptyN,31) else if (nth n.ports a).dev=(nth n.ports b).dev∨0≤(nth n.ports a).link∨0≤(nth n.ports b).link then (emptyN,33) else if n.links.length=20 then (emptyN,3)
 else ({ n with ports:=Hj (Hj n.ports a n.links.length) b n.links.length,links:=n.links++[⟨l.row,a,b⟩] },0)
def X1 (n:Net) (d mac:Int):Int:=Bd (fun s:Static=>s.domain == d && s.mac == mac) n.statics
def putStatic (n:Net) (l:LineM):Net × Int :=
 if fitsB n l 4=false then (emptyN,2) else
 let dev:=Cb n l.dev
 let port:=Qu n dev l.port
 let dom:=Dn n dev l.vlan
 if dev<0∨port<0 then (emptyN,31) else if dom<0∨B5 (nth n.ports port) l.vlan=false then (emptyN,32) else if 0≤X1 n dom l.mac then (emptyN,30) else if n.statics.length=64 then (emptyN,3)
 else ({ n with statics:=n.statics++[⟨l.row,dom,port,l.mac⟩] },0)
def C3 (n:Net) (a:Int):Int:=Bd (fun d:Device=>d.vtep == a) n.devices
def J3 (n:Net) (dev vni:Int):Int:=Bd (fun d:Domain=>d.dev == dev && (d.vni == vni && vni != 0)) n.domains
def Eh (n:Net) (dev vni:Int):Int:=Bd (fun f:Flood=>f.dev == dev && f.vni == vni) n.floods
def begT (n:Net) (l:LineM) (k:Int):Int × Int:=if fitsB n l k=false then (0,2) else if Cb n l.dev<0 then (0,31) else (Cb n l.dev,0)
def Ip (l:List Device) (i a:Int):List Device:=l.set i.toNat { nth l i with vtep:=a }
def putVtep (n:Net) (l:LineM):Net × Int :=
 if (begT n l 5).2≠0 then (emptyN,(begT n l 5).2) else
 let dev:=(begT n l 5).1
 if (nth n.devices dev).vtep≠0∨0≤C3 n l.addr then (emptyN,30) else ({ n with devices:=Ip n.devices dev l.addr },0)
def putVni (n:Net) (l:LineM):Net × Int :=
 if (begT n l 6).2≠0 then (emptyN,(begT n l 6).2) else
 let dev:=(begT n l 6).1
 let at_:=Dn n dev l.vlan
 if (nth n.devices dev).vtep=0 then (emptyN,35) else if at_<0 then (emptyN,32) else if (nth n.domains at_).vni≠0∨0≤J3 n dev l.num then (emptyN,30)
 else ({ n with domains:=n.domains.set at_.toNat { nth n.domains at_ with vni:=l.num,row:=l.row } },0)
def putFlood (n:Net) (l:LineM):Net × Int :=
 if (begT n l 7).2≠0 then (emptyN,(begT n l 7).2) else
 let dev:=(begT n l 7).1
 if J3 n dev l.num<0 then (emptyN,31) else if 0≤Eh n dev l.num then (emptyN,30) else if inB l.addrs (nth n.devices dev).vtep=true then (emptyN,36) else if n.floods.length=48 then (emptyN,3)
 else ({ n with floods:=n.floods++[⟨l.row,dev,l.num,l.addrs⟩] },0)
def putVrf (n:Net) (l:LineM):Net × Int :=
 if (begT n l 8).2≠0 then (emptyN,(begT n l 8).2) else
 let dev:=(begT n l 8).1
 if 0≤Afs n dev l.name then (emptyN,30) else if n.vrfs.length=16 then (emptyN,3)
 else ({ n with vrfs:=n.vrfs++[⟨l.row,dev,l.name,l.imports,l.exports⟩] },0)
def Qv (a bits x:Int):Bool:=decide (0≤bits) && (decide (bits≤32) && B2 a bits == B2 x bits)
def clashB (n:Net) (dev a bits:Int) (x:Irb):Bool:=x.addr == a || ((nth n.vrfs x.vrf).dev != dev && (Qv x.addr x.bits a || Qv a bits x.addr))
def putIrb (n:Net) (l:LineM):Net × Int :=
 if (begT n l 9).2≠0 then (emptyN,(begT n l 9).2) else
 let dev:=(begT n l 9).1
 let vrf:=Afs n dev l.name
 let at_:=Dn n dev l.vlan
 if vrf<0 then (emptyN,31) else if at_<0 then (emptyN,32) else if 0≤(nth n.domains at_).irb∨n.irbs.any (clashB n dev l.addr l.bits)=true then (emptyN,37)
 else ({ n with domains:=n.domains.set at_.toNat { nth n.domains at_ with irb:=n.irbs.length },irbs:=n.irbs++[⟨l.row,at_,vrf,l.addr,l.bits⟩] },0)
def putT (n:Net) (l:LineM):Net × Int :=
 if l.kind=1 then putDevice n l else if l.kind=2 then putPort n l else if l.kind=3 then putLink n l else if l.kind=4 then putStatic n l else if l.kind=5 then putVtep n l
 else if l.kind=6 then putVni n l else if l.kind=7 then putFlood n l else if l.kind=8 then putVrf n l else if l.kind=9 then putIrb n l else (emptyN,2)
def agreeA (n:Net) (f:Flood) (a:Int):Bool :=
 let dev:=C3 n a
 decide (0≤dev) && (a != 0 && (decide (0≤J3 n dev f.vni) && (decide (0≤Eh n dev f.vni) &&
  (inB (nth n.floods (Eh n dev f.vni)).addrs (nth n.devices f.dev).vtep && f.addrs.all fun b=>b == a || inB (nth n.floods (Eh n dev f.vni)).addrs b))))
def agreesB (n:Net) (f:Flood):Bool:=decide (0≤J3 n f.dev f.vni) && f.addrs.all (agreeA n f)
def peersT (n:Net) (d:Domain):List Int:=if d.vni≠0∧0≤Eh n d.dev d.vni then (nth n.floods (Eh n d.dev d.vni)).addrs.map (fun a=>J3 n (C3 n a) d.vni) else []
def Dw (n:Net):Net:={ n with domains:=n.domains.map fun d=>{ d with peers:=peersT n d } }
def meshNT (n:Net):Net × Int × Int :=
 if Ac n=false then (emptyN,0,2) else match n.floods.find? (fun f=>!(agreesB n f)) with
 | some f=>(emptyN,f.row,36)
 | none=>if Ac (Dw n)=false then (emptyN,0,36) else (Dw n,0,0)
def Bw (f:List Int):Prop:=∀ i (h:i<f.length),0≤f[i]∧f[i]≤i
def Yo:Nat→List Int→Int→List Int × Int
 | 0,f,i=>(f,i)
 | k+1,f,i=>if nth f i=i then (f,i) else Yo k (f.set i.toNat (nth f (nth f i))) (nth f (nth f i))
def Hd (f:List Int) (i:Int):List Int × Int:=Yo (i.toNat+1) f i
def Ma (f:List Int) (a b:Int):List Int × Bool :=
 let x:=Hd f a
 let y:=Hd x.1 b
 (y.1.set (max x.2 y.2).toNat (min x.2 y.2),x.2 != y.2)
def If (k:Nat):List Int:=(List.range k).map fun i:Nat=>(i:Int)
def B6 (n:Net) (f:List Int) (i:Int) (v:Int):List Int:=if (linkDomT n i v).2=true then (Ma f (Dn n (nth n.ports i).dev v) (linkDomT n i v).1).1 else f
def Dv (n:Net) (f:List Int) (i:Nat):List Int:=((nth n.ports i).tagged++[(nth n.ports i).native]).foldl (fun f v=>B6 n f i v) f
def Ld (n:Net) (f:List Int):List Int:=(List.range n.ports.length).foldl (Dv n) f
def Vr:Int→List Int→Int
 | m,[]=>m
 | m,x::l=>Vr (min m x) l
def Zl (l:List Int):Int:=Vr (nth l 0) (l.drop 1)
def Qz (n:Net):List Int→Nat→List Domain→Int × Bool
 | _,_,[]=>(0,false)
 | f,i,d::r=>if d.peers=[] then Qz n f (i+1) r else
  let x:=Ma f i ((n.domains.length:Int)+min (i:Int) (Zl d.peers))
  if x.2=false then (d.row,true) else Qz n x.1 (i+1) r
def loopT (n:Net):Int × Bool:=if Ac n=false then (0,false) else Qz n (Ld n (If (2 * n.domains.length))) 0 n.domains
def finishT (n:Net):Net × Int × Int:=if (meshNT n).2.2≠0 then meshNT n else if (loopT (meshNT n).1).2=true then (emptyN,(loopT (meshNT n).1).1,38) else ((meshNT n).1,0,0)
def Cu:Net→List LineM→Net × Int × Int
 | n,[]=>finishT n
 | n,l::r=>if (putT n l).2≠0 then (emptyN,l.row,(putT n l).2) else Cu (putT n l).1 r
def B4 (l:List LineM):Net × Int × Int:=Cu emptyN l
theorem Adb {α:Type} [Inhabited α] (l:List α) (x:α) {i:Int} (h:i.toNat<l.length):nth (l++[x]) i=nth l i:=by
 rw[nth,nth,List.getElem?_append_left h]
theorem Wm {α:Type} [Inhabited α] (l:List α) (x:α):nth (l++[x]) (l.length:Int)=x:=by
 rw[nth,Int.toNat_natCast,List.getElem?_append_right (Nat.le_refl _),Nat.sub_self];rfl
theorem Agj {α:Type} [Inhabited α] (l:List α) (x:α) {i:Int} {j:Nat} (h:i.toNat≠j):nth (l.set j x) i=nth l i:=by
 rw[nth,nth,List.getElem?_set_ne (fun e=>h e.symm)]
theorem Agk {α:Type} [Inhabited α] (l:List α) (x:α) {j:Nat} (h:j<l.length):nth (l.set j x) (j:Int)=x:=by
 rw[nth,Int.toNat_natCast,List.getElem?_set_self h];rfl
theorem Ok {α:Type} [Inhabited α] (l:List α) {i:Int} {j:Nat} (h:i.toNat=j):nth l i=nth l (j:Int):=by
 rw[nth,nth,h,Int.toNat_natCast]
theorem K0 {α:Type} [Inhabited α] (l:List α) (i:Nat) (h:i<l.length):l[i]=nth l (i:Int):=(Ad (i:=(i:Int)) h).symm
structure NetR (n:Net):Prop where
 few:Ae8 n=true
 bare:∀ i:Nat,i<n.domains.length→K6 n i (nth n.domains i)=true
 peers:∀ i:Nat,i<n.domains.length→Xl n i (nth n.domains i)=true
 port:∀ i:Nat,i<n.ports.length→Ki n i (nth n.ports i)=true
 link:∀ i:Nat,i<n.links.length→Wq n i (nth n.links i)=true
 static:∀ i:Nat,i<n.statics.length→M2 n (nth n.statics i)=true
 flood:∀ i:Nat,i<n.floods.length→K1 n (nth n.floods i)=true
 vrf:∀ i:Nat,i<n.vrfs.length→Aft n (nth n.vrfs i)=true
 irb:∀ i:Nat,i<n.irbs.length→Zx n i (nth n.irbs i)=true
theorem Ah5 {α:Type} [Inhabited α] {p:Nat→α→Bool} {l:List α}:Do p l=true↔∀ i:Nat,i<l.length→p i (nth l i)=true:=by
 rw[allB_iff]
 constructor
 ·intro h i hi
  rw[← K0 l i hi];exact h i hi
 ·intro h i hi
  rw[K0 l i hi];exact h i hi
theorem netR_iff {n:Net}:Ac n=true↔NetR n:=by
 simp only[Ac,Bool.and_eq_true,Ah5]
 constructor
 ·rintro ⟨⟨⟨⟨⟨⟨⟨⟨a,b⟩,c⟩,d⟩,e⟩,f⟩,g⟩,h⟩,i⟩
  exact⟨a,b,c,d,e,f,g,h,i⟩
 ·rintro ⟨a,b,c,d,e,f,g,h,i⟩
  exact⟨⟨⟨⟨⟨⟨⟨⟨a,b⟩,c⟩,d⟩,e⟩,f⟩,g⟩,h⟩,i⟩
theorem bareB_iff {n:Net} {i:Nat} {d:Domain}:K6 n i d=true↔Ar d.dev n.devices.length=true∧(1≤d.vlan∧d.vlan≤4094)∧(0≤d.vni∧d.vni≤16777215)∧(d.irb=-1∨Ar d.irb n.irbs.length=true∧(nth n.irbs d.irb).domain=i)∧Dn n d.dev d.vlan=i:=by
 simp only[K6,Bool.and_eq_true,Bool.or_eq_true,decide_eq_true_eq,beq_iff_eq]
 constructor
 ·rintro ⟨⟨⟨⟨⟨⟨a,b⟩,c⟩,d⟩,e⟩,f⟩,g⟩
  exact⟨a,⟨b,c⟩,⟨d,e⟩,f,g⟩
 ·rintro ⟨a,⟨b,c⟩,⟨d,e⟩,f,g⟩
  exact⟨⟨⟨⟨⟨⟨a,b⟩,c⟩,d⟩,e⟩,f⟩,g⟩
theorem Z0 {α:Type} (p:α→Bool) (l:List α) (j:Nat) (x:α) (h:∀ y,l[j]? = some y→p x=p y):Bd p (l.set j x)=Bd p l:=by
 have e:(l.set j x).findIdx? p=l.findIdx? p:=by
  induction l generalizing j with
  | nil=>rfl
  | cons z l ih =>
   cases j with
   | zero =>
    rw[List.set_cons_zero,List.findIdx?_cons,List.findIdx?_cons,h z rfl]
   | succ j =>
    rw[List.set_cons_succ,List.findIdx?_cons,List.findIdx?_cons,ih j (fun y hy=>h y (by simpa using hy))]
 rw[Bd,Bd,e]
end Go.Sy.YtjenpnjajjplkaaGreatDoor
namespace Go.Sy.YtjenpnjajjplkaaGreatDoor
open Go.Proofs
attribute [local irreducible] Go.Sy.G Go.Sy.DR
set_option maxRecDepth 20000
set_option maxHeartbeats 8000000
def Z8 (n:Net) (f:Int) (d:Int):ByteArray:=Ct [tFrom,Bj n f,Cj n d] ⟨#[32]⟩
def toT (n:Net) (t:Int):ByteArray:=Ct [tTo,Bj n t] ⟨#[32]⟩
def explainT (n:Net) (f t:Int):List ByteArray × Int :=
 if Ac n=false then ([],2) else if (wayT n f t).2=false then ([],31)
 else (Z8 n f (nth (wayT n f t).1 0).domain::(((wayT n f t).1.drop 1).map (rowT n)++[toT n t]),0)
theorem S2 (n:Net) (hn:n.Fin) (hu:Bp n) (hnm:Hc n) (f t:Int) :
  Sy.Spec Tryz.prog 28 [Ae n,Aa f,Aa t] [] (.tup [.sl 1 Ak (explainT n f t).1,Aa (explainT n f t).2]) []:=cT F28 Tryz.ntmps28 fun F hF=>by
 have hlk:=explainT.eq_1 n f t
 generalize explainT n f t=res at *
 have hr:=Aw n hn
 have q0:=wayS n hn hu f t
 have hfa:=T0 (n:=n) hu (from_:=f) (to:=t)
 ((conv=>whnf);repeat((first|refine aF ?_|refine aT ?_);(first|refine rG Γ hm ?_|refine rD Γ hm z_ ?_);conv=>whnf))
 refine A1 3 8 (Ae n) E E E ?_
 ((first|refine rG Γ hm ?_|refine rD Γ hm z_ ?_);(conv=>whnf);repeat((first|refine aF ?_|refine aT ?_);(first|refine rG Γ hm ?_|refine rD Γ hm z_ ?_);conv=>whnf))
 refine c0 hr F25 ?_
 cases hb:Ac n
 ·rw[if_pos hb]at hlk
  subst hlk
  ((first|refine rG Γ hm ?_|refine rD Γ hm z_ ?_);(conv=>whnf);repeat((first|refine aF ?_|refine aT ?_);(first|refine rG Γ hm ?_|refine rD Γ hm z_ ?_);conv=>whnf))
  refine Ci 6 1 Ak E ?_
  ((first|refine rG Γ hm ?_|refine rD Γ hm z_ ?_);(conv=>whnf);repeat((first|refine aF ?_|refine aT ?_);(first|refine rG Γ hm ?_|refine rD Γ hm z_ ?_);conv=>whnf))
  exact dN
 rw[if_neg (by simp[hb])]at hlk
 have hD:=(Wz hb).2.2.2.1
 generalize wayT n f t=wy at *
 obtain ⟨l,ok⟩:=wy
 dsimp only at hlk q0 hfa
 ((first|refine rG Γ hm ?_|refine rD Γ hm z_ ?_);(conv=>whnf);repeat((first|refine aF ?_|refine aT ?_);(first|refine rG Γ hm ?_|refine rD Γ hm z_ ?_);conv=>whnf))
 refine c0 q0 F30 ?_
 cases ok
 ·rw[if_pos rfl]at hlk
  subst hlk
  ((first|refine rG Γ hm ?_|refine rD Γ hm z_ ?_);(conv=>whnf);repeat((first|refine aF ?_|refine aT ?_);(first|refine rG Γ hm ?_|refine rD Γ hm z_ ?_);conv=>whnf))
  refine Ci 6 1 Ak E ?_
  ((first|refine rG Γ hm ?_|refine rD Γ hm z_ ?_);(conv=>whnf);repeat((first|refine aF ?_|refine aT ?_);(first|refine rG Γ hm ?_|refine rD Γ hm z_ ?_);conv=>whnf))
  exact dN
 rw[if_neg y_]at hlk
 obtain ⟨h1,h2,h3,_⟩:=hfa rfl
 have hl0:(0:Int).toNat<l.length:=by
  have:=List.length_pos_iff.2 h3
  simpa using this
 rw[Ad hl0]at hlk
 obtain ⟨x,hx⟩:∃ x,l[(0:Int).toNat]'hl0=x:=⟨_,rfl⟩
 rw[hx]at hlk
 have q1:=Ht n hn hnm f
 have q2:=U7 n hn hnm x.domain
 have q3:=Ht n hn hnm t
 have s1:=H5 hnm f
 have s2:=Q9 hnm x.domain
 have s3:=H5 hnm t
 have qr:=fun h hh=>Aad n hn hnm hb h hh
 rw[Z8,toT]at hlk
 generalize Bj n f=pf at *
 generalize Cj n x.domain=dx at *
 generalize Bj n t=pt at *
 have w1:=Tz [tFrom,pf,dx] y_ (by show 4+(pf.size+(dx.size+0))≤_;omega)
 have w2:=Tz [tTo,pt] y_ (by show 2+(pt.size+0)≤_;omega)
 generalize Ct [tFrom,pf,dx] ⟨#[32]⟩=r1 at *
 generalize Ct [tTo,pt] ⟨#[32]⟩=r2 at *
 ((first|refine rG Γ hm ?_|refine rD Γ hm z_ ?_);(conv=>whnf);repeat((first|refine aF ?_|refine aT ?_);(first|refine rG Γ hm ?_|refine rD Γ hm z_ ?_);conv=>whnf))
 refine cD q1 F89 ?_
 ((first|refine rG Γ hm ?_|refine rD Γ hm z_ ?_);(conv=>whnf);repeat((first|refine aF ?_|refine aT ?_);(first|refine rG Γ hm ?_|refine rD Γ hm z_ ?_);conv=>whnf))
 refine⟨E,by decide,hl0,?_⟩
 rw[hx]
 ((conv=>whnf);repeat((first|refine aF ?_|refine aT ?_);(first|refine rG Γ hm ?_|refine rD Γ hm z_ ?_);conv=>whnf))
 refine cD q2 F90 ?_
 ((first|refine rG Γ hm ?_|refine rD Γ hm z_ ?_);(conv=>whnf);repeat((first|refine aF ?_|refine aT ?_);(first|refine rG Γ hm ?_|refine rD Γ hm z_ ?_);conv=>whnf))
 refine Hi [34] w1 F88 E (.cons (.lit E E E) .nil) E z_ E ?_
 ((first|refine rG Γ hm ?_|refine rD Γ hm z_ ?_);(conv=>whnf);repeat((first|refine aF ?_|refine aT ?_);(first|refine rG Γ hm ?_|refine rD Γ hm z_ ?_);conv=>whnf))
 refine⟨z_,?_⟩
 ((conv=>whnf);repeat((first|refine aF ?_|refine aT ?_);(first|refine rG Γ hm ?_|refine rD Γ hm z_ ?_);conv=>whnf))
 refine A2 (Mc (lo:=1) (hi:=l.length) Γ.toTy E E E E (.inr ⟨_,_,E,E⟩) (.inl ⟨E,E⟩) (List.length_pos_iff.2 h3) (Nat.le_refl _)) E E ?_
 rw[List.take_length]
 have hmem:∀ h∈l.drop 1,HopOK n h:=fun h hh=>h1 h (List.mem_of_mem_drop hh)
 have hdl:(l.drop 1).length≤100:=by rw[List.length_drop];omega
 generalize l.drop 1=m at *
 ((first|refine rG Γ hm ?_|refine rD Γ hm z_ ?_);(conv=>whnf);repeat((first|refine aF ?_|refine aT ?_);(first|refine rG Γ hm ?_|refine rD Γ hm z_ ?_);conv=>whnf))
 refine Aid 36 Ak [r1] E E ?_
 refine By m.length (fun j=>[(2,Aa t),(3,.ref 8 (Ae n) 0),(10,.osl 1000),(38,.sl 4 B7 m),(39,Aa m.length),(40,Aa j)]) (fun j=>[(1000,.row 1 Ak (r1::(m.take j).map (rowT n)))]) [(1000,36)]
  ⟨⟨rfl,rfl,rfl,rfl,rfl,rfl,rfl,rfl,rfl,rfl,rfl,rfl,trivial⟩,⟨.inl rfl,rfl,trivial⟩,rfl,rfl⟩ ?_
 intro j hj
 ((first|refine rG Γ hm ?_|refine rD Γ hm z_ ?_);(conv=>whnf);repeat((first|refine aF ?_|refine aT ?_);(first|refine rG Γ hm ?_|refine rD Γ hm z_ ?_);conv=>whnf))
 refine⟨fun h=>?_,fun h=>?_⟩
 ·have hlt:j<m.length:=by simpa using h
  have hj0:((j:Nat):Int).toNat<m.length:=by simpa using hlt
  obtain ⟨hp,hhp⟩:∃ hp,m[((j:Nat):Int).toNat]'hj0=hp:=⟨_,rfl⟩
  have q:=qr hp (by rw[← hhp];exact hmem _ (List.getElem_mem _))
  have hs:r1::(m.take j).map (rowT n)++[rowT n hp]=r1::(m.take (j+1)).map (rowT n):=by
   rw[List.take_add_one,List.getElem?_eq_getElem hlt,List.map_append,List.cons_append]
   congr 2
   simp only[Option.toList,List.map_cons,List.map_nil]
   congr 2
   exact hhp.symm
  generalize rowT n hp=rw_ at *
  ((first|refine rG Γ hm ?_|refine rD Γ hm z_ ?_);(conv=>whnf);repeat((first|refine aF ?_|refine aT ?_);(first|refine rG Γ hm ?_|refine rD Γ hm z_ ?_);conv=>whnf))
  refine⟨E,by omega,hj0,?_⟩
  rw[hhp]
  ((conv=>whnf);repeat((first|refine aF ?_|refine aT ?_);(first|refine rG Γ hm ?_|refine rD Γ hm z_ ?_);conv=>whnf))
  refine c0 q F91 ?_
  ((first|refine rG Γ hm ?_|refine rD Γ hm z_ ?_);(conv=>whnf);repeat((first|refine aF ?_|refine aT ?_);(first|refine rG Γ hm ?_|refine rD Γ hm z_ ?_);conv=>whnf))
  refine A2 (Ai Γ.toTy 49 E E E E E (.row E) (.lit (e:=Ak) (l:=[rw_]) E E) y_ (by simp;omega) (by simp;omega)) E E ?_
  ((first|refine rG Γ hm ?_|refine rD Γ hm z_ ?_);(conv=>whnf);repeat((first|refine aF ?_|refine aT ?_);(first|refine rG Γ hm ?_|refine rD Γ hm z_ ?_);conv=>whnf))
  refine iL ?_
  ((conv=>whnf);repeat((first|refine aF ?_|refine aT ?_);(first|refine rG Γ hm ?_|refine rD Γ hm z_ ?_);conv=>whnf))
  exact Bs [(1000,49)] hlt ⟨⟨E,E,E,E,E,E,E,E,E,E,E,E,Y⟩,⟨.inl (congrArg (Ob.row 1 Ak) hs.symm),E,Y⟩,E,E⟩
 ·have:j=m.length:=qB h
  subst this
  rw[List.take_length]
  subst hlk
  ((first|refine rG Γ hm ?_|refine rD Γ hm z_ ?_);(conv=>whnf);repeat((first|refine aF ?_|refine aT ?_);(first|refine rG Γ hm ?_|refine rD Γ hm z_ ?_);conv=>whnf))
  first | refine c0 q3 F89 ?_ | refine cD q3 F89 ?_
  ((first|refine rG Γ hm ?_|refine rD Γ hm z_ ?_);(conv=>whnf);repeat((first|refine aF ?_|refine aT ?_);(first|refine rG Γ hm ?_|refine rD Γ hm z_ ?_);conv=>whnf))
  first | refine Mh [55] w2 F88 rfl (.cons (.lit rfl rfl rfl) .nil) rfl rfl rfl ?_ | refine Hi [55] w2 F88 rfl (.cons (.lit rfl rfl rfl) .nil) rfl z_ rfl ?_
  ((first|refine rG Γ hm ?_|refine rD Γ hm z_ ?_);(conv=>whnf);repeat((first|refine aF ?_|refine aT ?_);(first|refine rG Γ hm ?_|refine rD Γ hm z_ ?_);conv=>whnf))
  first | refine A2 (Ai Γ.toTy 58 rfl rfl rfl rfl rfl (.row rfl) (.lit (e:=Ak) (l:=[r2]) rfl rfl) y_ (by simp;omega) (by simp;omega)) rfl rfl ?_ | refine Dr (Ai Γ.toTy 58 rfl rfl rfl rfl rfl (.row rfl) (.lit (e:=Ak) (l:=[r2]) rfl rfl) y_ (by simp;omega) (by simp;omega)) z_ rfl ?_
  ((first|refine rG Γ hm ?_|refine rD Γ hm z_ ?_);(conv=>whnf);repeat((first|refine aF ?_|refine aT ?_);(first|refine rG Γ hm ?_|refine rD Γ hm z_ ?_);conv=>whnf))
  first | (refine⟨z_,?_⟩;((conv=>whnf);repeat((first|refine aF ?_|refine aT ?_);(first|refine rG Γ hm ?_|refine rD Γ hm z_ ?_);conv=>whnf))) | skip
  refine Ah 58 E ?_
  ((first|refine rG Γ hm ?_|refine rD Γ hm z_ ?_);(conv=>whnf);repeat((first|refine aF ?_|refine aT ?_);(first|refine rG Γ hm ?_|refine rD Γ hm z_ ?_);conv=>whnf))
  exact dN
end Go.Sy.YtjenpnjajjplkaaGreatDoor
