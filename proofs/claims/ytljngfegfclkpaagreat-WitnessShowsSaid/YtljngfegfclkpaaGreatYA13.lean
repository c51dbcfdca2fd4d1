/-
  BN2 D5 D6 E16 E17 E18 E20 E22 E23 E24 E25 E26 E27 E28 E30 E31 D3 D4 D7 D8 D9 D10 BF1 E32 E19 E33 E34 BF2 WS2: parts of a proof, joined by program.
-/
import Derived.Test.YtljngfegfclkpaaGreatYA11
import Derived.Test.YtljngfegfclkpaaGreatYA9
import Derived.Test.YtljngfegfclkpaaGreatYA5
import Derived.Test.YtljngfegfclkpaaGreatYA8
import Derived.Test.YtljngfegfclkpaaGreatYA7
import Derived.Test.YtljngfegfclkpaaGreatYA10
set_option linter.all false
set_option linter.unusedVariables false
set_option linter.unusedSimpArgs false
set_option linter.deprecated false
namespace Go.Sy.YtljngfegfclkpaaGreat
open Go.Proofs
theorem empty_num:emptyN.Num:=⟨λ d hd=>(by cases hd),λ d hd=>(by cases hd)⟩
theorem An5 {n:Net} {l:LineM} (hv:∀ d∈n.devices,0≤d.vtep∧d.vtep<4294967296) (hl:LineW l):∀ d∈(putT n l).1.devices,0≤d.vtep∧d.vtep<4294967296:=by
 have same:∀ {m:Net},m.devices=n.devices→∀ d∈m.devices,0≤d.vtep∧d.vtep<4294967296:=λ {m} h d hd=>hv d (by rw[← h];exact hd)
 have e:=empty_num.vtep
 rw[putT]
 split
 ·rw[putDevice]
  repeat' split
  all_goals (try exact e)
  intro d hd
  rcases yF.1 hd with hd | hd
  ·exact hv d hd
  ·rw[zX.1 hd];exact⟨wG _,by show (0:Int)<_;decide⟩
 split
 ·rw[putPort]
  repeat' split
  all_goals (first | exact e | exact same rfl)
 split
 ·rw[putLink]
  dsimp only
  repeat' split
  all_goals (first | exact e | exact same rfl)
 split
 ·rw[putStatic]
  dsimp only
  repeat' split
  all_goals (first | exact e | exact same rfl)
 split
 ·rw[putVtep]
  dsimp only
  split
  ·exact e
  split
  ·exact e
  intro d hd
  have hd:d∈Vd n.devices (begT n l 5).1 l.addr:=hd
  rcases Ts hd with h | h
  ·exact hv d h
  ·rw[h];exact hl.ok.addr
 split
 ·rw[putVni]
  dsimp only
  repeat' split
  all_goals (first | exact e | exact same rfl)
 split
 ·rw[putFlood]
  dsimp only
  repeat' split
  all_goals (first | exact e | exact same rfl)
 split
 ·rw[putVrf]
  dsimp only
  repeat' split
  all_goals (first | exact e | exact same rfl)
 split
 ·rw[putIrb]
  dsimp only
  repeat' split
  all_goals (first | exact e | exact same rfl)
 exact e
theorem Xw:∀ (l:List LineM) (n:Net),(∀ d∈n.devices,0≤d.vtep∧d.vtep<4294967296)→(∀ x∈l,LineW x)→(B3 n l).2.2=0→∀ d∈(B3 n l).1.devices,0≤d.vtep∧d.vtep<4294967296
 | [],n,hn,_,h=>by
  rw[B3,finishT]at h ⊢
  split at h
  ·rename_i h1;exact zW h h1
  rename_i h1
  rw[zA h1]
  split at h
  ·simp at h
  rename_i h2
  rw[zA h2]
  obtain ⟨e1,_⟩:=Md (n:=n) q_
  dsimp only
  rw[e1]
  exact hn
 | x::l,n,hn,hl,h=>by
  rw[B3]at h ⊢
  split at h
  ·rename_i h1;exact zW h h1
  rename_i h1
  rw[zA h1]
  exact Xw l _ (An5 hn (hl x y_)) (λ y hy=>hl y (by simp[hy])) h
theorem Anx {l:LineM} (hk:l.kind=2) (h:C6 l=true):1≤l.cost∧l.cost≤65535:=by
 have h1:¬ l.kind=1:=by omega
 simp only[C6,Bh,zA h1,zC hk,zB]at h
 exact within_iff.1 h.1.2.1
def Vy (n:Net):Prop:=∀ p∈n.ports,Hl p=false
theorem Z8:Vy emptyN:=λ p hp=>by cases hp
theorem costsK {n:Net} (h:Vy n):Cn n=true:=by
 rw[Cn,yK,wQ]
 intro p hp
 rw[h p hp]
 exact uP
theorem Ajh {l:List Port} {i k:Int} {p:Port} (h:p∈Ex l i k) (hT:∀ p∈l,Hl p=false):Hl p=false:=by
 by_cases hi:i.toNat<l.length
 ·rcases Ts h with h | h
  ·exact hT p h
  ·rw[h];exact show Hl (nth l i)=false from hT _ (Hp hi)
 ·rw[Ex,uG q_]at h
  exact hT p h
theorem Ata {n:Net} {l:LineM} (hv:Vy n):Vy (putT n l).1:=by
 have same:∀ {m:Net},m.ports=n.ports→Vy m:=λ {m} h d hd=>hv d (by rw[← h];exact hd)
 have e:=Z8
 rw[putT]
 split
 ·rw[putDevice]
  repeat' split
  all_goals (first | exact e | exact same rfl)
 split
 ·rename_i h2
  rw[putPort]
  split
  ·exact e
  rename_i hf
  repeat' split
  all_goals (try exact e)
  intro p hp
  rcases yF.1 hp with hp | hp
  ·exact hv p hp
  ·rw[zX.1 hp]
   have hf:fitsB n l 2=true:=by simpa using hf
   rw[fitsB,zB,zB]at hf
   have:=Anx h2 (by simpa using hf.2.1)
   simp only[Hl]
   have a:decide (l.cost<1)=false:=zJ q_
   have b:decide (65535<l.cost)=false:=zJ q_
   simp[a,b]
 split
 ·rw[putLink]
  dsimp only
  repeat' split
  all_goals (try exact e)
  intro p hp
  exact Ajh hp λ q hq=>Ajh hq hv
 split
 ·rw[putStatic]
  dsimp only
  repeat' split
  all_goals (first | exact e | exact same rfl)
 split
 ·rw[putVtep]
  dsimp only
  repeat' split
  all_goals (first | exact e | exact same rfl)
 split
 ·rw[putVni]
  dsimp only
  repeat' split
  all_goals (first | exact e | exact same rfl)
 split
 ·rw[putFlood]
  dsimp only
  repeat' split
  all_goals (first | exact e | exact same rfl)
 split
 ·rw[putVrf]
  dsimp only
  repeat' split
  all_goals (first | exact e | exact same rfl)
 split
 ·rw[putIrb]
  dsimp only
  repeat' split
  all_goals (first | exact e | exact same rfl)
 exact e
theorem Aac:∀ (l:List LineM) (n:Net),Vy n→(B3 n l).2.2=0→Vy (B3 n l).1
 | [],n,hn,h=>by
  rw[B3,finishT]at h ⊢
  split at h
  ·rename_i h1;exact zW h h1
  rename_i h1
  rw[zA h1]
  split at h
  ·simp at h
  rename_i h2
  rw[zA h2]
  obtain ⟨e1,_⟩:=Md (n:=n) q_
  dsimp only
  rw[e1]
  exact hn
 | x::l,n,hn,h=>by
  rw[B3]at h ⊢
  split at h
  ·rename_i h1;exact zW h h1
  rename_i h1
  rw[zA h1]
  exact Aac l _ (Ata hn) h
end Go.Sy.YtljngfegfclkpaaGreat
namespace Go.Sy.YtljngfegfclkpaaGreat
open Go.Proofs
attribute [local irreducible] Go.Sy.G Go.Sy.DR
set_option maxRecDepth 20000
set_option maxHeartbeats 4000000
structure Hop where
 (kind port domain addr:Int)
abbrev Cy (h:Hop):SV:=.agg [Aa h.kind,Aa h.port,Aa h.domain,A8 h.addr]
instance:Inhabited Hop:=⟨⟨0,0,0,0⟩⟩
def U1 (n:Net) (d:Int):Prop:=(0≤d∧d<n.domains.length)∧Ab n=true
instance (n:Net) (d:Int):Decidable (U1 n d):=inferInstanceAs (Decidable (_∧_))
theorem Aj6 (n:Net) (hn:n.Fin) (d:Int):Sp 114 [Aj n,Aa d] (Ac (decide (U1 n d))):=cT F114 Tryz.ntmps114 λ F hF=>by
 have hr:=Av n hn
 refine fW ?_
 constructor<;>intro h
 ·have h1:0≤d:=zK h
  refine Az 2 8 (Aj n) E E E ?_
  refine fU ?_
  constructor<;>intro h
  ·have h2:d<n.domains.length:=zK h
   refine fU ?_
   refine c0 hr F19 ?_
   refine fU ?_
   refine Ap E (.cons .tmp .nil) (zD Ac ?_) E
   cases hb:Ab n<;>simp[U1,h1,h2,hb]
  ·have h2:¬ d<n.domains.length:=zN h
   refine fU ?_
   refine Ap E (.cons .tmp .nil) (zD Ac ?_) E
   simp[U1,h2]
 ·have h1:¬ 0≤d:=zN h
  refine fU ?_
  refine Ap E (.cons .tmp .nil) (zD Ac ?_) E
  simp[U1,h1]
def linkHop (n:Net) (d p:Int):Option Hop:=if (linkDomT n p (nth n.domains d).vlan).2=true then some ⟨1,p,(linkDomT n p (nth n.domains d).vlan).1,0⟩ else none
def Jd (p:Int):Hop:=⟨2,0,p,0⟩
def hopsL (n:Net) (d:Int):List Hop:=(At n d).filterMap (linkHop n d)++(nth n.domains d).peers.map Jd
def C8 (n:Net) (d:Int):List Hop:=if U1 n d then hopsL n d else []
theorem Ahx {n:Net} {d:Int} {l:List Int} {j:Nat} {p:Int} (h:j<l.length) (hp:l[j]=p):(l.take (j+1)).filterMap (linkHop n d) =
  (l.take j).filterMap (linkHop n d)++(match linkHop n d p with | some h=>[h] | none=>[]):=by
 subst hp
 rw[vV,zH h,tX]
 cases hh:linkHop n d l[j]<;>simp[hh]
theorem An1 (n:Net) (hn:n.Fin) (d:Int):Sp 68 [Aj n,Aa d] (.sl 4 Cy (C8 n d)):=cT F68 Tryz.ntmps68 λ F hF=>by
 have hp:=Aj6 n hn d
 have hm2:=Mq n hn d
 have hms:=Je n hn d
 unfold Ak at hms
 refine fW ?_
 refine Az 2 8 (Aj n) E E E ?_
 refine fU ?_
 refine c0 hp F114 ?_
 by_cases hd:U1 n d
 rotate_left
 ·rw[C8,zA hd,zJ hd]
  refine fU ?_
  refine Ao 4 4 Cy E ?_
  refine fU ?_
  exact dN
 rw[C8,zC hd,zL hd]
 have hk:d.toNat<n.domains.length:=by have:=hd.1;omega
 have h0:0≤d:=hd.1.1
 have hpe:=hn.peers _ (zE hk)
 unfold Ak at hpe
 have hh:=hopsL.eq_1 n d
 have hlh:=linkHop.eq_1 n d
 have hsn:=λ j p h hp=>Ahx (n:=n) (d:=d) (l:=At n d) (j:=j) (p:=p) h hp
 have hfl:∀ j,((At n d).take j |>.filterMap (linkHop n d)).length≤(At n d).length:=λ j=>by
  refine wH (uH _ _) ?_
  rw[zU];omega
 have hall:(At n d).take (At n d).length=At n d:=yG
 rw[Ae hk]at hh hlh
 obtain ⟨x,hx⟩:∃ x,n.domains[d.toNat]'hk=x:=⟨_,rfl⟩
 rw[hx]at hh hlh hpe
 generalize hopsL n d=res at *
 generalize At n d=mem at *
 refine fU ?_
 refine c0 hm2 F22 ?_
 refine fU ?_
 refine Co 5 1000 4 Cy E E ?_
 refine A5 mem.length (λ j=>[(1,Aa d),(2,.ref 8 (Aj n) 0),(5,.osl 1000),(18,.sl 1 Aa mem),(19,Aa mem.length),(20,Aa j)]) (λ j=>[(1000,.row 4 Cy ((mem.take j).filterMap (linkHop n d)))]) []
  ⟨⟨rfl,rfl,rfl,rfl,rfl,rfl,rfl,rfl,rfl,rfl,rfl,rfl,trivial⟩,⟨.inl rfl,rfl,trivial⟩,rfl,rfl⟩ ?_
 intro j hj
 have hflj:=hfl j
 refine fU ?_
 constructor<;>intro h
 ·have hlt:j<mem.length:=by simpa using h
  have hj0:((j:Nat):Int).toNat<mem.length:=by simpa using hlt
  obtain ⟨p,hp'⟩:∃ p,mem[((j:Nat):Int).toNat]'hj0=p:=⟨_,rfl⟩
  have hs:=hsn j p hlt hp'
  have q:=Ww n hn p x.vlan
  rw[hlh p]at hs
  generalize linkDomT n p x.vlan=ld at *
  obtain ⟨to,ok⟩:=ld
  refine fU ?_
  refine⟨E,by omega,hj0,?_⟩
  rw[hp']
  refine fW ?_
  refine⟨E,h0,hk,?_⟩
  rw[hx]
  refine fW ?_
  refine cD q F115 ?_
  refine fU ?_
  refine⟨z_,?_⟩
  refine fW ?_
  dsimp only at hs
  refine⟨λ h=>?_,λ h=>?_⟩<;>(have h:ok=_:=h;subst h)
  ·refine fU ?_
   refine Ag (Ah Γ.toTy 42 E E E E E (.row E) (.lit (e:=Cy) (l:=[⟨1,p,to,0⟩]) E E) y_ (by simp;omega) (by simp;omega)) E E ?_
   refine fU ?_
   refine iL ?_
   refine fW ?_
   exact Ax [(1000,42)] hlt ⟨⟨E,E,E,E,E,E,E,E,E,E,E,E,Y⟩,⟨.inl (zD (Ob.row 4 Cy) hs),E,Y⟩,E,E⟩
  ·refine fU ?_
   refine iL ?_
   refine fW ?_
   exact Ax [] hlt ⟨⟨E,E,E,E,E,E,E,E,E,E,E,E,Y⟩,⟨.inl (zD (Ob.row 4 Cy) (hs.trans (xJ _))),E,Y⟩,E,E⟩
 ·have:j=mem.length:=qB h
  subst this
  rw[hall]at hflj ⊢
  generalize mem.filterMap (linkHop n d)=first at *
  refine fU ?_
  refine⟨E,h0,hk,?_⟩
  rw[hx]
  refine fW ?_
  refine A5 x.peers.length (λ j=>[(5,.osl 1000),(49,.sl 1 Aa x.peers),(50,Aa x.peers.length),(51,Aa j)]) (λ j=>[(1000,.row 4 Cy (first++(x.peers.take j).map Jd))]) []
   ⟨⟨rfl,rfl,rfl,rfl,rfl,rfl,rfl,rfl,trivial⟩,⟨.inl (zD (Ob.row 4 Cy) (xJ _)),rfl,trivial⟩,rfl,rfl⟩ ?_
  intro j hj
  refine fU ?_
  constructor<;>intro h
  ·have hlt:j<x.peers.length:=by simpa using h
   have hj0:((j:Nat):Int).toNat<x.peers.length:=by simpa using hlt
   obtain ⟨p,hp'⟩:∃ p,x.peers[((j:Nat):Int).toNat]'hj0=p:=⟨_,rfl⟩
   have hs:(first++(x.peers.take j).map Jd)++[⟨2,0,p,0⟩]=first++(x.peers.take (j+1)).map Jd:=by
    rw[vV,zH hlt,wK,yU]
    congr 2
    simp only[Option.toList,xR,vR,Jd]
    congr 2
    exact hp'.symm
   refine fU ?_
   refine⟨E,by omega,hj0,?_⟩
   rw[hp']
   refine fW ?_
   refine Ag (Ah Γ.toTy 59 E E E E E (.row E) (.lit (e:=Cy) (l:=[⟨2,0,p,0⟩]) E E) y_ (by simp;omega) (by simp;omega)) E E ?_
   refine fU ?_
   refine iL ?_
   refine fW ?_
   exact Ax [(1000,59)] hlt ⟨⟨E,E,E,E,E,E,E,E,Y⟩,⟨.inl (zD (Ob.row 4 Cy) hs.symm),E,Y⟩,E,E⟩
  ·have:j=x.peers.length:=qB h
   subst this
   refine fU ?_
   refine Ai 1000 E ?_
   refine fU ?_
   refine Ap E (.cons .tmp .nil) ?_ E
   rw[hh,yG]
   rfl
structure Lead where
 (to domain addr:Int)
abbrev Lv (l:Lead):SV:=.agg [Aa l.to,Aa l.domain,A8 l.addr]
instance:Inhabited Lead:=⟨⟨0,0,0⟩⟩
def leadF (n:Net) (irb:Int) (i:Nat):Option Lead:=if (addrT n irb i).2=true then some ⟨i,(nth n.irbs i).domain,(addrT n irb i).1⟩ else none
def Ss (n:Net) (irb:Int) (j:Nat):List Lead:=(List.range j).filterMap (leadF n irb)
def routesT (n:Net) (d:Int):List Lead:=if (0≤d∧d<n.domains.length)∧0≤(nth n.domains d).irb∧Ab n=true then Ss n (nth n.domains d).irb n.irbs.length else []
theorem Ak9 (n:Net) (irb:Int) (j:Nat):Ss n irb (j+1)=Ss n irb j++(match leadF n irb j with | some h=>[h] | none=>[]):=by
 rw[Ss,wL,tX]
 cases h:leadF n irb j<;>simp[h,Ss]
theorem Us (n:Net) (irb:Int) (j:Nat):(Ss n irb j).length≤j:=by
 have:=uH (leadF n irb) (List.range j)
 simpa [Ss] using this
theorem Ae0 (n:Net) (hn:n.Fin) (hu:Dd n) (d:Int):Sp 69 [Aj n,Aa d] (.sl 3 Lv (routesT n d)):=cT F69 Tryz.ntmps69 λ F hF=>by
 have hlk:=routesT.eq_1 n d
 generalize routesT n d=res at *
 have hr:=Av n hn
 have hsi:=hn.irbs
 unfold Ak at hsi
 refine fW ?_
 constructor<;>intro h
 ·rw[zA (qA h)]at hlk
  subst hlk
  refine fU ?_
  refine Ao 4 3 Lv E ?_
  refine fU ?_
  exact dN
 have h1:¬ d<0:=zN h
 refine Az 2 8 (Aj n) E E E ?_
 refine fU ?_
 constructor<;>intro h
 ·rw[zA (qA h)]at hlk
  subst hlk
  refine fU ?_
  refine Ao 4 3 Lv E ?_
  refine fU ?_
  exact dN
 have h2:d<n.domains.length:=qB h
 have hk:d.toNat<n.domains.length:=by omega
 rw[Ae hk]at hlk
 obtain ⟨x,hx⟩:∃ x,n.domains[d.toNat]'hk=x:=⟨_,rfl⟩
 rw[hx]at hlk
 refine fU ?_
 refine⟨E,by omega,hk,?_⟩
 rw[hx]
 refine fW ?_
 constructor<;>intro h
 ·rw[zA (qA h)]at hlk
  subst hlk
  refine fU ?_
  refine Ao 4 3 Lv E ?_
  refine fU ?_
  exact dN
 have h3:0≤x.irb:=qB h
 refine fU ?_
 refine c0 hr F19 ?_
 cases hb:Ab n
 ·rw[zA (by simp[hb])]at hlk
  subst hlk
  refine fU ?_
  refine Ao 4 3 Lv E ?_
  refine fU ?_
  exact dN
 rw[zC ⟨⟨by omega,h2⟩,h3,hb⟩]at hlk
 subst hlk
 refine fU ?_
 refine Co 5 1000 3 Lv E E ?_
 refine A5 n.irbs.length (λ j=>[(1,Aa d),(2,.ref 8 (Aj n) 0),(5,.osl 1000),(34,.sl 5 By n.irbs),(35,Aa n.irbs.length),(36,Aa j)]) (λ j=>[(1000,.row 3 Lv (Ss n x.irb j))]) []
  ⟨⟨rfl,rfl,rfl,rfl,rfl,rfl,rfl,rfl,rfl,rfl,rfl,rfl,trivial⟩,⟨.inl rfl,rfl,trivial⟩,rfl,rfl⟩ ?_
 intro j hj
 have hll:=Us n x.irb j
 refine fU ?_
 constructor<;>intro h
 ·have hlt:j<n.irbs.length:=by simpa using h
  have hj0:((j:Nat):Int).toNat<n.irbs.length:=by simpa using hlt
  have q:=Adr n hn hu x.irb j
  have hs:=Ak9 n x.irb j
  have hle:=leadF.eq_1 n x.irb j
  rw[Ae hj0]at hle
  rw[hle]at hs
  obtain ⟨y,hy⟩:∃ y,n.irbs[((j:Nat):Int).toNat]'hj0=y:=⟨_,rfl⟩
  rw[hy]at hs
  generalize addrT n x.irb j=ad at *
  obtain ⟨a,ok⟩:=ad
  dsimp only at hs q
  refine fU ?_
  refine⟨E,by omega,hj0,?_⟩
  rw[hy]
  refine fW ?_
  refine⟨E,by omega,hk,?_⟩
  rw[hx]
  refine fW ?_
  refine cD q F116 ?_
  refine fU ?_
  refine⟨z_,?_⟩
  refine fW ?_
  refine⟨λ h=>?_,λ h=>?_⟩<;>(have h:ok=_:=h;subst h)
  ·refine fU ?_
   refine Ag (Ah Γ.toTy 61 E E E E E (.row E) (.lit (e:=Lv) (l:=[⟨j,y.domain,a⟩]) E E) y_ (by simp;omega) (by simp;omega)) E E ?_
   refine fU ?_
   refine iL ?_
   refine fW ?_
   exact Ax [(1000,61)] hlt ⟨⟨E,E,E,E,E,E,E,E,E,E,E,E,Y⟩,⟨.inl (zD (Ob.row 3 Lv) hs),E,Y⟩,E,E⟩
  ·refine fU ?_
   refine iL ?_
   refine fW ?_
   exact Ax [] hlt ⟨⟨E,E,E,E,E,E,E,E,E,E,E,E,Y⟩,⟨.inl (zD (Ob.row 3 Lv) (hs.trans (xJ _))),E,Y⟩,E,E⟩
 ·have:j=n.irbs.length:=qB h
  subst this
  refine fU ?_
  refine Ai 1000 E ?_
  refine fU ?_
  exact dN
def Ji (n:Net) (i:Int):Bool:=decide (0≤i) && decide (i<n.ports.length) && decide ((nth n.ports i).link<0)
theorem V0 (n:Net) (i:Int):Sp 12 [Aj n,Aa i] (Ac (Ji n i)):=cT F12 Tryz.ntmps12 λ F hF=>by
 refine fW ?_
 constructor<;>intro h
 ·have h1:0≤i:=zK h
  refine Az 2 8 (Aj n) E E E ?_
  refine fU ?_
  constructor<;>intro h
  ·have h2:i<n.ports.length:=zK h
   have hk:i.toNat<n.ports.length:=by omega
   rw[Ji,Ae hk,zL h1,zL h2,zS,zS]
   obtain ⟨p,hp⟩:∃ p,n.ports[i.toNat]'hk=p:=⟨_,rfl⟩
   rw[hp]
   refine fU ?_
   refine⟨E,h1,hk,?_⟩
   rw[hp]
   refine fW ?_
   exact dN
  ·have h2:¬ i<n.ports.length:=zN h
   rw[Ji,zJ h2,wR,zT]
   refine fU ?_
   exact dN
 ·have h1:¬ 0≤i:=zN h
  rw[Ji,zJ h1,zT,zT]
  refine fU ?_
  exact dN
structure Fnd where
 (domain kind:Int) (hop:Hop) (ahead:Int)
abbrev Uy (f:Fnd):SV:=.agg [Aa f.domain,Aa f.kind,Aa f.hop.kind,Aa f.hop.port,Aa f.hop.domain,A8 f.hop.addr,Aa f.ahead]
instance:Inhabited Fnd:=⟨⟨0,0,default,0⟩⟩
structure Srch where
 (m0 m1:List Bool) (list:List Fnd)
abbrev stSV (d k:Int):SV:=.agg [Aa d,Aa k]
abbrev Zi (n:Net) (S:Srch):Obs:=[(0,.box [.sl 5 Aq n.devices,.sl 7 Aw n.ports,.sl 3 Br n.links,.sl 6 An n.domains,.sl 4 As n.statics,.sl 4 A3 n.floods,.sl 5 B5 n.vrfs,.sl 5 By n.irbs,.osl 1,.osl 2,.osl 3]),
 (1,.row 1 Ac S.m0),(2,.row 1 Ac S.m1),(3,.row 7 Uy S.list)]
abbrev V6 (n:Net) (S:Srch):Obs:=[(0,.box [.sl 5 Aq n.devices,.sl 7 Aw n.ports,.sl 3 Br n.links,.sl 6 An n.domains,.sl 4 As n.statics,.sl 4 A3 n.floods,.sl 5 B5 n.vrfs,.sl 5 By n.irbs,.osl 1,.osl 2,.osl 4]),
 (1,.row 1 Ac S.m0),(2,.row 1 Ac S.m1),(3,.non),(4,.row 7 Uy S.list)]
def O2 (S:Srch) (d k:Int):Bool:=if k=0 then nth S.m0 d else nth S.m1 d
def Ls (S:Srch) (d k:Int) (h:Hop) (ahead:Int):Srch :=
 if k=0 then ⟨S.m0.set d.toNat true,S.m1,S.list++[⟨d,k,h,ahead⟩]⟩ else ⟨S.m0,S.m1.set d.toNat true,S.list++[⟨d,k,h,ahead⟩]⟩
def meetT (S:Srch) (d k:Int) (h:Hop) (ahead:Int):Srch:=if O2 S d k=true then S else Ls S d k h ahead
theorem Axf (n:Net) (S:Srch) (d:Int) (h:Hop) (ahead:Int) (hd:0≤d∧d.toNat<S.m0.length) (hl:Ak S.list) :
  Sq 63 [.ptr 0 0,stSV d 0,Cy h,Aa ahead] (Zi n S) (.tup []) (V6 n (meetT S d 0 h ahead)):=cT F63 Tryz.ntmps63 λ F hF=>by
 unfold Ak at hl
 have hlk:=meetT.eq_1 S d 0 h ahead
 rw[O2,zC rfl,Ae hd.2,show Ls S d 0 h ahead=⟨S.m0.set d.toNat true,S.m1,S.list++[⟨d,0,h,ahead⟩]⟩ from zC rfl]at hlk
 generalize meetT S d 0 h ahead=res at *
 refine fW ?_
 refine⟨by decide,by decide,?_⟩
 refine fW ?_
 refine⟨hd.1,hd.2,?_⟩
 refine fW ?_
 refine⟨E,hd.2,?_⟩
 refine fW ?_
 refine⟨z_,?_⟩
 refine fW ?_
 constructor<;>intro h1
 rotate_left
 ·rw[zC (by simpa using h1)]at hlk
  subst hlk
  refine X8 3 1000 E E j_ ?_
  refine fU ?_
  exact A4 E .nil [(4,1000)] (V6 n res) (λ _ h=>h) E E ⟨Y,⟨.inl E,E,.inl E,E,.inl E,E,.inl E,E,.inl E,E,Y⟩,E,E⟩
 rw[zA (by simpa using h1)]at hlk
 subst hlk
 refine fU ?_
 refine⟨by decide,by decide,?_⟩
 refine fW ?_
 refine⟨hd.1,hd.2,?_⟩
 refine fW ?_
 refine⟨E,hd.2,true,E,E,?_⟩
 refine fW ?_
 refine⟨z_,?_⟩
 refine fW ?_
 refine Bs (Ah Γ.toTy 40 E E E E E (.row E) (.lit (e:=Uy) (l:=[⟨d,0,h,ahead⟩]) E E) y_ (by simp;omega) (by simp;omega)) z_ E ?_
 refine fU ?_
 refine⟨z_,?_⟩
 refine fW ?_
 exact A4 E .nil [(4,40)] (V6 n ⟨S.m0.set d.toNat true,S.m1,S.list++[⟨d,0,h,ahead⟩]⟩) (λ _ h=>h) E E ⟨Y,⟨.inl E,E,.inl E,E,.inl E,E,.inl E,E,.inl E,E,Y⟩,E,E⟩
theorem Axe (n:Net) (S:Srch) (d:Int) (h:Hop) (ahead:Int) (hd:0≤d∧d.toNat<S.m1.length) (hl:Ak S.list) :
  Sq 63 [.ptr 0 0,stSV d 1,Cy h,Aa ahead] (Zi n S) (.tup []) (V6 n (meetT S d 1 h ahead)):=cT F63 Tryz.ntmps63 λ F hF=>by
 unfold Ak at hl
 have hlk:=meetT.eq_1 S d 1 h ahead
 rw[show O2 S d 1=nth S.m1 d from zA j_,Ae hd.2,show Ls S d 1 h ahead=⟨S.m0,S.m1.set d.toNat true,S.list++[⟨d,1,h,ahead⟩]⟩ from zA j_]at hlk
 generalize meetT S d 1 h ahead=res at *
 refine fW ?_
 refine⟨by decide,by decide,?_⟩
 refine fW ?_
 refine⟨hd.1,hd.2,?_⟩
 refine fW ?_
 refine⟨E,hd.2,?_⟩
 refine fW ?_
 refine⟨z_,?_⟩
 refine fW ?_
 constructor<;>intro h1
 rotate_left
 ·rw[zC (by simpa using h1)]at hlk
  subst hlk
  refine X8 3 1000 E E j_ ?_
  refine fU ?_
  exact A4 E .nil [(4,1000)] (V6 n res) (λ _ h=>h) E E ⟨Y,⟨.inl E,E,.inl E,E,.inl E,E,.inl E,E,.inl E,E,Y⟩,E,E⟩
 rw[zA (by simpa using h1)]at hlk
 subst hlk
 refine fU ?_
 refine⟨by decide,by decide,?_⟩
 refine fW ?_
 refine⟨hd.1,hd.2,?_⟩
 refine fW ?_
 refine⟨E,hd.2,true,E,E,?_⟩
 refine fW ?_
 refine⟨z_,?_⟩
 refine fW ?_
 refine Bs (Ah Γ.toTy 40 E E E E E (.row E) (.lit (e:=Uy) (l:=[⟨d,1,h,ahead⟩]) E E) y_ (by simp;omega) (by simp;omega)) z_ E ?_
 refine fU ?_
 refine⟨z_,?_⟩
 refine fW ?_
 exact A4 E .nil [(4,40)] (V6 n ⟨S.m0,S.m1.set d.toNat true,S.list++[⟨d,1,h,ahead⟩]⟩) (λ _ h=>h) E E ⟨Y,⟨.inl E,E,.inl E,E,.inl E,E,.inl E,E,.inl E,E,Y⟩,E,E⟩
structure Srch.OK (n:Net) (S:Srch):Prop where
 l0:S.m0.length=n.domains.length
 l1:S.m1.length=n.domains.length
 at_:∀ f∈S.list,(0≤f.domain∧f.domain.toNat<n.domains.length)∧(f.kind=0∨f.kind=1)
 len:S.list.length≤S.m0.count true+S.m1.count true
theorem Srch.OK.le {n:Net} {S:Srch} (h:S.OK n):S.list.length≤2 * n.domains.length:=by
 have h1:S.m0.count true≤S.m0.length:=List.count_le_length
 have h2:S.m1.count true≤S.m1.length:=List.count_le_length
 have:=h.len
 rw[h.l0]at h1
 rw[h.l1]at h2
 omega
theorem count_set {l:List Bool} {i:Nat} (h:i<l.length) (hi:l[i]=false):(l.set i true).count true=l.count true+1:=by
 rw[List.count_set h,hi]
 simp
theorem Srch.OK.meet {n:Net} {S:Srch} (h:S.OK n) {d k:Int} (hd:0≤d∧d.toNat<n.domains.length) (hk:k=0∨k=1) (hp:Hop) (a:Int):(meetT S d k hp a).OK n:=by
 rw[meetT]
 split
 ·exact h
 rename_i hmt
 have h0:d.toNat<S.m0.length:=by rw[h.l0];exact hd.2
 have h1:d.toNat<S.m1.length:=by rw[h.l1];exact hd.2
 rcases hk with rfl | rfl
 ·rw[O2,zC rfl,Ae h0]at hmt
  rw[Ls,zC rfl]
  refine⟨by simp[h.l0],h.l1,λ f hf=>?_,?_⟩
  ·rcases yF.1 hf with hf | hf
   ·exact h.at_ f hf
   ·rw[zX]at hf
    subst hf
    exact⟨hd,.inl E⟩
  ·rw[count_set h0 (by simpa using hmt),zI,zM]
   have:=h.len
   show _≤_+S.m1.count true
   omega
 ·rw[O2,zA j_,Ae h1]at hmt
  rw[Ls,zA j_]
  refine⟨h.l0,by simp[h.l1],λ f hf=>?_,?_⟩
  ·rcases yF.1 hf with hf | hf
   ·exact h.at_ f hf
   ·rw[zX]at hf
    subst hf
    exact⟨hd,.inr E⟩
  ·rw[count_set h1 (by simpa using hmt),zI,zM]
   have:=h.len
   show _≤S.m0.count true+_
   omega
theorem S8 {n:Net} (h:Ab n=true) {i:Nat} (hi:i<n.ports.length) {v:Int} (hv:Ce n.ports[i] v=true):0≤Cq n n.ports[i].dev v∧(Cq n n.ports[i].dev v).toNat<n.domains.length:=by
 have hp:=Apn h hi
 simp only[Iw,zB,yK]at hp
 simp only[Ce,zB,yV,yD,yA]at hv
 have h0:0≤Cq n n.ports[i].dev v:=by
  rcases hv.2 with h1 | h1
  ·have h2:=hp.1.2
   have h3:=hp.1.1.1.1.1.1.1.2
   rw[h1]at hv ⊢
   have h4:decide (0<n.ports[i].native)=true:=by
    simp only[zG]at h3 ⊢
    omega
   rw[h4]at h2
   simpa [D1] using h2
  ·have h2:=hp.1.1.2
   obtain ⟨x,hx,e⟩:=wF.1 h1
   obtain ⟨j,hj,rfl⟩:=yR.1 hx
   have h3:=allB_iff.1 h2 j hj
   simp only[yA]at e
   rw[e]at h3
   simpa [D1] using h3
 refine⟨h0,?_⟩
 have:=Hj (λ d:Domain=>d.dev == n.ports[i].dev && d.vlan == v) n.domains
 have e:Cq n n.ports[i].dev v=Bg (λ d:Domain=>d.dev == n.ports[i].dev && d.vlan == v) n.domains:=rfl
 omega
theorem Ke {n:Net} {i v:Int} (h:(linkDomT n i v).2=true):0≤(linkDomT n i v).1∧(linkDomT n i v).1.toNat<n.domains.length:=by
 unfold linkDomT at h ⊢
 split at h
 ·rename_i hc
  rw[zC hc]
  have hth:=Xp hc
  unfold crossT at hc hth ⊢
  split at hc
  ·rename_i h1
   rw[zC h1]at hth ⊢
   have hb:=(Dx h1.1).2.1
   have h2:=h1.2.2
   rw[C9]at h2 ⊢
   rw[Bt,zC hb]
   dsimp only at hth ⊢
   rw[Ae hth.2]at h2 ⊢
   refine S8 hb hth.2 ?_
   simp only[Ce,zB,yV,yD,yA]
   refine⟨h2,?_⟩
   split
   ·exact .inl E
   ·rename_i h3
    rw[zA h3]at h2
    split
    ·rename_i h4
     exact .inr h4
    ·rename_i h4
     rw[zA h4]at h2
     exact zW E h2
  ·cases hc
 ·cases h
theorem Apo {n:Net} (h:Ab n=true) {i:Nat} (hi:i<n.domains.length) {p:Int} (hp:p∈n.domains[i].peers):0≤p∧p.toNat<n.domains.length:=by
 simp only[Ab,zB]at h
 have h1:=allB_iff.1 h.1.1.1.1.1.1.2 i hi
 obtain ⟨j,hj,rfl⟩:=yR.1 hp
 have h2:=allB_iff.1 h1 j hj
 simp only[M7,Af,zB,zG]at h2
 omega
theorem Kh {n:Net} {d:Int} {h:Hop} (hh:h∈C8 n d):0≤h.domain∧h.domain.toNat<n.domains.length:=by
 rw[C8]at hh
 split at hh
 ·rename_i hd
  have hk:d.toNat<n.domains.length:=by have:=hd.1;omega
  rw[hopsL,Ae hk]at hh
  rcases yF.1 hh with hh | hh
  ·obtain ⟨p,_,hp⟩:=xN.1 hh
   rw[linkHop]at hp
   split at hp
   ·rename_i hl
    simp only[Option.some.injEq]at hp
    subst hp
    exact Ke hl
   ·cases hp
  ·obtain ⟨p,hp,rfl⟩:=yH.1 hh
   exact Apo hd.2 hk hp
 ·cases hh
theorem Lj {n:Net} {d:Int} {q:Lead} (hq:q∈routesT n d):0≤q.domain∧q.domain.toNat<n.domains.length:=by
 rw[routesT]at hq
 split at hq
 ·rename_i hc
  obtain ⟨i,hi,hp⟩:=xN.1 hq
  rw[leadF]at hp
  split at hp
  ·simp only[Option.some.injEq]at hp
   subst hp
   have hi':((i:Nat):Int).toNat<n.irbs.length:=by simpa using hi
   show 0≤(nth n.irbs i).domain∧_
   rw[Ae hi']
   exact(Ef hc.2.2 hi').1
  ·cases hp
 ·cases hq
end Go.Sy.YtljngfegfclkpaaGreat
namespace Go.Sy.YtljngfegfclkpaaGreat
open Go.Proofs
attribute [local irreducible] Go.Sy.G Go.Sy.DR
set_option maxRecDepth 20000
set_option maxHeartbeats 8000000
def ext1 (S:Srch) (k i:Int) (l:List Hop):Srch:=l.foldl (λ S h=>meetT S h.domain k h i) S
def ext2 (S:Srch) (i:Int) (l:List Lead):Srch:=l.foldl (λ S q=>meetT S q.domain 1 ⟨3,0,q.domain,q.addr⟩ i) S
def extT (n:Net) (S:Srch) (i:Int):Srch :=
 if (nth S.list i).kind=0 then ext2 (ext1 S 0 i (C8 n (nth S.list i).domain)) i (routesT n (nth S.list i).domain) else ext1 S 1 i (C8 n (nth S.list i).domain)
theorem Aus (S:Srch) (k i:Int) {l:List Hop} {j:Nat} {h:Hop} (hj:j<l.length) (hh:l[j]=h):ext1 S k i (l.take (j+1))=meetT (ext1 S k i (l.take j)) h.domain k h i:=by
 subst hh
 rw[ext1,vV,zH hj,xB]
 rfl
theorem Aur (S:Srch) (i:Int) {l:List Lead} {j:Nat} {q:Lead} (hj:j<l.length) (hh:l[j]=q):ext2 S i (l.take (j+1))=meetT (ext2 S i (l.take j)) q.domain 1 ⟨3,0,q.domain,q.addr⟩ i:=by
 subst hh
 rw[ext2,vV,zH hj,xB]
 rfl
theorem Srch.OK.ext1 {n:Net} {k i:Int} (hk:k=0∨k=1):∀ {l:List Hop} {S:Srch},S.OK n→(∀ h∈l,0≤h.domain∧h.domain.toNat<n.domains.length)→(ext1 S k i l).OK n
 | [],S,h,_=>h
 | x::l,S,h,hl=>Srch.OK.ext1 hk (l:=l) (h.meet (hl x y_) hk x i) (λ y hy=>hl y (by simp[hy]))
theorem Srch.OK.ext2 {n:Net} {i:Int}:∀ {l:List Lead} {S:Srch},S.OK n→(∀ h∈l,0≤h.domain∧h.domain.toNat<n.domains.length)→(ext2 S i l).OK n
 | [],S,h,_=>h
 | x::l,S,h,hl=>Srch.OK.ext2 (l:=l) (h.meet (hl x y_) (.inr rfl) _ i) (λ y hy=>hl y (by simp[hy]))
theorem Srch.OK.ext {n:Net} {S:Srch} (h:S.OK n) (i:Int):(extT n S i).OK n:=by
 rw[extT]
 split
 ·exact(h.ext1 (.inl E) (λ x hx=>Kh hx)).ext2 (λ x hx=>Lj hx)
 ·exact h.ext1 (.inr E) (λ x hx=>Kh hx)
theorem Ali {n:Net} (hn:n.Fin) (d:Int):(C8 n d).length<4294967296:=by
 have h1:=Je n hn d
 unfold Ak at h1
 rw[C8]
 split
 ·rename_i hd
  have hk:d.toNat<n.domains.length:=by have:=hd.1;omega
  have h2:=hn.peers _ (zE hk)
  unfold Ak at h2
  have h3:=uH (linkHop n d) (At n d)
  rw[hopsL,Ae hk,zI,yP]
  omega
 ·decide
theorem Ad8 {n:Net} (hn:n.Fin) (d:Int):(routesT n d).length<4294967296:=by
 have h1:=hn.irbs
 unfold Ak at h1
 rw[routesT]
 split
 ·have:=Us n (nth n.domains d).irb n.irbs.length
  omega
 ·decide
abbrev Av5 (n:Net) (S:Srch) (d k:Int):Obs:=[(0,.box [.sl 5 Aq n.devices,.sl 7 Aw n.ports,.sl 3 Br n.links,.sl 6 An n.domains,.sl 4 As n.statics,.sl 4 A3 n.floods,.sl 5 B5 n.vrfs,.sl 5 By n.irbs,.osl 1,.osl 2,.osl 1000]),
 (1,.row 1 Ac S.m0),(2,.row 1 Ac S.m1),(3,.non),(1000,.row 7 Uy S.list),(4,.box [Aa d,Aa k])]
theorem A0w (n:Net) (hn:n.Fin) (hu:Dd n) (hD:n.domains.length<1000000) (S:Srch) (hS:S.OK n) (i:Int) (hi:0≤i∧i.toNat<S.list.length) :
  Sq 24 [.ptr 0 0,Aa i] (Zi n S) (.tup []) (V6 n (extT n S i)):=cT F24 Tryz.ntmps24 λ F hF=>by
 have hlk:=extT.eq_1 n S i
 rw[Ae hi.2]at hlk
 generalize extT n S i=res at *
 have hfk:=(hS.at_ _ (zE hi.2)).2
 obtain ⟨f,hf⟩:∃ f,S.list[i.toNat]'hi.2=f:=⟨_,rfl⟩
 rw[hf]at hlk hfk
 obtain ⟨d,k,hp,ah⟩:=f
 dsimp only at hlk hfk
 have q1:=An1 n hn d
 have q2:=Ae0 n hn hu d
 have hin1:=λ h=>Kh (n:=n) (d:=d) (h:=h)
 have hin2:=λ h=>Lj (n:=n) (d:=d) (q:=h)
 have hs1:=Ali hn d
 have hs2:=Ad8 hn d
 generalize C8 n d=hops at *
 generalize routesT n d=leads at *
 have ok1:∀ k,k=0∨k=1→∀ j,(ext1 S k i (hops.take j)).OK n:=λ k hk j=>hS.ext1 hk (λ x hx=>hin1 x (wB hx))
 have ok2:∀ j,(ext2 (ext1 S 0 i hops) i (leads.take j)).OK n:=λ j=>Srch.OK.ext2 (hS.ext1 (.inl rfl) (λ x hx=>hin1 x hx)) (λ x hx=>hin2 x (wB hx))
 have hsucc:=λ k j h hj hh=>Aus S k i (l:=hops) (j:=j) (h:=h) hj hh
 have hsucc2:=λ j h hj hh=>Aur (ext1 S 0 i hops) i (l:=leads) (j:=j) (q:=h) hj hh
 refine fW ?_
 refine⟨hi.1,hi.2,?_⟩
 refine fW ?_
 refine⟨by intro e;rw[e]at hi;simp at hi,?_⟩
 refine fW ?_
 refine⟨E,hi.2,?_⟩
 rw[hf]
 refine fW ?_
 rcases hfk with rfl | rfl
 ·rw[zC rfl]at hlk
  have ok1:=ok1 0 j_
  have hsucc:=hsucc 0
  refine fU ?_
  refine cD q1 F68 ?_
  refine fU ?_
  refine⟨z_,?_⟩
  refine fW ?_
  refine X8 3 1000 E E j_ ?_
  refine A5 hops.length (λ j=>[(0,.ptr 0 0),(1,Aa i),(4,.ptr 4 0),(23,.sl 4 Cy hops),(24,Aa hops.length),(25,Aa j)]) (λ j=>Av5 n (ext1 S 0 i (hops.take j)) d 0) []
   ⟨⟨rfl,rfl,rfl,rfl,rfl,rfl,rfl,rfl,rfl,rfl,rfl,rfl,trivial⟩,⟨.inl rfl,rfl,.inl rfl,rfl,.inl rfl,rfl,.inl rfl,rfl,.inl rfl,rfl,.inl rfl,rfl,trivial⟩,rfl,rfl⟩ ?_
  intro j hj
  have okj:=ok1 j
  have lej:=okj.le
  have l0:=okj.l0
  have scj:=hsucc j
  generalize hSj:ext1 S 0 i (hops.take j)=Sj at *
  refine fU ?_
  constructor<;>intro h
  ·have hlt:j<hops.length:=by simpa using h
   have hj0:((j:Nat):Int).toNat<hops.length:=by simpa using hlt
   obtain ⟨hp,hhp⟩:∃ hp,hops[((j:Nat):Int).toNat]'hj0=hp:=⟨_,rfl⟩
   have hdi:=hin1 hp (by rw[← hhp];exact zE _)
   have sc:=scj hp hlt hhp
   have q3:=Axf n Sj hp.domain hp i (by rw[l0];exact hdi) (by unfold Ak;omega)
   rw[← sc]at q3
   refine fU ?_
   refine⟨E,by omega,hj0,?_⟩
   rw[hhp]
   refine fW ?_
   refine Ag (Ad [(0,0),(1,1),(2,2),(3,1000),(4,1001)] E F63 q3 E ⟨E,E,E,E,Y⟩ E ⟨.inl E,.inl E,.inl E,.inl E,.inr E,Y⟩) E E ?_
   refine fU ?_
   refine iL ?_
   refine fW ?_
   exact Ax [(1000,1001)] hlt ⟨⟨E,E,E,E,E,E,E,E,E,E,E,E,Y⟩,⟨.inl E,E,.inl E,E,.inl E,E,.inl E,E,.inl E,E,.inl E,E,Y⟩,E,E⟩
  ·have:j=hops.length:=qB h
   subst this
   rw[yG]at hSj
   simp only[hSj]at hlk ok2 hsucc2
   refine fU ?_
   refine cD q2 F69 ?_
   refine fU ?_
   refine⟨z_,?_⟩
   refine fW ?_
   refine A5 leads.length (λ j=>[(0,.ptr 0 0),(1,Aa i),(4,.ptr 4 0),(48,.sl 3 Lv leads),(49,Aa leads.length),(50,Aa j)]) (λ j=>Av5 n (ext2 Sj i (leads.take j)) d 0) []
    ⟨⟨rfl,rfl,rfl,rfl,rfl,rfl,rfl,rfl,rfl,rfl,rfl,rfl,trivial⟩,⟨.inl rfl,rfl,.inl rfl,rfl,.inl rfl,rfl,.inl rfl,rfl,.inl rfl,rfl,.inl rfl,rfl,trivial⟩,rfl,rfl⟩ ?_
   intro j hj
   have okj:=ok2 j
   have lej:=okj.le
   have l0:=okj.l1
   have scj:=hsucc2 j
   generalize hSk:ext2 Sj i (leads.take j)=Sk at *
   refine fU ?_
   constructor<;>intro h
   ·have hlt:j<leads.length:=by simpa using h
    have hj0:((j:Nat):Int).toNat<leads.length:=by simpa using hlt
    obtain ⟨hp,hhp⟩:∃ hp,leads[((j:Nat):Int).toNat]'hj0=hp:=⟨_,rfl⟩
    have hdi:=hin2 hp (by rw[← hhp];exact zE _)
    have sc:=scj hp hlt hhp
    have q3:=Axe n Sk hp.domain ⟨3,0,hp.domain,hp.addr⟩ i (by rw[l0];exact hdi) (by unfold Ak;omega)
    rw[← sc]at q3
    refine fU ?_
    refine⟨E,by omega,hj0,?_⟩
    rw[hhp]
    refine fW ?_
    refine Ag (Ad [(0,0),(1,1),(2,2),(3,1000),(4,1001)] E F63 q3 E ⟨E,E,E,E,Y⟩ E ⟨.inl E,.inl E,.inl E,.inl E,.inr E,Y⟩) E E ?_
    refine fU ?_
    refine iL ?_
    refine fW ?_
    exact Ax [(1000,1001)] hlt ⟨⟨E,E,E,E,E,E,E,E,E,E,E,E,Y⟩,⟨.inl E,E,.inl E,E,.inl E,E,.inl E,E,.inl E,E,.inl E,E,Y⟩,E,E⟩
   ·have:j=leads.length:=qB h
    subst this
    rw[yG]at hSk
    rw[hSk]at hlk
    subst hlk
    refine fU ?_
    exact A4 E .nil [(4,1000)] (V6 n _) (λ _ h=>h) E E ⟨Y,⟨.inl E,E,.inl E,E,.inl E,E,.inl E,E,.inl E,E,Y⟩,E,E⟩
 ·rw[zA j_]at hlk
  clear ok2 hsucc2 q2 hs2 hin2
  have ok1:=ok1 1 j_
  have hsucc:=hsucc 1
  refine fU ?_
  refine cD q1 F68 ?_
  refine fU ?_
  refine⟨z_,?_⟩
  refine fW ?_
  refine X8 3 1000 E E j_ ?_
  refine A5 hops.length (λ j=>[(0,.ptr 0 0),(1,Aa i),(4,.ptr 4 0),(23,.sl 4 Cy hops),(24,Aa hops.length),(25,Aa j)]) (λ j=>Av5 n (ext1 S 1 i (hops.take j)) d 1) []
   ⟨⟨rfl,rfl,rfl,rfl,rfl,rfl,rfl,rfl,rfl,rfl,rfl,rfl,trivial⟩,⟨.inl rfl,rfl,.inl rfl,rfl,.inl rfl,rfl,.inl rfl,rfl,.inl rfl,rfl,.inl rfl,rfl,trivial⟩,rfl,rfl⟩ ?_
  intro j hj
  have okj:=ok1 j
  have lej:=okj.le
  have l0:=okj.l1
  have scj:=hsucc j
  generalize hSj:ext1 S 1 i (hops.take j)=Sj at *
  refine fU ?_
  constructor<;>intro h
  ·have hlt:j<hops.length:=by simpa using h
   have hj0:((j:Nat):Int).toNat<hops.length:=by simpa using hlt
   obtain ⟨hp,hhp⟩:∃ hp,hops[((j:Nat):Int).toNat]'hj0=hp:=⟨_,rfl⟩
   have hdi:=hin1 hp (by rw[← hhp];exact zE _)
   have sc:=scj hp hlt hhp
   have q3:=Axe n Sj hp.domain hp i (by rw[l0];exact hdi) (by unfold Ak;omega)
   rw[← sc]at q3
   refine fU ?_
   refine⟨E,by omega,hj0,?_⟩
   rw[hhp]
   refine fW ?_
   refine Ag (Ad [(0,0),(1,1),(2,2),(3,1000),(4,1001)] E F63 q3 E ⟨E,E,E,E,Y⟩ E ⟨.inl E,.inl E,.inl E,.inl E,.inr E,Y⟩) E E ?_
   refine fU ?_
   refine iL ?_
   refine fW ?_
   exact Ax [(1000,1001)] hlt ⟨⟨E,E,E,E,E,E,E,E,E,E,E,E,Y⟩,⟨.inl E,E,.inl E,E,.inl E,E,.inl E,E,.inl E,E,.inl E,E,Y⟩,E,E⟩
  ·have:j=hops.length:=qB h
   subst this
   rw[yG]at hSj
   rw[hSj]at hlk
   subst hlk
   refine fU ?_
   exact A4 E .nil [(4,1000)] (V6 n _) (λ _ h=>h) E E ⟨Y,⟨.inl E,E,.inl E,E,.inl E,E,.inl E,E,.inl E,E,Y⟩,E,E⟩
def Iq (n:Net) (dev:Int) (S:Srch) (v:Int):Srch:=if v=0 then S else meetT S (Bt n dev v) 0 ⟨0,0,Bt n dev v,0⟩ (-1)
def I7 (n:Net):Srch:=⟨List.replicate n.domains.length false,List.replicate n.domains.length false,[]⟩
def L3 (n:Net) (dev:Int) (l:List Int):Srch:=l.foldl (Iq n dev) (I7 n)
def beginT (n:Net) (port:Int):Srch:=L3 n (nth n.ports port).dev ((nth n.ports port).native::(nth n.ports port).tagged)
theorem Amh (n:Net) (dev:Int) {l:List Int} {j:Nat} {v:Int} (hj:j<l.length) (hh:l[j]=v):L3 n dev (l.take (j+1))=Iq n dev (L3 n dev (l.take j)) v:=by
 subst hh
 rw[L3,vV,zH hj,xB]
 rfl
theorem Ajo (n:Net):(I7 n).OK n:=⟨by simp[I7],by simp[I7],λ f hf=>by simp[I7]at hf,by simp[I7]⟩
theorem T3 {n:Net} {dev:Int} {l:List Int} (h:∀ v∈l,v≠0→0≤Bt n dev v∧(Bt n dev v).toNat<n.domains.length):(L3 n dev l).OK n:=by
 suffices hs:∀ (l:List Int) (S:Srch),S.OK n→(∀ v∈l,v≠0→0≤Bt n dev v∧(Bt n dev v).toNat<n.domains.length)→(l.foldl (Iq n dev) S).OK n from hs l _ (Ajo n) h
 intro l
 induction l with
 | nil=>exact λ S h _=>h
 | cons x l ih =>
  intro S hS hl
  refine ih _ ?_ (λ v hv=>hl v (by simp[hv]))
  rw[Iq]
  split
  ·exact hS
  ·rename_i hx
   exact hS.meet (hl x y_ hx) (.inl E) _ _
theorem I2 {n:Net} (hb:Ab n=true) {i:Nat} (hi:i<n.ports.length) {v:Int} (hv:v∈n.ports[i].native::n.ports[i].tagged) (h0:v≠0) :
  0≤Bt n n.ports[i].dev v∧(Bt n n.ports[i].dev v).toNat<n.domains.length:=by
 rw[Bt,zC hb]
 refine S8 hb hi ?_
 simp only[Ce,zB,yV,yD,yA]
 refine⟨h0,?_⟩
 rcases yB.1 hv with h | h
 ·exact .inl h
 ·exact .inr (wF.2 ⟨v,h,by simp⟩)
abbrev Abi (n:Net) (a b c:SV):Ob:=.box [.sl 5 Aq n.devices,.sl 7 Aw n.ports,.sl 3 Br n.links,.sl 6 An n.domains,.sl 4 As n.statics,.sl 4 A3 n.floods,.sl 5 B5 n.vrfs,.sl 5 By n.irbs,a,b,c]
abbrev Wq:SV:=.val (.slice none 0 0)
def madeO (n:Net):Nat→Obs
 | 0=>[(0,Abi n Wq Wq Wq)]
 | 1=>[(0,Abi n (.osl 1001) Wq Wq),(1001,.row 1 Ac (List.replicate n.domains.length false))]
 | _=>[(0,Abi n (.osl 1001) (.osl 1002) Wq),(1001,.row 1 Ac (List.replicate n.domains.length false)),(1002,.row 1 Ac (List.replicate n.domains.length false))]
abbrev srchB (n:Net) (S:Srch) (vs:List Int):Obs:=[(0,Abi n (.osl 1001) (.osl 1002) (.osl 1003)),(1001,.row 1 Ac S.m0),(1002,.row 1 Ac S.m1),(1003,.row 7 Uy S.list),(38,.row 1 Aa vs)]
theorem beginS (n:Net) (hn:n.Fin) (hb:Ab n=true) (hD:n.domains.length<1000000) (port:Int) (hp:0≤port∧port.toNat<n.ports.length) :
  Sq 20 [.ptr 0 0,Aa port] [(0,Abi n Wq Wq Wq)] (.tup []) (Zi n (beginT n port)):=cT F20 Tryz.ntmps20 λ F hF=>by
 have hlk:=beginT.eq_1 n port
 rw[Ae hp.2]at hlk
 generalize beginT n port=res at *
 have hin:=λ v hv h0=>I2 hb hp.2 (v:=v) hv h0
 have hts:=hn.tagged _ (zE hp.2)
 unfold Ak at hts
 obtain ⟨p,hpp⟩:∃ p,n.ports[port.toNat]'hp.2=p:=⟨_,rfl⟩
 rw[hpp]at hlk hin hts
 have hok:∀ j,(L3 n p.dev ((p.native::p.tagged).take j)).OK n:=λ j=>T3 λ v hv h0=>hin v (wB hv) h0
 have hsc:=λ j v hj hh=>Amh n p.dev (l:=p.native::p.tagged) (j:=j) (v:=v) hj hh
 have hd:=λ v=>Jb n hn p.dev v
 refine fW ?_
 refine⟨E,hp.1,hp.2,?_⟩
 rw[hpp]
 refine fW ?_
 refine Az 4 7 (Aw p) E E E ?_
 refine Bi 2 (λ _=>True) (λ j=>[(0,.ptr 0 0),(4,.ref 7 (Aw p) 0),(17,Aa j)]) (λ j=>madeO n j) [] Y ⟨⟨E,E,E,E,E,E,Y⟩,⟨.inl E,E,Y⟩,E,E⟩ ?_
 intro j hj _
 refine fU ?_
 constructor<;>intro h
 ·have hlt:j<2:=qA h
  have hj01:j=0∨j=1:=by omega
  rcases hj01 with rfl | rfl
  ·refine fU ?_
   refine Bs (Bw Γ.toTy (d:=28) (n:=n.domains.length) Ac false E E E E E E E E q_ q_ E E E) z_ E ?_
   refine fU ?_
   refine⟨by decide,by decide,?_⟩
   refine fW ?_
   refine⟨z_,?_⟩
   refine fW ?_
   refine⟨by unfold I64;decide,?_⟩
   refine fW ?_
   exact Be [(1001,28)] Y j_ Y ⟨⟨E,E,E,E,E,E,Y⟩,⟨.inl E,E,.inl E,E,Y⟩,E,E⟩
  ·refine fU ?_
   refine Bs (Bw Γ.toTy (d:=28) (n:=n.domains.length) Ac false E E E E E E E E q_ q_ E E E) z_ E ?_
   refine fU ?_
   refine⟨by decide,by decide,?_⟩
   refine fW ?_
   refine⟨z_,?_⟩
   refine fW ?_
   refine⟨by unfold I64;decide,?_⟩
   refine fW ?_
   exact Be [(1002,28)] Y j_ Y ⟨⟨E,E,E,E,E,E,Y⟩,⟨.inl E,E,.inl E,E,.inl E,E,Y⟩,E,E⟩
 ·have:j=2:=qB h
  subst this
  refine fU ?_
  refine Ag (Ah Γ.toTy 38 E E E E E (.lit (e:=Aa) (l:=[p.native]) E E) .sl j_ (by simp;omega) (by simp;omega)) E E ?_
  refine Amw 0 10 1003 7 Uy E E E E ?_
  refine fU ?_
  generalize hvs:p.native::p.tagged=vs at *
  have hvl:vs.length=p.tagged.length+1:=by rw[← hvs];rfl
  refine A5 vs.length (λ j=>[(0,.ptr 0 0),(4,.ref 7 (Aw p) 0),(38,.osl 38),(39,Aa vs.length),(40,Aa j)]) (λ j=>srchB n (L3 n p.dev (vs.take j)) vs) []
   ⟨⟨rfl,rfl,rfl,rfl,rfl,rfl,zD Aa (by rw[hvl];rfl),rfl,rfl,rfl,trivial⟩,⟨.inl rfl,rfl,.inl rfl,rfl,.inl rfl,rfl,.inl rfl,rfl,.inl (zD (Ob.row 1 Aa) hvs.symm),rfl,trivial⟩,rfl,rfl⟩ ?_
  intro j hj
  have okj:=hok j
  have lej:=okj.le
  have l0:=okj.l0
  have scj:=hsc j
  generalize hSj:L3 n p.dev (vs.take j)=Sj at *
  refine fU ?_
  constructor<;>intro h
  ·have hlt:j<vs.length:=by simpa using h
   have hj0:((j:Nat):Int).toNat<vs.length:=by simpa using hlt
   obtain ⟨v,hv⟩:∃ v,vs[((j:Nat):Int).toNat]'hj0=v:=⟨_,rfl⟩
   have hmem:v∈vs:=by rw[← hv];exact zE _
   have sc:=scj v hlt hv
   rw[Iq]at sc
   have hdv:=hd v
   have hiv:=hin v hmem
   generalize Bt n p.dev v=dm at *
   refine fU ?_
   refine⟨by omega,hj0,?_⟩
   refine fW ?_
   refine⟨E,hj0,?_⟩
   rw[hv]
   refine fW ?_
   constructor<;>intro h
   ·have h0:v≠0:=by simpa using h
    rw[zA h0]at sc
    have q3:=Axf n Sj dm ⟨0,0,dm,0⟩ (-1) (by rw[l0];exact hiv h0) (by unfold Ak;omega)
    rw[← sc]at q3
    refine fU ?_
    refine cD hdv F62 ?_
    refine fU ?_
    refine⟨z_,?_⟩
    refine fW ?_
    refine Ag (Ad [(0,0),(1,1001),(2,1002),(3,1003),(4,1004)] E F63 q3 E ⟨E,E,E,E,Y⟩ E ⟨.inl E,.inl E,.inl E,.inl E,.inr E,Y⟩) E E ?_
    refine fU ?_
    refine iL ?_
    refine fW ?_
    exact Ax [(1003,1004)] hlt ⟨⟨E,E,E,E,E,E,E,E,E,E,Y⟩,⟨.inl E,E,.inl E,E,.inl E,E,.inl E,E,.inl E,E,Y⟩,E,E⟩
   ·have h0:v=0:=by simpa using h
    rw[zC h0]at sc
    refine fU ?_
    refine iL ?_
    refine fW ?_
    exact Ax [] hlt ⟨⟨E,E,E,E,E,E,E,E,E,E,Y⟩,⟨.inl E,E,.inl (zD (λ S=>Ob.row 1 Ac (Srch.m0 S)) sc),E,.inl (zD (λ S=>Ob.row 1 Ac (Srch.m1 S)) sc),E,.inl (zD (λ S=>Ob.row 7 Uy (Srch.list S)) sc),E,.inl E,E,Y⟩,E,E⟩
  ·have:j=vs.length:=qB h
   subst this
   rw[yG]at hSj
   rw[hSj]at hlk
   subst hlk
   refine fU ?_
   exact A4 E .nil [(1,1001),(2,1002),(3,1003)] (Zi n _) (λ _ h=>h) E E ⟨Y,⟨.inl E,E,.inl E,E,.inl E,E,.inl E,E,Y⟩,E,E⟩
theorem Aj1 (D:List Hop) (hl:D.length<4294967296):Sq 67 [.osl 0] [(0,.row 4 Cy D)] (.tup []) [(0,.row 4 Cy D.reverse)]:=cT F67 Tryz.ntmps67 λ F hF=>by
 refine fW ?_
 refine iL ?_
 refine fW ?_
 refine A5 (D.length / 2) (λ j=>[(0,.osl 0),(2,Aa j),(3,Aa ((D.length:Int)-1-j))]) (λ j=>[(0,.row 4 Cy (Wc D j))]) []
  ⟨⟨rfl,rfl,rfl,rfl,zD (λ z=>SV.val (.int .i64 z)) q_,rfl,trivial⟩,⟨.inl (zD (Ob.row 4 Cy) (As3 D)),rfl,trivial⟩,rfl,rfl⟩ ?_
 intro i hi
 have hul:=Ea D i
 refine fU ?_
 constructor<;>intro h2
 ·have hlt:2 * i+1<D.length:=by have:=zK h2;omega
  obtain ⟨u,hu⟩:∃ u,Wc D i=u:=⟨_,rfl⟩
  obtain ⟨k,hk⟩:∃ k,D.length-1-i=k:=⟨_,rfl⟩
  have hk2:(D.length:Int)-1-i=(k:Nat):=by omega
  rw[hu]at hul
  have hs:=As5 hu hlt hk q_ q_
  rw[hu,hk2]
  refine fU ?_
  refine⟨by omega,by omega,?_⟩
  refine fW ?_
  refine⟨E,by omega,?_⟩
  refine fW ?_
  refine⟨by omega,by omega,?_⟩
  refine fW ?_
  refine⟨E,by omega,?_⟩
  refine fW ?_
  refine⟨by omega,by omega,?_⟩
  refine fW ?_
  refine⟨E,by omega,u[k],E,E,?_⟩
  refine fW ?_
  refine⟨by omega,by simp;omega,?_⟩
  refine fW ?_
  refine⟨E,by simp;omega,u[i],E,E,?_⟩
  refine fW ?_
  refine⟨z_,?_⟩
  refine fW ?_
  refine iL ?_
  refine fW ?_
  refine iL ?_
  refine fW ?_
  refine Ax [] q_ ⟨⟨E,E,E,E,zD (λ z=>SV.val (.int .i64 z)) q_,E,Y⟩,⟨.inl (zD (Ob.row 4 Cy) hs.symm),E,Y⟩,E,E⟩
 ·have h3:D.length≤2 * i+1:=by have:=zN h2;omega
  rw[Awg D i h3]
  refine fU ?_
  exact A4 E .nil [] [(0,.row 4 Cy D.reverse)] (λ _ h=>h) E E ⟨Y,⟨.inl E,E,Y⟩,E,E⟩
def backC (l:List Fnd) (i:Int):List Hop :=
 if _h:0≤i∧(nth l i).ahead<i then (nth l i).hop::backC l (nth l i).ahead else []
 termination_by (i+1).toNat
 decreasing_by omega
def backT (l:List Fnd) (i:Int):List Hop:=(backC l i).reverse
def Backs (l:List Fnd):Prop:=∀ i (h:i<l.length),-1≤l[i].ahead∧l[i].ahead<i
theorem Backs.snoc {l:List Fnd} (h:Backs l) {f:Fnd} (hf:-1≤f.ahead∧f.ahead<l.length):Backs (l++[f]):=λ i hi=>by
 by_cases hl:i<l.length
 ·rw[yL hl]
  exact h i hl
 ·have:i=l.length:=by simp at hi;omega
  subst this
  simpa using hf
theorem Backs.meet {S:Srch} (h:Backs S.list) (d k:Int) (hp:Hop) {a:Int} (ha:-1≤a∧a<S.list.length):Backs (meetT S d k hp a).list∧S.list.length≤(meetT S d k hp a).list.length:=by
 rw[meetT]
 split
 ·exact⟨h,zZ _⟩
 ·rw[Ls]
  split
  ·exact⟨h.snoc ha,by simp⟩
  ·exact⟨h.snoc ha,by simp⟩
theorem Backs.ext1 {k i:Int}:∀ {l:List Hop} {S:Srch},Backs S.list→(-1≤i∧i<S.list.length)→Backs (ext1 S k i l).list∧S.list.length≤(ext1 S k i l).list.length
 | [],S,h,_=>⟨h,zZ _⟩
 | x::l,S,h,hi=>by
  obtain ⟨h1,h2⟩:=h.meet x.domain k x hi
  obtain ⟨h3,h4⟩:=Backs.ext1 (k:=k) (i:=i) (l:=l) h1 ⟨hi.1,by omega⟩
  exact⟨h3,wH h2 h4⟩
theorem Backs.ext2 {i:Int}:∀ {l:List Lead} {S:Srch},Backs S.list→(-1≤i∧i<S.list.length)→Backs (ext2 S i l).list∧S.list.length≤(ext2 S i l).list.length
 | [],S,h,_=>⟨h,zZ _⟩
 | x::l,S,h,hi=>by
  obtain ⟨h1,h2⟩:=h.meet x.domain 1 ⟨3,0,x.domain,x.addr⟩ hi
  obtain ⟨h3,h4⟩:=Backs.ext2 (i:=i) (l:=l) h1 ⟨hi.1,by omega⟩
  exact⟨h3,wH h2 h4⟩
theorem Backs.ext {n:Net} {S:Srch} (h:Backs S.list) {i:Int} (hi:0≤i∧i<S.list.length):Backs (extT n S i).list∧S.list.length≤(extT n S i).list.length:=by
 rw[extT]
 split
 ·obtain ⟨h1,h2⟩:=h.ext1 (k:=0) (i:=i) (l:=C8 n (nth S.list i).domain) ⟨by omega,hi.2⟩
  obtain ⟨h3,h4⟩:=h1.ext2 (i:=i) (l:=routesT n (nth S.list i).domain) ⟨by omega,by omega⟩
  exact⟨h3,wH h2 h4⟩
 ·exact h.ext1 ⟨by omega,hi.2⟩
theorem Qh (n:Net) (dev:Int) (l:List Int):Backs (L3 n dev l).list:=by
 suffices hs:∀ (l:List Int) (S:Srch),Backs S.list→Backs (l.foldl (Iq n dev) S).list from hs l _ (λ i h=>by simp[I7]at h)
 intro l
 induction l with
 | nil=>exact λ S h=>h
 | cons x l ih =>
  intro S hS
  refine ih _ ?_
  rw[Iq]
  split
  ·exact hS
  ·exact(hS.meet _ _ _ ⟨by omega,by omega⟩).1
abbrev srchA (n:Net) (S:Srch) (l:List Hop):Obs:=[(0,Abi n (.osl 1) (.osl 2) (.osl 3)),(1,.row 1 Ac S.m0),(2,.row 1 Ac S.m1),(3,.row 7 Uy S.list),(1000,.row 4 Cy l)]
theorem backS (n:Net) (S:Srch) (hB:Backs S.list) (hl:S.list.length<4000000) (i:Int) (hi:-1≤i∧i<S.list.length) :
  Sq 23 [.ptr 0 0,Aa i] (Zi n S) (.sl 4 Cy (backT S.list i)) (Zi n S):=cT F23 Tryz.ntmps23 λ F hF=>by
 have hlk:=backT.eq_1 S.list i
 generalize backT S.list i=res at *
 refine fW ?_
 refine Co 5 1000 4 Cy E E ?_
 refine Db (λ x:Int × List Hop=>(-1≤x.1∧x.1<S.list.length)∧x.2.length+(x.1+1).toNat≤S.list.length∧x.2++backC S.list x.1=backC S.list i)
  (λ x=>[(0,.ptr 0 0),(1,Aa x.1),(5,.osl 1000)]) (λ x=>srchA n S x.2) (λ x=>(x.1+1).toNat) (i,[]) [] ⟨hi,by simp;omega,rfl⟩
  ⟨⟨rfl,rfl,rfl,rfl,rfl,rfl,trivial⟩,⟨.inl rfl,rfl,.inl rfl,rfl,.inl rfl,rfl,.inl rfl,rfl,.inl rfl,rfl,trivial⟩,rfl,rfl⟩ ?_
 rintro ⟨z,acc⟩ ⟨hz,hal,hacc⟩
 dsimp only at hz hal hacc
 refine fU ?_
 constructor<;>intro h
 ·have h0:0≤z:=zK h
  have hk:z.toNat<S.list.length:=by omega
  have hb:=hB z.toNat hk
  rw[backC,Ae hk]at hacc
  obtain ⟨f,hf⟩:∃ f,S.list[z.toNat]'hk=f:=⟨_,rfl⟩
  rw[hf]at hacc hb
  rw[dif_pos ⟨h0,by omega⟩]at hacc
  refine fU ?_
  refine⟨h0,hk,?_⟩
  refine fW ?_
  refine⟨by intro e;rw[e]at hk;simp at hk,?_⟩
  refine fW ?_
  refine⟨E,hk,?_⟩
  rw[hf]
  refine fW ?_
  refine Ag (Ah Γ.toTy 26 E E E E E (.row E) (.lit (e:=Cy) (l:=[f.hop]) E E) y_ (by simp;omega) (by simp;omega)) E E ?_
  refine fU ?_
  refine⟨h0,hk,?_⟩
  refine fW ?_
  refine⟨by intro e;rw[e]at hk;simp at hk,?_⟩
  refine fW ?_
  refine⟨E,hk,?_⟩
  rw[hf]
  refine fW ?_
  exact Bd (f.ahead,acc++[f.hop]) [(1000,26)] ⟨⟨hb.1,by omega⟩,by simp;omega,by rw[yU];exact hacc⟩ (by simp only;omega)
   ⟨⟨rfl,rfl,rfl,rfl,rfl,rfl,trivial⟩,⟨.inl rfl,rfl,.inl rfl,rfl,.inl rfl,rfl,.inl rfl,rfl,.inl rfl,rfl,trivial⟩,rfl,rfl⟩
 ·have h0:¬ 0≤z:=zN h
  rw[backC,dif_neg (λ e=>h0 e.1),xJ]at hacc
  have q:=Aj1 acc q_
  rw[← hacc]at hlk
  refine fU ?_
  refine Ag (Ad [(0,1000)] E F67 q E ⟨E,Y⟩ E ⟨.inl E,Y⟩) E E ?_
  refine Ai 1000 E ?_
  rw[← hlk]
  refine fU ?_
  exact done E (.cons .tmp .nil) [] (Zi n S) (λ _ h=>h) E E ⟨Y,⟨.inl E,E,.inl E,E,.inl E,E,.inl E,E,Y⟩,E,E⟩
def D4 (n:Net) (to:Int):Nat→Srch→Nat→List Hop × Bool
 | 0,_,_=>([],false)
 | k+1,S,i=>if i<S.list.length then (if inB (At n (nth S.list i).domain) to=true then (backT S.list i,true) else D4 n to k (extT n S i) (i+1)) else ([],false)
def wayT (n:Net) (from_ to:Int):List Hop × Bool :=
 if Ji n from_=true∧Ji n to=true∧from_≠to∧Ab n=true then D4 n to (2 * n.domains.length+1) (beginT n from_) 0 else ([],false)
abbrev srchW (n:Net) (S:Srch):Obs:=[(32,Abi n (.osl 1001) (.osl 1002) (.osl 1003)),(1001,.row 1 Ac S.m0),(1002,.row 1 Ac S.m1),(1003,.row 7 Uy S.list)]
theorem Jh {n:Net} {i:Int} (h:Ji n i=true):0≤i∧i.toNat<n.ports.length:=by
 simp only[Ji,zB,zG]at h
 omega
theorem wayS (n:Net) (hn:n.Fin) (hu:Dd n) (from_ to:Int):Sp 9 [Aj n,Aa from_,Aa to] (.tup [.sl 4 Cy (wayT n from_ to).1,Ac (wayT n from_ to).2]):=cT F9 Tryz.ntmps9 λ F hF=>by
 have hlk:=wayT.eq_1 n from_ to
 generalize wayT n from_ to=res at *
 have hr:=Av n hn
 have h1:=V0 n from_
 have h2:=V0 n to
 refine fW ?_
 refine Az 3 8 (Aj n) E E E ?_
 refine fU ?_
 refine c0 h1 F12 ?_
 cases hf:Ji n from_
 ·rw[zA (by simp[hf])]at hlk
  subst hlk
  refine fU ?_
  refine Ao 6 4 Cy E ?_
  refine fU ?_
  exact dN
 refine fU ?_
 refine c0 h2 F12 ?_
 cases ht:Ji n to
 ·rw[zA (by simp[ht])]at hlk
  subst hlk
  refine fU ?_
  refine Ao 6 4 Cy E ?_
  refine fU ?_
  exact dN
 refine fU ?_
 constructor<;>intro h
 ·rw[zA (by have:from_=to:=(by simpa using h);simp[this])]at hlk
  subst hlk
  refine fU ?_
  refine Ao 6 4 Cy E ?_
  refine fU ?_
  exact dN
 have hne:from_≠to:=by simpa using h
 refine fU ?_
 refine c0 hr F19 ?_
 cases hb:Ab n
 ·rw[zA (by simp[hb])]at hlk
  subst hlk
  refine fU ?_
  refine Ao 6 4 Cy E ?_
  refine fU ?_
  exact dN
 rw[zC ⟨hf,ht,hne,hb⟩]at hlk
 have hD:n.domains.length<1000000:=by have:=(Agh hb).2.2.2.1;omega
 have hp:=Jh hf
 have q0:=beginS n hn hb hD from_ hp
 have ok0:(beginT n from_).OK n:=by
  rw[beginT,Ae hp.2]
  exact T3 λ v hv h0=>I2 hb hp.2 hv h0
 have bk0:Backs (beginT n from_).list:=by rw[beginT];exact Qh _ _ _
 generalize beginT n from_=S0 at *
 refine fU ?_
 refine Ag (Ad [(0,32),(1,1001),(2,1002),(3,1003)] E F20 q0 E ⟨E,Y⟩ E ⟨.inl E,.inr E,.inr E,.inr E,Y⟩) E E ?_
 refine fU ?_
 refine Db (λ x:Srch × Nat=>x.1.OK n∧Backs x.1.list∧x.2≤x.1.list.length∧res=D4 n to (2 * n.domains.length+1-x.2) x.1 x.2)
  (λ x=>[(2,Aa to),(3,.ref 8 (Aj n) 0),(8,.ptr 32 0),(9,Aa x.2)]) (λ x=>srchW n x.1) (λ x=>2 * n.domains.length+1-x.2) (S0,0) [] ⟨ok0,bk0,xP _,hlk⟩
  ⟨⟨rfl,rfl,rfl,rfl,rfl,rfl,rfl,rfl,trivial⟩,⟨.inl rfl,rfl,.inl rfl,rfl,.inl rfl,rfl,.inl rfl,rfl,trivial⟩,rfl,rfl⟩ ?_
 clear hlk ok0 bk0 q0
 rintro ⟨S,i⟩ ⟨ok,bk,hi,hlk⟩
 dsimp only at ok bk hi hlk ⊢
 have hle:=ok.le
 obtain ⟨fuel,hfu⟩:∃ k,2 * n.domains.length+1-i=k+1:=⟨2 * n.domains.length-i,by omega⟩
 rw[hfu,D4]at hlk
 refine fU ?_
 constructor<;>intro h
 ·have hlt:i<S.list.length:=qA h
  have hi0:((i:Nat):Int).toNat<S.list.length:=by simpa using hlt
  rw[zC hlt,Ae hi0]at hlk
  obtain ⟨f,hf2⟩:∃ f,S.list[((i:Nat):Int).toNat]'hi0=f:=⟨_,rfl⟩
  rw[hf2]at hlk
  have q1:=Mq n hn f.domain
  have q2:=Dp (At n f.domain) to (Je n hn f.domain)
  generalize At n f.domain=mem at *
  refine fU ?_
  refine⟨by omega,hi0,?_⟩
  refine fW ?_
  refine⟨by intro e;rw[e]at hlt;simp at hlt,?_⟩
  refine fW ?_
  refine⟨by intro e;rw[e]at hlt;simp at hlt,?_⟩
  refine fW ?_
  refine⟨E,hi0,?_⟩
  rw[hf2]
  refine fW ?_
  refine cD q1 F22 ?_
  refine fU ?_
  refine cD q2 F21 ?_
  refine fU ?_
  refine⟨z_,?_⟩
  refine fW ?_
  generalize inB mem to=bm at *
  cases bm
  ·refine aF ?_
   rw[zA y_]at hlk
   have q3:=A0w n hn hu hD S ok i ⟨by omega,hi0⟩
   have ok':=ok.ext i
   have bk':=bk.ext (n:=n) (i:=i) ⟨by omega,by omega⟩
   generalize extT n S i=S' at *
   refine fU ?_
   refine Ag (Ad [(0,32),(1,1001),(2,1002),(3,1003),(4,1004)] E F24 q3 E ⟨E,E,E,E,Y⟩ E ⟨.inl E,.inl E,.inl E,.inl E,.inr E,Y⟩) E E ?_
   refine fU ?_
   refine iL ?_
   refine fW ?_
   exact Bd (S',i+1) [(1003,1004)] ⟨ok',bk'.1,by simp only;omega,by simp only;rw[show 2 * n.domains.length+1-(i+1)=fuel by omega];exact hlk⟩ (by simp only;omega)
    ⟨⟨rfl,rfl,rfl,rfl,rfl,rfl,rfl,rfl,trivial⟩,⟨.inl rfl,rfl,.inl rfl,rfl,.inl rfl,rfl,.inl rfl,rfl,trivial⟩,rfl,rfl⟩
  ·refine aT ?_
   rw[zC rfl]at hlk
   subst hlk
   have q4:=backS n S bk q_ i ⟨by omega,by omega⟩
   generalize backT S.list i=w at *
   refine fU ?_
   refine Ag (Ad [(0,32),(1,1001),(2,1002),(3,1003)] E F23 q4 E ⟨E,E,E,E,Y⟩ E ⟨.inl E,.inl E,.inl E,.inl E,Y⟩) E E ?_
   refine fU ?_
   exact dN
 ·have hlt:¬ i<S.list.length:=qB h
  rw[zA hlt]at hlk
  subst hlk
  refine fU ?_
  refine Ao 6 4 Cy E ?_
  refine fU ?_
  exact dN
end Go.Sy.YtljngfegfclkpaaGreat
namespace Go.Sy.YtljngfegfclkpaaGreat
open Go.Proofs
def X7 (n:Net) (h:Hop):Prop:=(0≤h.domain∧h.domain.toNat<n.domains.length)∧0≤h.addr∧h.addr<4294967296
theorem Avb {n:Net} {irb to e:Int} (he:e<4294967296):∀ {x:Int},0≤x→0≤(addrGo n irb to e x).1∧(addrGo n irb to e x).1<4294967296:=by
 intro x
 induction x using addrGo.induct n irb to e with
 | case1 x h1 h2=>intro h0;rw[addrGo,zC h1,zC h2];exact⟨h0,by simp only;omega⟩
 | case2 x h1 h2 h3=>intro h0;rw[addrGo,zC h1,zA h2,zC h3];decide
 | case3 x h1 h2 h3 h4 ih=>intro h0;rw[addrGo,zC h1,zA h2,zA h3,zC h4];exact ih q_
 | case4 x h1 h2 h3 h4=>intro h0;rw[addrGo,zC h1,zA h2,zA h3,zA h4];decide
 | case5 x h1=>intro h0;rw[addrGo,zA h1];decide
theorem Amr {n:Net} (hu:Dd n) (irb to:Int):0≤(addrT n irb to).1∧(addrT n irb to).1<4294967296:=by
 rw[addrT]
 split
 ·rename_i hc
  have hk:to.toNat<n.irbs.length:=by omega
  rw[Ae hk]
  have hui:=hu _ (zE hk)
  exact Avb (Wz _ _ hui).2 (Agd _ _ hui).1
 ·decide
theorem Alj {n:Net} {d:Int} {h:Hop} (hh:h∈C8 n d):X7 n h:=by
 refine⟨Kh hh,?_⟩
 rw[C8]at hh
 split at hh
 ·rcases yF.1 hh with hh | hh
  ·obtain ⟨p,_,hp⟩:=xN.1 hh
   rw[linkHop]at hp
   split at hp
   ·simp only[Option.some.injEq]at hp
    subst hp
    exact⟨by simp,by simp⟩
   ·cases hp
  ·obtain ⟨p,hp,rfl⟩:=yH.1 hh
   exact⟨by simp[Jd],by simp[Jd]⟩
 ·cases hh
theorem Ag9 {n:Net} (hu:Dd n) {d:Int} {q:Lead} (hq:q∈routesT n d):0≤q.addr∧q.addr<4294967296:=by
 rw[routesT]at hq
 split at hq
 ·obtain ⟨i,hi,hp⟩:=xN.1 hq
  rw[leadF]at hp
  split at hp
  ·simp only[Option.some.injEq]at hp
   subst hp
   exact Amr hu _ _
  ·cases hp
 ·cases hq
def HopsOK (n:Net) (l:List Fnd):Prop:=∀ f∈l,X7 n f.hop
theorem HopsOK.meet {n:Net} {S:Srch} (h:HopsOK n S.list) (d k:Int) {hp:Hop} (hh:X7 n hp) (a:Int):HopsOK n (meetT S d k hp a).list:=by
 rw[meetT]
 split
 ·exact h
 ·rw[Ls]
  split<;>(intro f hf;rcases yF.1 hf with hf | hf;exact h f hf;rw[zX]at hf;subst hf;exact hh)
theorem HopsOK.ext1 {n:Net} {k i:Int}:∀ {l:List Hop} {S:Srch},HopsOK n S.list→(∀ h∈l,X7 n h)→HopsOK n (ext1 S k i l).list
 | [],S,h,_=>h
 | x::l,S,h,hl=>HopsOK.ext1 (l:=l) (h.meet x.domain k (hl x y_) i) (λ y hy=>hl y (by simp[hy]))
theorem HopsOK.ext2 {n:Net} {i:Int}:∀ {l:List Lead} {S:Srch},HopsOK n S.list→(∀ q∈l,X7 n ⟨3,0,q.domain,q.addr⟩)→HopsOK n (ext2 S i l).list
 | [],S,h,_=>h
 | x::l,S,h,hl=>HopsOK.ext2 (l:=l) (h.meet x.domain 1 (hl x y_) i) (λ y hy=>hl y (by simp[hy]))
theorem HopsOK.ext {n:Net} (hu:Dd n) {S:Srch} (h:HopsOK n S.list) (i:Int):HopsOK n (extT n S i).list:=by
 rw[extT]
 split
 ·exact(h.ext1 (λ x hx=>Alj hx)).ext2 (λ q hq=>⟨Lj hq,Ag9 hu hq⟩)
 ·exact h.ext1 (λ x hx=>Alj hx)
theorem Ami {n:Net} {dev:Int} {l:List Int} (h:∀ v∈l,v≠0→0≤Bt n dev v∧(Bt n dev v).toNat<n.domains.length):HopsOK n (L3 n dev l).list:=by
 suffices hs:∀ (l:List Int) (S:Srch),HopsOK n S.list→(∀ v∈l,v≠0→0≤Bt n dev v∧(Bt n dev v).toNat<n.domains.length)→HopsOK n (l.foldl (Iq n dev) S).list from hs l _ (λ f hf=>by simp[I7]at hf) h
 intro l
 induction l with
 | nil=>exact λ S h _=>h
 | cons x l ih =>
  intro S hS hl
  refine ih _ ?_ (λ v hv=>hl v (by simp[hv]))
  rw[Iq]
  split
  ·exact hS
  ·rename_i hx
   exact hS.meet _ _ ⟨hl x y_ hx,by simp,by simp⟩ _
theorem Amk {l:List Fnd} (hB:Backs l) {P:Hop→Prop} (hP:∀ f∈l,P f.hop):∀ (k:Nat) (i:Int),i<k→i<l.length→(∀ h∈backC l i,P h)∧((backC l i).length:Int)≤i+1∨i<0:=by
 intro k
 induction k with
 | zero=>intro i hi _;exact .inr q_
 | succ k ih =>
  intro i hi hl
  by_cases h0:0≤i
  ·left
   have hk:i.toNat<l.length:=by omega
   have hb:=hB i.toNat hk
   rw[backC,Ae hk,dif_pos ⟨h0,by omega⟩]
   have hm:=hP _ (zE hk)
   rcases ih (l[i.toNat]'hk).ahead q_ q_ with ⟨h1,h2⟩ | h1
   ·refine⟨λ h hh=>?_,by rw[yJ];omega⟩
    rcases yB.1 hh with rfl | hh
    ·exact hm
    ·exact h1 h hh
   ·rw[backC,dif_neg (λ e=>by omega)]
    refine⟨λ h hh=>?_,by simp;omega⟩
    rw[zX]at hh
    subst hh
    exact hm
  ·exact .inr q_
theorem Aaf {l:List Fnd} (hB:Backs l) {P:Hop→Prop} (hP:∀ f∈l,P f.hop) {i:Nat} (hi:i<l.length):(∀ h∈backT l i,P h)∧(backT l i).length≤i+1∧backT l i≠[]:=by
 rcases Amk hB hP (i+1) i q_ q_ with ⟨h1,h2⟩ | h
 ·refine⟨λ h hh=>h1 h (by simpa [backT] using hh),by rw[backT,List.length_reverse];omega,?_⟩
  rw[backT]
  intro e
  have hk:((i:Nat):Int).toNat<l.length:=by simpa using hi
  have hb:=hB ((i:Nat):Int).toNat hk
  rw[backC,Ae hk,dif_pos ⟨by omega,by omega⟩]at e
  simp at e
 ·omega
theorem Ue {n:Net} (hu:Dd n) {to:Int}:∀ (k:Nat) (S:Srch) (i:Nat),S.OK n→Backs S.list→HopsOK n S.list→i≤S.list.length→(D4 n to k S i).2=true →
  (∀ h∈(D4 n to k S i).1,X7 n h)∧(D4 n to k S i).1.length≤2 * n.domains.length∧(D4 n to k S i).1≠[]
 | 0,S,i,_,_,_,_,h=>by cases h
 | k+1,S,i,ok,bk,hk,hi,h=>by
  rw[D4]at h ⊢
  split at h
  ·rename_i hlt
   rw[zC hlt]
   split at h
   ·rename_i hm2
    rw[zC hm2]
    have:=Aaf bk hk hlt
    have hle:=ok.le
    exact⟨this.1,by have:=this.2.1;simp only;omega,this.2.2⟩
   ·rename_i hm2
    rw[zA hm2]
    have bk':=bk.ext (n:=n) (i:=i) ⟨by omega,by omega⟩
    exact Ue hu k _ _ (ok.ext i) bk'.1 (hk.ext hu i) q_ h
  ·cases h
theorem Amz {n:Net} (hu:Dd n) {from_ to:Int} (h:(wayT n from_ to).2=true) :
  (∀ h∈(wayT n from_ to).1,X7 n h)∧(wayT n from_ to).1.length≤2 * n.domains.length∧(wayT n from_ to).1≠[]∧Ab n=true:=by
 rw[wayT]at h ⊢
 split at h
 ·rename_i hc
  rw[zC hc]
  have hp:=Jh hc.1
  have ok0:(beginT n from_).OK n:=by
   rw[beginT,Ae hp.2]
   exact T3 λ v hv h0=>I2 hc.2.2.2 hp.2 hv h0
  have hk0:HopsOK n (beginT n from_).list:=by
   rw[beginT,Ae hp.2]
   exact Ami λ v hv h0=>I2 hc.2.2.2 hp.2 hv h0
  have bk0:Backs (beginT n from_).list:=by rw[beginT];exact Qh _ _ _
  obtain ⟨h1,h2,h3⟩:=Ue hu _ _ _ ok0 bk0 hk0 (xP _) h
  exact⟨h1,h2,h3,hc.2.2.2⟩
 ·cases h
end Go.Sy.YtljngfegfclkpaaGreat
namespace Go.Sy.YtljngfegfclkpaaGreat
open Go.Proofs
attribute [local irreducible] Go.Sy.G Go.Sy.DR
set_option maxRecDepth 20000
set_option maxHeartbeats 8000000
theorem Adf {n:Net} (h:Ab n=true) {i:Nat} (hi:i<n.ports.length):0≤n.ports[i].native∧inB n.ports[i].tagged n.ports[i].native=false:=by
 have:=Apn h hi
 simp only[Iw,zB,zG,yK]at this
 exact⟨this.1.1.1.1.1.1.1.2,this.1.1.1.1.2⟩
theorem Auu {n:Net} (h:Ab n=true) {i:Nat} (hi:i<n.domains.length):n.domains[i].irb=-1∨InIrbs n n.domains[i].irb:=by
 have:=Aro h hi
 simp only[L4,Af,zB,yD,yA,zG]at this
 rcases this.1.2 with h1 | h1
 ·exact .inl h1
 ·exact .inr ⟨h1.1.1,by omega⟩
structure WayD where
 (hops:List Hop) (routed:Bool)
instance:Inhabited WayD:=⟨⟨[],false⟩⟩
end Go.Sy.YtljngfegfclkpaaGreat
namespace Go.Sy.YtljngfegfclkpaaGreat
open Go.Proofs
theorem Vi {α:Type} [Inhabited α] {l m:List α} {i:Int} (h:i.toNat<l.length):nth (l++m) i=nth l i:=by
 rw[nth,nth,xG h]
theorem Qi {l m:List Fnd} (hB:Backs l):∀ (k:Nat) (i:Int),i<k→i<l.length→backC (l++m) i=backC l i:=by
 intro k
 induction k with
 | zero =>
  intro i hi hl
  rw[backC,dif_neg (λ h=>by omega),backC,dif_neg (λ h=>by omega)]
 | succ k ih =>
  intro i hi hl
  by_cases h0:0≤i
  ·have hk:i.toNat<l.length:=by omega
   have hb:=hB i.toNat hk
   rw[backC,Vi hk,backC.eq_1 l i,Ae hk,dif_pos ⟨h0,by omega⟩,dif_pos ⟨h0,by omega⟩]
   rw[ih _ q_ q_]
  ·rw[backC,dif_neg (λ h=>h0 h.1),backC,dif_neg (λ h=>h0 h.1)]
theorem K8 {l m:List Fnd} (hB:Backs l) {i:Int} (h:i<l.length):backT (l++m) i=backT l i:=by
 rw[backT,backT,Qi hB (i+1).toNat i q_ h]
theorem Adv {l:List Fnd} (hB:Backs l) {f:Fnd} (hf:-1≤f.ahead∧f.ahead<l.length):backT (l++[f]) l.length=backT l f.ahead++[f.hop]:=by
 have e:nth (l++[f]) (l.length:Int)=f:=by
  rw[Ae (l:=l++[f]) (i:=(l.length:Int)) y_]
  simp
 rw[backT,backC,e,dif_pos ⟨by omega,by omega⟩,List.reverse_cons,Qi hB (f.ahead+1).toNat _ q_ q_]
 rfl
theorem Ap6 (l:List Fnd):backT l (-1)=[]:=by
 rw[backT,backC,dif_neg (λ h=>by omega)];rfl
structure Met (n:Net) (S:Srch):Prop where
 ok:S.OK n
 bk:Backs S.list
 dom:∀ f∈S.list,f.hop.domain=f.domain
 m:∀ d:Int,0≤d∧d.toNat<n.domains.length→∀ k:Int,(k=0∨k=1)→(O2 S d k=true↔∃ f∈S.list,f.domain=d∧f.kind=k)
theorem Akl {l:List Bool} {a b:Nat} (hb:b<l.length):(l.set a true)[b]? = if a=b then some true else l[b]?:=by
 rw[uF]
 split
 ·rename_i h;subst h;simp[hb]
 ·rfl
theorem Aom {n:Net} {S:Srch} (hS:S.OK n) {d k:Int} (hd:0≤d∧d.toNat<n.domains.length) (hk:k=0∨k=1) (h:Hop) (a:Int) (d2 k2:Int) (hd2:0≤d2∧d2.toNat<n.domains.length) (hk2:k2=0∨k2=1) :
  O2 (Ls S d k h a) d2 k2=true↔O2 S d2 k2=true∨(d2=d∧k2=k):=by
 have h0:d2.toNat<S.m0.length:=by rw[hS.l0];exact hd2.2
 have h1:d2.toNat<S.m1.length:=by rw[hS.l1];exact hd2.2
 have e:(d.toNat=d2.toNat)↔d2=d:=by omega
 rcases hk with rfl | rfl<;>rcases hk2 with rfl | rfl
 ·rw[Ls,zC rfl,O2,zC rfl,O2,zC rfl,nth,nth,Akl h0]
  by_cases h:d2=d
  ·rw[zC (e.2 h)];simp[h]
  ·rw[zA (λ x=>h (e.1 x))];simp[h]
 ·rw[Ls,zC rfl,O2,zA j_,O2,zA j_]
  simp
 ·rw[Ls,zA j_,O2,zC rfl,O2,zC rfl]
  simp
 ·rw[Ls,zA j_,O2,zA j_,O2,zA j_,nth,nth,Akl h1]
  by_cases h:d2=d
  ·rw[zC (e.2 h)];simp[h]
  ·rw[zA (λ x=>h (e.1 x))];simp[h]
theorem Vk (S:Srch) (d k:Int) (h:Hop) (a:Int):(Ls S d k h a).list=S.list++[⟨d,k,h,a⟩]:=by
 rw[Ls];split<;>rfl
theorem Met.meet {n:Net} {S:Srch} (hS:Met n S) {d k:Int} (hd:0≤d∧d.toNat<n.domains.length) (hk:k=0∨k=1) {h:Hop} (hh:h.domain=d) {a:Int} (ha:-1≤a∧a<S.list.length):Met n (meetT S d k h a) where
 ok:=hS.ok.meet hd hk h a
 bk:=(hS.bk.meet d k h ha).1
 dom:=by
  rw[meetT]
  split
  ·exact hS.dom
  ·rw[Vk]
   intro f hf
   rcases yF.1 hf with h1 | h1
   ·exact hS.dom f h1
   ·rw[zX.1 h1];exact hh
 m:=by
  rw[meetT]
  split
  ·exact hS.m
  ·intro d2 hd2 k2 hk2
   rw[Aom hS.ok hd hk h a d2 k2 hd2 hk2,hS.m d2 hd2 k2 hk2,Vk]
   constructor
   ·rintro (⟨f,hf,h1⟩ | ⟨rfl,rfl⟩)
    ·exact⟨f,vT _ hf,h1⟩
    ·exact⟨_,uC _ (zX.2 E),E,E⟩
   ·rintro ⟨f,hf,h1,h2⟩
    rcases yF.1 hf with h3 | h3
    ·exact .inl ⟨f,h3,h1,h2⟩
    ·rw[zX.1 h3]at h1 h2
     exact .inr ⟨h1.symm,h2.symm⟩
def A1f (n:Net) (x y:Int × Int):Prop:=(∃ h∈C8 n x.1,y=(h.domain,x.2))∨(x.2=0∧∃ q∈routesT n x.1,y=(q.domain,1))
def Amt (n:Net) (p:Int) (x:Int × Int):Prop:=∃ v∈(nth n.ports p).native::(nth n.ports p).tagged,v≠0∧x=(Bt n (nth n.ports p).dev v,0)
inductive Walk (n:Net) (p:Int):Nat→Int × Int→Prop
 | start {x:Int × Int}:Amt n p x→Walk n p 0 x
 | step {k:Nat} {x y:Int × Int}:Walk n p k x→A1f n x y→Walk n p (k+1) y
inductive HWay (n:Net) (p:Int):List Hop→Int × Int→Prop
 | start {d:Int}:Amt n p (d,0)→HWay n p [⟨0,0,d,0⟩] (d,0)
 | hop {l:List Hop} {x:Int × Int} {h:Hop}:HWay n p l x→h∈C8 n x.1→HWay n p (l++[h]) (h.domain,x.2)
 | lead {l:List Hop} {x:Int × Int} {q:Lead}:HWay n p l x→x.2=0→q∈routesT n x.1→HWay n p (l++[⟨3,0,q.domain,q.addr⟩]) (q.domain,1)
theorem HWay.walk {n:Net} {p:Int} {l:List Hop} {x:Int × Int} (h:HWay n p l x):∃ k,l.length=k+1∧Walk n p k x:=by
 induction h with
 | start hs=>exact⟨0,rfl,.start hs⟩
 | hop _ hh ih =>
  obtain ⟨k,h1,h2⟩:=ih
  exact⟨k+1,by rw[zI,h1];rfl,.step h2 (.inl ⟨_,hh,E⟩)⟩
 | lead _ h0 hq ih =>
  obtain ⟨k,h1,h2⟩:=ih
  exact⟨k+1,by rw[zI,h1];rfl,.step h2 (.inr ⟨h0,_,hq,E⟩)⟩
def lnC (l:List Fnd) (i:Int):Nat:=(backC l i).length
theorem Akw (l:List Fnd):lnC l (-1)=0:=by
 rw[lnC,backC,dif_neg (λ h=>by omega)];rfl
theorem O4 {l m:List Fnd} (hB:Backs l) {i:Int} (h:i<l.length):lnC (l++m) i=lnC l i:=by
 rw[lnC,Qi hB (i+1).toNat i q_ h,lnC]
theorem Axn {l:List Fnd} (hB:Backs l) {f:Fnd} (hf:-1≤f.ahead∧f.ahead<l.length):lnC (l++[f]) (l.length:Int)=lnC l f.ahead+1:=by
 have:=zD List.length (Adv hB hf)
 rw[zI,zM]at this
 simpa [backT,lnC] using this
theorem Akx (l:List Fnd) (i:Int):lnC l i=(backT l i).length:=by simp[lnC,backT]
theorem Si {l m:List Fnd} {b:Nat} (h:b<l.length):nth (l++m) (b:Int)=nth l (b:Int):=Vi (by simpa using h)
theorem Acd (l:List Fnd) (f:Fnd):nth (l++[f]) (l.length:Int)=f:=by
 rw[Ae (l:=l++[f]) (i:=(l.length:Int)) y_];simp
structure BI (n:Net) (p:Int) (S:Srch) (a:Int):Prop where
 met:Met n S
 mono:∀ b c:Nat,b≤c→c<S.list.length→lnC S.list b≤lnC S.list c
 bnd:∀ b:Nat,b<S.list.length→lnC S.list b≤lnC S.list a+1
 walk:∀ b:Nat,b<S.list.length→HWay n p (backT S.list b) ((nth S.list b).domain,(nth S.list b).kind)
def HasB (l:List Fnd) (x:Int × Int) (m:Nat):Prop:=∃ b:Nat,b<l.length∧(nth l (b:Int)).domain=x.1∧(nth l (b:Int)).kind=x.2∧lnC l (b:Int)≤m
theorem HasB.app {l e:List Fnd} (hB:Backs l) {x:Int × Int} {m:Nat}:HasB l x m→HasB (l++e) x m:=λ ⟨b,h1,h2,h3,h4⟩ =>
 ⟨b,by rw[zI];omega,by rw[Si h1];exact h2,by rw[Si h1];exact h3,by rw[O4 hB q_];exact h4⟩
theorem BI.meet {n:Net} {p:Int} {S:Srch} {a:Int} (h:BI n p S a) (ha:-1≤a∧a<S.list.length) {d k:Int} (hd:0≤d∧d.toNat<n.domains.length) (hk:k=0∨k=1) {hp:Hop} (hh:hp.domain=d) (hw:HWay n p (backT S.list a++[hp]) (d,k)) :
  BI n p (meetT S d k hp a) a∧HasB (meetT S d k hp a).list (d,k) (lnC S.list a+1)∧∃ e,(meetT S d k hp a).list=S.list++e:=by
 have hm:=h.met.meet hd hk hh ha
 have hB:=h.met.bk
 cases hb:O2 S d k with
 | true =>
  have e:meetT S d k hp a=S:=by rw[meetT,zC hb]
  rw[e]
  refine⟨h,?_,[],by simp⟩
  obtain ⟨f,hf,f1,f2⟩:=(h.met.m d hd k hk).1 hb
  obtain ⟨b,hbl,rfl⟩:=wX hf
  have e2:nth S.list (b:Int)=S.list[b]:=Ae (l:=S.list) (i:=((b:Nat):Int)) hbl
  exact⟨b,hbl,by rw[e2];exact f1,by rw[e2];exact f2,h.bnd b hbl⟩
 | false =>
  have e:(meetT S d k hp a).list=S.list++[⟨d,k,hp,a⟩]:=by rw[meetT,zA (by rw[hb];decide),Vk]
  have hlast:=Axn hB (f:=⟨d,k,hp,a⟩) ha
  have hla:lnC (S.list++[⟨d,k,hp,a⟩]) a=lnC S.list a:=O4 hB ha.2
  have hlen:(S.list++[(⟨d,k,hp,a⟩:Fnd)]).length=S.list.length+1:=by simp
  dsimp only at hlast
  have hcase:∀ b:Nat,b<(S.list++[(⟨d,k,hp,a⟩:Fnd)]).length→(b<S.list.length∧lnC (S.list++[⟨d,k,hp,a⟩]) (b:Int)=lnC S.list (b:Int))∨(b=S.list.length∧lnC (S.list++[⟨d,k,hp,a⟩]) (b:Int)=lnC S.list a+1):=λ b hb=>by
   by_cases hl:b<S.list.length
   ·exact .inl ⟨hl,O4 hB q_⟩
   ·have:b=S.list.length:=by omega
    subst this
    exact .inr ⟨E,hlast⟩
  refine⟨⟨hm,?_,?_,?_⟩,?_,[⟨d,k,hp,a⟩],e⟩
  ·rw[e]
   intro b c hbc hc
   rcases hcase c hc with ⟨c1,c2⟩ | ⟨c1,c2⟩<;>rcases hcase b q_ with ⟨b1,b2⟩ | ⟨b1,b2⟩
   ·rw[c2,b2];exact h.mono b c hbc c1
   ·omega
   ·rw[c2,b2];exact h.bnd b b1
   ·rw[c2,b2];exact zZ _
  ·rw[e]
   intro b hb
   rw[hla]
   rcases hcase b hb with ⟨b1,b2⟩ | ⟨b1,b2⟩
   ·rw[b2];exact h.bnd b b1
   ·rw[b2];exact zZ _
  ·rw[e]
   intro b hb
   rcases hcase b hb with ⟨b1,_⟩ | ⟨b1,_⟩
   ·rw[K8 hB q_,Si b1];exact h.walk b b1
   ·subst b1
    rw[Adv hB (f:=⟨d,k,hp,a⟩) ha,Acd]
    exact hw
  ·rw[e]
   exact⟨S.list.length,by omega,by rw[Acd],by rw[Acd],by rw[hlast];exact zZ _⟩
theorem BI.ext1 {n:Net} {p:Int} {a k:Int} (hk:k=0∨k=1):∀ {l:List Hop} {S:Srch},BI n p S a→(-1≤a∧a<S.list.length)→(∀ h∈l,(0≤h.domain∧h.domain.toNat<n.domains.length)∧HWay n p (backT S.list a++[h]) (h.domain,k)) →
  BI n p (Go.Sy.YtljngfegfclkpaaGreat.ext1 S k a l) a∧(∀ h∈l,HasB (Go.Sy.YtljngfegfclkpaaGreat.ext1 S k a l).list (h.domain,k) (lnC S.list a+1))∧∃ e,(Go.Sy.YtljngfegfclkpaaGreat.ext1 S k a l).list=S.list++e
 | [],S,h,_,_=>⟨h,λ _ hx=>(by cases hx),[],by simp[Go.Sy.YtljngfegfclkpaaGreat.ext1]⟩
 | x::l,S,h,ha,hl=>by
  obtain ⟨x1,x2⟩:=hl x y_
  obtain ⟨m1,m2,e,m3⟩:=h.meet ha x1 hk (hp:=x) rfl x2
  have hla:lnC (meetT S x.domain k x a).list a=lnC S.list a:=by rw[m3];exact O4 h.met.bk ha.2
  have hba:backT (meetT S x.domain k x a).list a=backT S.list a:=by rw[m3];exact K8 h.met.bk ha.2
  obtain ⟨i1,i2,e2,i3⟩:=BI.ext1 hk (l:=l) m1 ⟨ha.1,by rw[m3,zI];omega⟩ (λ y hy=>by rw[hba];exact hl y (by simp[hy]))
  refine⟨i1,λ y hy=>?_,e++e2,?_⟩
  ·rcases yB.1 hy with rfl | hy
   ·show HasB (Go.Sy.YtljngfegfclkpaaGreat.ext1 (meetT S y.domain k y a) k a l).list _ _
    rw[i3]
    exact m2.app m1.met.bk
   ·have:=i2 y hy
    rw[hla]at this
    exact this
  ·show (Go.Sy.YtljngfegfclkpaaGreat.ext1 (meetT S x.domain k x a) k a l).list=_
   rw[i3,m3,yU]
theorem BI.ext2 {n:Net} {p:Int} {a:Int}:∀ {l:List Lead} {S:Srch},BI n p S a→(-1≤a∧a<S.list.length)→(∀ h∈l,(0≤h.domain∧h.domain.toNat<n.domains.length)∧HWay n p (backT S.list a++[⟨3,0,h.domain,h.addr⟩]) (h.domain,1)) →
  BI n p (Go.Sy.YtljngfegfclkpaaGreat.ext2 S a l) a∧(∀ h∈l,HasB (Go.Sy.YtljngfegfclkpaaGreat.ext2 S a l).list (h.domain,1) (lnC S.list a+1))∧∃ e,(Go.Sy.YtljngfegfclkpaaGreat.ext2 S a l).list=S.list++e
 | [],S,h,_,_=>⟨h,λ _ hx=>(by cases hx),[],by simp[Go.Sy.YtljngfegfclkpaaGreat.ext2]⟩
 | x::l,S,h,ha,hl=>by
  obtain ⟨x1,x2⟩:=hl x y_
  obtain ⟨m1,m2,e,m3⟩:=h.meet ha x1 (.inr rfl) (hp:=⟨3,0,x.domain,x.addr⟩) rfl x2
  have hla:lnC (meetT S x.domain 1 ⟨3,0,x.domain,x.addr⟩ a).list a=lnC S.list a:=by rw[m3];exact O4 h.met.bk ha.2
  have hba:backT (meetT S x.domain 1 ⟨3,0,x.domain,x.addr⟩ a).list a=backT S.list a:=by rw[m3];exact K8 h.met.bk ha.2
  obtain ⟨i1,i2,e2,i3⟩:=BI.ext2 (l:=l) m1 ⟨ha.1,by rw[m3,zI];omega⟩ (λ y hy=>by rw[hba];exact hl y (by simp[hy]))
  refine⟨i1,λ y hy=>?_,e++e2,?_⟩
  ·rcases yB.1 hy with rfl | hy
   ·show HasB (Go.Sy.YtljngfegfclkpaaGreat.ext2 (meetT S y.domain 1 ⟨3,0,y.domain,y.addr⟩ a) a l).list _ _
    rw[i3]
    exact m2.app m1.met.bk
   ·have:=i2 y hy
    rw[hla]at this
    exact this
  ·show (Go.Sy.YtljngfegfclkpaaGreat.ext2 (meetT S x.domain 1 ⟨3,0,x.domain,x.addr⟩ a) a l).list=_
   rw[i3,m3,yU]
theorem BI.ext {n:Net} {p:Int} {S:Srch} {i:Nat} (h:BI n p S (i:Int)) (hi:i<S.list.length) :
  BI n p (extT n S (i:Int)) (i:Int)∧(∀ y,A1f n ((nth S.list (i:Int)).domain,(nth S.list (i:Int)).kind) y→HasB (extT n S (i:Int)).list y (lnC S.list (i:Int)+1))∧∃ e,(extT n S (i:Int)).list=S.list++e:=by
 have hw:=h.walk i hi
 have ha:-1≤(i:Int)∧(i:Int)<S.list.length:=⟨by omega,by omega⟩
 have hkk:=(h.met.ok.at_ _ (show nth S.list (i:Int)∈S.list by rw[Ae (l:=S.list) (i:=(i:Int)) (by simpa using hi)];exact zE _)).2
 rw[extT]
 by_cases h0:(nth S.list (i:Int)).kind=0
 ·rw[zC h0]
  obtain ⟨i1,i2,e,i3⟩:=h.ext1 (k:=0) (.inl rfl) (l:=C8 n (nth S.list (i:Int)).domain) ha (λ x hx=>⟨Kh hx,by have:=HWay.hop hw (h:=x) hx;dsimp only at this;rw[h0]at this;exact this⟩)
  have hba:backT (Go.Sy.YtljngfegfclkpaaGreat.ext1 S 0 (i:Int) (C8 n (nth S.list (i:Int)).domain)).list (i:Int)=backT S.list (i:Int):=by rw[i3];exact K8 h.met.bk ha.2
  have hla:lnC (Go.Sy.YtljngfegfclkpaaGreat.ext1 S 0 (i:Int) (C8 n (nth S.list (i:Int)).domain)).list (i:Int)=lnC S.list (i:Int):=by rw[i3];exact O4 h.met.bk ha.2
  obtain ⟨j1,j2,e2,j3⟩:=i1.ext2 (l:=routesT n (nth S.list (i:Int)).domain) ⟨ha.1,by rw[i3,zI];omega⟩ (λ x hx=>⟨Lj hx,by rw[hba];exact HWay.lead hw h0 hx⟩)
  refine⟨j1,?_,e++e2,by rw[j3,i3,yU]⟩
  rintro y (⟨x,hx,rfl⟩ | ⟨_,q,hq,rfl⟩)
  ·have:=i2 x hx
   rw[j3]
   rw[h0]
   exact this.app i1.met.bk
  ·have:=j2 q hq
   rw[hla]at this
   exact this
 ·have h1:(nth S.list (i:Int)).kind=1:=hkk.resolve_left h0
  rw[zA h0]
  obtain ⟨i1,i2,e,i3⟩:=h.ext1 (k:=1) (.inr rfl) (l:=C8 n (nth S.list (i:Int)).domain) ha (λ x hx=>⟨Kh hx,by have:=HWay.hop hw (h:=x) hx;dsimp only at this;rw[h1]at this;exact this⟩)
  refine⟨i1,?_,e,i3⟩
  rintro y (⟨x,hx,rfl⟩ | ⟨h2,_⟩)
  ·rw[h1]
   exact i2 x hx
  ·exact zW h2 h0
structure SI (n:Net) (p to:Int) (S:Srch) (i:Nat):Prop where
 met:Met n S
 mono:∀ b c:Nat,b≤c→c<S.list.length→lnC S.list b≤lnC S.list c
 bnd:i<S.list.length→∀ b:Nat,b<S.list.length→lnC S.list b≤lnC S.list i+1
 walk:∀ b:Nat,b<S.list.length→HWay n p (backT S.list b) ((nth S.list b).domain,(nth S.list b).kind)
 succ:∀ j:Nat,j<i→j<S.list.length→∀ y,A1f n ((nth S.list (j:Int)).domain,(nth S.list (j:Int)).kind) y→HasB S.list y (lnC S.list (j:Int)+1)
 start:∀ y,Amt n p y→HasB S.list y 1
 goal:∀ j:Nat,j<i→j<S.list.length→inB (At n (nth S.list (j:Int)).domain) to=false
theorem SI.far {n:Net} {p to:Int} {S:Srch} {i M:Nat} (h:SI n p to S i) (hP:∀ b:Nat,b<S.list.length→lnC S.list (b:Int)≤M→b<i):∀ (m:Nat) (x:Int × Int),Walk n p m x→m≤M→HasB S.list x (m+1)
 | 0,x,hw,_=>by
  cases hw with
  | start hs=>exact h.start x hs
 | m+1,x,hw,hm=>by
  cases hw with
  | step hw hs =>
   rename_i y
   obtain ⟨b,b1,b2,b3,b4⟩:=h.far hP m y hw q_
   obtain ⟨c,c1,c2,c3,c4⟩:=h.succ b (hP b b1 q_) b1 x (by rw[b2,b3];exact hs)
   exact⟨c,c1,c2,c3,by omega⟩
theorem SI.none {n:Net} {p to:Int} {S:Srch} {i M:Nat} (h:SI n p to S i) (hP:∀ b:Nat,b<S.list.length→lnC S.list (b:Int)≤M→b<i) {m:Nat} {x:Int × Int} (hw:Walk n p m x) (hg:inB (At n x.1) to=true):M≤m:=by
 by_cases hm:m<M
 ·obtain ⟨b,b1,b2,b3,b4⟩:=h.far hP m x hw q_
  have:=h.goal b (hP b b1 q_) b1
  rw[b2,hg]at this
  cases this
 ·omega
theorem SI.next {n:Net} {p to:Int} {S:Srch} {i:Nat} (h:SI n p to S i) (hi:i<S.list.length) (hg:inB (At n (nth S.list (i:Int)).domain) to=false):SI n p to (extT n S (i:Int)) (i+1)∧i+1≤(extT n S (i:Int)).list.length:=by
 obtain ⟨b1,b2,e,b3⟩:=BI.ext (p:=p) ⟨h.met,h.mono,h.bnd hi,h.walk⟩ hi
 have hB:=h.met.bk
 refine⟨⟨b1.met,b1.mono,λ hi2 b hb=>?_,b1.walk,λ j hj hjl y hy=>?_,λ y hy=>?_,λ j hj hjl=>?_⟩,?_⟩
 ·have h1:=b1.bnd b hb
  have h2:=b1.mono i (i+1) q_ hi2
  omega
 ·have hji:j<S.list.length:=by omega
  rw[b3,Si hji]at hy
  rw[b3,O4 hB q_,← b3]
  by_cases hje:j=i
  ·subst hje
   exact b2 y hy
  ·rw[b3]
   exact(h.succ j q_ hji y hy).app hB
 ·rw[b3]
  exact(h.start y hy).app hB
 ·have hji:j<S.list.length:=by omega
  rw[b3,Si hji]
  by_cases hje:j=i
  ·subst hje;exact hg
  ·exact h.goal j q_ hji
 ·rw[b3,zI];omega
theorem V9 {n:Net} {p to:Int}:∀ (k:Nat) (S:Srch) (i:Nat),SI n p to S i→i≤S.list.length→2 * n.domains.length+1≤i+k →
  ((D4 n to k S i).2=true→∃ m x,Walk n p m x∧inB (At n x.1) to=true∧(D4 n to k S i).1.length=m+1∧HWay n p (D4 n to k S i).1 x∧∀ m' x',Walk n p m' x'→inB (At n x'.1) to=true→m≤m') ∧
  ((D4 n to k S i).2=false→(D4 n to k S i).1=[]∧∀ m' x',Walk n p m' x'→inB (At n x'.1) to=true→False)
 | 0,S,i,h,hi,hk=>by
  have:=h.met.ok.le
  omega
 | k+1,S,i,h,hi,hk=>by
  rw[D4]
  by_cases hl:i<S.list.length
  ·rw[zC hl]
   cases hg:inB (At n (nth S.list (i:Int)).domain) to with
   | true =>
    rw[zC rfl]
    refine⟨λ _=>?_,λ hf=>by cases hf⟩
    have hH:=h.walk i hl
    obtain ⟨m,hm,hw⟩:=hH.walk
    rw[← Akx]at hm
    refine⟨m,_,hw,hg,?_,hH,λ m' x' hw' hg'=>?_⟩
    ·show (backT S.list (i:Int)).length=_
     rw[← Akx]
     exact hm
    ·refine h.none (M:=m) (λ b hb hbm=>?_) hw' hg'
     by_cases hbi:b<i
     ·exact hbi
     ·have:=h.mono i b q_ hb
      omega
   | false =>
    rw[zA j_]
    obtain ⟨h1,h2⟩:=h.next hl hg
    exact V9 k _ (i+1) h1 h2 q_
  ·rw[zA hl]
   refine⟨λ hf=>(by cases hf),λ _=>⟨rfl,λ m' x' hw' hg'=>?_⟩⟩
   have:=h.none (M:=m'+1) (λ b hb _=>by omega) hw' hg'
   omega
theorem Ayy {n:Net} (hr:Ab n=true) {p:Int} (hp:0≤p∧p.toNat<n.ports.length) (to:Int):SI n p to (beginT n p) 0:=by
 have e:nth n.ports p=n.ports[p.toNat]:=Ae hp.2
 have hv:∀ v∈(nth n.ports p).native::(nth n.ports p).tagged,v≠0→0≤Bt n (nth n.ports p).dev v∧(Bt n (nth n.ports p).dev v).toNat<n.domains.length:=by
  rw[e]
  exact λ v hv h0=>I2 hr hp.2 hv h0
 have key:∀ (l:List Int) (S:Srch),BI n p S (-1)→(∀ v∈l,v∈(nth n.ports p).native::(nth n.ports p).tagged)→BI n p (l.foldl (Iq n (nth n.ports p).dev) S) (-1)∧(∀ v∈l,v≠0→HasB (l.foldl (Iq n (nth n.ports p).dev) S).list (Bt n (nth n.ports p).dev v,0) 1)∧∃ x,(l.foldl (Iq n (nth n.ports p).dev) S).list=S.list++x:=by
  intro l
  induction l with
  | nil=>exact λ S h _=>⟨h,λ _ hx=>(by cases hx),[],by simp⟩
  | cons v l ih =>
   intro S h hl
   rw[wT,Iq]
   by_cases h0:v=0
   ·rw[zC h0]
    obtain ⟨i1,i2,x,i3⟩:=ih S h (λ w hw=>hl w (by simp[hw]))
    refine⟨i1,λ w hw hw0=>?_,x,i3⟩
    rcases yB.1 hw with rfl | hw
    ·exact zW h0 hw0
    ·exact i2 w hw hw0
   ·rw[zA h0]
    have hv1:=hl v y_
    obtain ⟨m1,m2,x,m3⟩:=h.meet (a:=-1) q_ (hv v hv1 h0) (.inl rfl) (hp:=⟨0,0,Bt n (nth n.ports p).dev v,0⟩) rfl (by rw[Ap6];exact .start ⟨v,hv1,h0,rfl⟩)
    obtain ⟨i1,i2,y,i3⟩:=ih _ m1 (λ w hw=>hl w (by simp[hw]))
    refine⟨i1,λ w hw hw0=>?_,x++y,by rw[i3,m3,yU]⟩
    rcases yB.1 hw with rfl | hw
    ·rw[i3]
     rw[Akw]at m2
     exact m2.app m1.met.bk
    ·exact i2 w hw hw0
 have h0:BI n p (I7 n) (-1):=by
  refine⟨⟨Ajo n,λ i hi=>by simp[I7]at hi,λ f hf=>by simp[I7]at hf,λ d hd k hk=>?_⟩,λ b c _ hc=>by simp[I7]at hc,λ b hb=>by simp[I7]at hb,λ b hb=>by simp[I7]at hb⟩
  constructor
  ·intro hm
   have:O2 (I7 n) d k=false:=by
    unfold O2 I7
    dsimp only
    split<;>(rw[Ae (by rw[xM];exact hd.2)];simp)
   rw[this]at hm
   cases hm
  ·rintro ⟨f,hf,_⟩
   simp[I7]at hf
 obtain ⟨i1,i2,x,i3⟩:=key ((nth n.ports p).native::(nth n.ports p).tagged) (I7 n) h0 (λ v hv=>hv)
 refine⟨i1.met,i1.mono,λ hl b hb=>?_,i1.walk,λ j hj=>by omega,?_,λ j hj=>by omega⟩
 ·have h1:=i1.bnd b hb
  rw[Akw]at h1
  show lnC (beginT n p).list (b:Int)≤_
  have h1:lnC (beginT n p).list (b:Int)≤0+1:=h1
  omega
 ·rintro y ⟨v,hv,h0,rfl⟩
  exact i2 v hv h0
theorem Ae1 {n:Net} {p to:Int}:((wayT n p to).2=true→Ab n=true∧Ji n p=true∧Ji n to=true∧p≠to∧∃ m x,Walk n p m x∧inB (At n x.1) to=true∧(wayT n p to).1.length=m+1∧HWay n p (wayT n p to).1 x∧∀ m' x',Walk n p m' x'→inB (At n x'.1) to=true→m≤m') ∧
  ((wayT n p to).2=false→(wayT n p to).1=[]∧(Ab n=true→Ji n p=true→Ji n to=true→p≠to→∀ m' x',Walk n p m' x'→inB (At n x'.1) to=true→False)):=by
 rw[wayT]
 split
 ·rename_i hc
  obtain ⟨s1,s2⟩:=V9 (2 * n.domains.length+1) (beginT n p) 0 (Ayy hc.2.2.2 (Jh hc.1) to) (xP _) q_
  exact⟨λ h=>⟨hc.2.2.2,hc.1,hc.2.1,hc.2.2.1,s1 h⟩,λ h=>⟨(s2 h).1,λ _ _ _ _=>(s2 h).2⟩⟩
 ·rename_i hc
  exact⟨λ h=>(by cases h),λ _=>⟨rfl,λ h1 h2 h3 h4=>zW ⟨h2,h3,h4,h1⟩ hc⟩⟩
theorem Ah2 {α:Type} {p:α→Bool} {l:List α} {i:Int} (h:Bg p l=i) (h0:0≤i):∃ hi:i.toNat<l.length,p l[i.toNat]=true:=by
 unfold Bg at h
 split at h
 ·rename_i j hj
  rw[xK]at hj
  obtain ⟨h1,h2,_⟩:=hj
  subst h
  exact⟨by simpa using h1,by simpa using h2⟩
 ·omega
theorem Hn {n:Net} {i:Int} (h:0≤Ay n i):(0≤i∧i.toNat<n.ports.length)∧0≤(nth n.ports i).link∧(nth n.ports i).link.toNat<n.links.length:=by
 have ht:=Dx h
 unfold Ay at h
 split at h
 ·rename_i hc
  have e1:nth n.ports i=n.ports[i.toNat]:=Ae ht.1.2
  rw[e1]at hc ⊢
  exact⟨ht.1,hc.2.1,(Ee hc.2.2 ht.1.2 hc.2.1).1⟩
 ·omega
theorem memberB_iff {p:Port} {v:Int}:Ce p v=true↔v≠0∧(v=p.native∨v∈p.tagged):=by
 simp[Ce,inB]
theorem Cs {n:Net} (hr:Ab n=true) {d p:Int} (hd:0≤d∧d.toNat<n.domains.length) :
  p∈At n d↔(0≤p∧p.toNat<n.ports.length)∧(nth n.ports p).dev=(nth n.domains d).dev∧Ce (nth n.ports p) (nth n.domains d).vlan=true:=by
 rw[At,zC ⟨⟨hd.1,by omega⟩,hr⟩,Au,Og]
 constructor
 ·rintro ⟨h1,h2,h3⟩
  rw[Qq,yQ h1]at h3
  simp only[zB,yA]at h3
  exact⟨⟨h1,by omega⟩,h3⟩
 ·rintro ⟨⟨h1,h2⟩,h3⟩
  refine⟨h1,by omega,?_⟩
  rw[Qq,yQ h1]
  simpa using h3
theorem Arp {n:Net} (hr:Ab n=true) {d:Int} (hd:0≤d∧d.toNat<n.domains.length):Cq n (nth n.domains d).dev (nth n.domains d).vlan=d:=by
 rw[Ae hd.2,(bareB_iff.1 (Aro hr hd.2)).2.2.2.2]
 exact yQ hd.1
theorem Adl {n:Net} {dev v:Int} (h:0≤Cq n dev v):(0≤Cq n dev v∧(Cq n dev v).toNat<n.domains.length)∧(nth n.domains (Cq n dev v)).dev=dev∧(nth n.domains (Cq n dev v)).vlan=v:=by
 have h0:Cq n dev v=Bg (λ d:Domain=>d.dev == dev && d.vlan == v) n.domains:=rfl
 obtain ⟨a,b⟩:=Ah2 (p:=λ d:Domain=>d.dev == dev && d.vlan == v) h0.symm h
 simp only[zB,yA]at b
 exact⟨⟨h,a⟩,by rw[Ae a];exact b.1,by rw[Ae a];exact b.2⟩
theorem Oz {n:Net} {p:Int} (h:0≤Ay n p):Ay n (Ay n p)=p:=by
 have ht:=Dx h
 have hr:=ht.2.1
 have hl:=Hn h
 obtain ⟨⟨p0,p1⟩,l0,l1⟩:=hl
 have e:Ay n p=if (nth n.links (nth n.ports p).link).a=p then (nth n.links (nth n.ports p).link).b else (nth n.links (nth n.ports p).link).a:=by
  rw[Ay,zC ⟨⟨p0,by omega⟩,l0,hr⟩]
 have hlk:Kx n (nth n.ports p).link.toNat (nth n.links (nth n.ports p).link)=true:=by
  have h2:=hr
  simp only[Ab,zB]at h2
  rw[Ae l1]
  exact allB_iff.1 h2.1.1.1.1.2 _ l1
 have hpl:=Ee hr p1 (by rw[← Ae p1];exact l0)
 rw[← Ae p1]at hpl
 have hcp:((p.toNat:Nat):Int)=p:=yQ p0
 have hcl:(((nth n.ports p).link.toNat:Nat):Int)=(nth n.ports p).link:=yQ l0
 rw[hcp]at hpl
 simp only[Kx,Af,zB,zG,yA,yV]at hlk
 rw[hcl]at hlk
 obtain ⟨⟨⟨⟨⟨a1,a2⟩,b1,b2⟩,hne⟩,la⟩,lb⟩:=hlk
 have hab:(nth n.links (nth n.ports p).link).a≠(nth n.links (nth n.ports p).link).b:=λ e=>hne (by rw[e])
 by_cases hp:(nth n.links (nth n.ports p).link).a=p
 ·rw[zC hp]at e
  have e2:Ay n (nth n.links (nth n.ports p).link).b=if (nth n.links (nth n.ports p).link).a=(nth n.links (nth n.ports p).link).b then (nth n.links (nth n.ports p).link).b else (nth n.links (nth n.ports p).link).a:=by
   rw[Ay,zC ⟨⟨b1,b2⟩,by rw[lb];exact l0,hr⟩,lb]
  rw[e,e2,zA hab,hp]
 ·rw[zA hp]at e
  have hpb:=hpl.2.resolve_left hp
  have e2:Ay n (nth n.links (nth n.ports p).link).a=(nth n.links (nth n.ports p).link).b:=by
   rw[Ay,zC ⟨⟨a1,a2⟩,by rw[la];exact l0,hr⟩,la,zC rfl]
  rw[e,e2,hpb]
theorem Oc {n:Net} (hr:Ab n=true) {d e p:Int} (hd:0≤d∧d.toNat<n.domains.length) (hp:p∈At n d) (h:linkDomT n p (nth n.domains d).vlan=(e,true)) :
  (0≤e∧e.toNat<n.domains.length)∧Ay n p∈At n e∧linkDomT n (Ay n p) (nth n.domains e).vlan=(d,true):=by
 obtain ⟨hp0,hp1,hp2⟩:=(Cs hr hd).1 hp
 have hin:=Ke (n:=n) (i:=p) (v:=(nth n.domains d).vlan) (by rw[h])
 rw[h]at hin
 dsimp only at hin
 refine⟨hin,?_⟩
 have hc:(crossT n p (nth n.domains d).vlan).2.2=true:=by
  cases hcc:(crossT n p (nth n.domains d).vlan).2.2
  ·rw[linkDomT,zA (by rw[hcc];decide)]at h;cases h
  ·rfl
 rw[linkDomT,zC hc]at h
 have hcr:0≤Ay n p∧Ce (nth n.ports p) (nth n.domains d).vlan=true∧C9 n p (nth n.domains d).vlan≠0:=by
  rw[crossT]at hc
  split at hc
  ·assumption
  ·cases hc
 rw[crossT,zC hcr]at h
 dsimp only at h
 obtain ⟨he,_⟩:=Prod.mk.inj h
 rw[Bt,zC hr]at he
 have hot:=Dx hcr.1
 have hq:0≤Ay n p∧(Ay n p).toNat<n.ports.length:=⟨hcr.1,hot.2.2⟩
 have hback:=Oz hcr.1
 generalize hqe:Ay n p=q at *
 generalize hve:(nth n.domains d).vlan=v at *
 have hdo:=Adl (n:=n) (dev:=(nth n.ports q).dev) (v:=C9 n p v) (by rw[he];exact hin.1)
 rw[he]at hdo
 obtain ⟨_,d1,d2⟩:=hdo
 obtain ⟨v0,hv⟩:=memberB_iff.1 hp2
 have nat_q:=(Adf hr hq.2).2
 have nat_p:=(Adf hr hp0.2).2
 rw[← Ae hq.2]at nat_q
 rw[← Ae hp0.2]at nat_p
 have hto0:=hcr.2.2
 have hto:C9 n p v=(if v=(nth n.ports p).native then (nth n.ports q).native else if inB (nth n.ports q).tagged v=true then v else 0):=by rw[C9,hqe]
 have hfrom:C9 n q (C9 n p v)=(if C9 n p v=(nth n.ports q).native then (nth n.ports p).native else if inB (nth n.ports p).tagged (C9 n p v)=true then C9 n p v else 0):=by rw[C9,hback]
 have hinb:∀ {l:List Int} {x:Int},inB l x=true↔x∈l:=by intro l x;simp[inB]
 have key:Ce (nth n.ports q) (C9 n p v)=true∧C9 n q (C9 n p v)=v:=by
  by_cases hn:v=(nth n.ports p).native
  ·rw[zC hn]at hto
   rw[hto]at hfrom ⊢
   rw[zC rfl]at hfrom
   rw[hto]at hto0
   exact⟨memberB_iff.2 ⟨hto0,.inl E⟩,by rw[hfrom,hn]⟩
  ·rw[zA hn]at hto
   cases hi:inB (nth n.ports q).tagged v with
   | false =>
    rw[hi,zA j_]at hto
    exact zW hto hto0
   | true =>
    rw[hi,zC rfl]at hto
    rw[hto]at hfrom ⊢
    have hne:v≠(nth n.ports q).native:=λ e=>by rw[← e,hi]at nat_q;cases nat_q
    rw[zA hne,zC (hinb.2 (hv.resolve_left hn))]at hfrom
    exact⟨memberB_iff.2 ⟨v0,.inr (hinb.1 hi)⟩,hfrom⟩
 refine⟨(Cs hr hin).2 ⟨hq,d1.symm,by rw[d2];exact key.1⟩,?_⟩
 rw[d2,linkDomT]
 have hcq:crossT n q (C9 n p v)=(p,v,true):=by
  rw[crossT,zC ⟨by rw[hback];exact hp0.1,key.1,by rw[key.2];exact v0⟩,hback,key.2]
 rw[hcq,zC rfl]
 dsimp only
 rw[Bt,zC hr,hp1,← hve,Arp hr hd]
theorem M6 {n:Net} (hr:Ab n=true) {d k:Int} (hd:0≤d∧d.toNat<n.domains.length) (hk:k∈(nth n.domains d).peers):(0≤k∧k.toNat<n.domains.length)∧d∈(nth n.domains k).peers:=by
 rw[Ae hd.2]at hk
 refine⟨Apo hr hd.2 hk,?_⟩
 have h:=hr
 simp only[Ab,zB]at h
 have h1:=allB_iff.1 h.1.1.1.1.1.1.2 _ hd.2
 obtain ⟨j,hj,e⟩:=yR.1 hk
 have h2:=allB_iff.1 h1 j hj
 rw[e]at h2
 simp only[M7,zB]at h2
 have h3:inB (nth n.domains k).peers ((d.toNat:Nat):Int)=true:=h2.1.2
 rw[yQ hd.1]at h3
 simpa [inB] using h3
theorem Aue {n:Net} {d:Int} {h:Hop} (hh:h∈C8 n d):∃ g∈C8 n h.domain,g.domain=d:=by
 have hin:=Kh hh
 rw[C8]at hh
 split at hh
 ·rename_i hd
  have hr:=hd.2
  have hdd:0≤d∧d.toNat<n.domains.length:=by have:=hd.1;omega
  rw[C8,zC ⟨⟨hin.1,by omega⟩,hr⟩]
  rcases yF.1 hh with hh | hh
  ·obtain ⟨p,hp,hl⟩:=xN.1 hh
   rw[linkHop]at hl
   split at hl
   ·rename_i hok
    cases hl
    obtain ⟨_,hq,hb⟩:=Oc hr hdd hp (e:=(linkDomT n p (nth n.domains d).vlan).1) (Prod.ext rfl hok)
    refine⟨⟨1,Ay n p,d,0⟩,vT _ (xN.2 ⟨Ay n p,hq,?_⟩),E⟩
    rw[linkHop,hb,zC rfl]
   ·cases hl
  ·obtain ⟨k,hk,rfl⟩:=yH.1 hh
   obtain ⟨_,hb⟩:=M6 hr hdd hk
   exact⟨Jd d,uC _ (yH.2 ⟨d,hb,E⟩),E⟩
 ·cases hh
inductive Path (n:Net):Nat→Int→Int→Prop
 | nil (d:Int):Path n 0 d d
 | snoc {k:Nat} {d e:Int} {h:Hop}:Path n k d e→h∈C8 n e→Path n (k+1) d h.domain
theorem Path.cons {n:Net} {d:Int} {h:Hop} (hh:h∈C8 n d):∀ {k:Nat} {e:Int},Path n k h.domain e→Path n (k+1) d e:=by
 intro k e hp
 generalize hx:h.domain=x at hp
 induction hp with
 | nil=>subst hx;exact .snoc (.nil d) hh
 | snoc _ hg ih=>exact .snoc (ih hx) hg
theorem Ank {n:Net} (hr:Ab n=true) {p d:Int} (hp:0≤p∧p.toNat<n.ports.length):Amt n p (d,0)↔(0≤d∧d.toNat<n.domains.length)∧inB (At n d) p=true:=by
 have e:nth n.ports p=n.ports[p.toNat]:=Ae hp.2
 constructor
 ·rintro ⟨v,hv,h0,he⟩
  obtain ⟨rfl,_⟩:=Prod.mk.inj he
  have hm:Ce (nth n.ports p) v=true:=memberB_iff.2 ⟨h0,by simpa using hv⟩
  rw[Bt,zC hr]
  have hd:=S8 hr hp.2 (by rw[← e];exact hm)
  rw[← e]at hd
  obtain ⟨d0,d1,d2⟩:=Adl (n:=n) (dev:=(nth n.ports p).dev) (v:=v) hd.1
  refine⟨d0,?_⟩
  have:=(Cs hr d0).2 ⟨hp,d1.symm,by rw[d2];exact hm⟩
  simpa [inB] using this
 ·rintro ⟨hd,hm⟩
  have hm:p∈At n d:=by simpa [inB] using hm
  obtain ⟨_,h1,h2⟩:=(Cs hr hd).1 hm
  obtain ⟨h3,h4⟩:=memberB_iff.1 h2
  refine⟨(nth n.domains d).vlan,by simpa using h4,h3,?_⟩
  rw[Bt,zC hr,h1,Arp hr hd]
theorem Azg {n:Net} (hr:Ab n=true) {p:Int} (hp:0≤p∧p.toNat<n.ports.length) {k:Nat} {x:Int × Int} (hw:Walk n p k x):0≤x.1∧x.1.toNat<n.domains.length:=by
 cases hw with
 | start hs =>
  obtain ⟨v,hv,h0,rfl⟩:=hs
  exact((Ank hr hp).1 ⟨v,hv,h0,E⟩).1
 | step _ hs =>
  rcases hs with ⟨h,hh,rfl⟩ | ⟨_,q,hq,rfl⟩
  ·exact Kh hh
  ·exact Lj hq
def Tj {α β:Type} (key:α→Option β) (l:List α):Prop:=∀ i j (hi:i<l.length) (hj:j<l.length),key l[i]≠none→key l[i]=key l[j]→i=j
theorem Aq6 {α β:Type} {key:α→Option β} {l e:List α} (h:Tj key l) (he:∀ x∈e,key x=none):Tj key (l++e):=by
 intro i j hi hj h1 h2
 rw[zI]at hi hj
 by_cases c:i<l.length
 ·by_cases d:j<l.length
  ·rw[yL c]at h1 h2
   rw[yL d]at h2
   exact h i j c d h1 h2
  ·exfalso
   rw[yY (show l.length≤j by omega),he _ (zE _)]at h2
   exact h1 h2
 ·exfalso
  rw[yY (show l.length≤i by omega),he _ (zE _)]at h1
  exact h1 E
theorem Aq5 {α β:Type} {key:α→Option β} {l:List α} (h:Tj key l) (k:Nat) {x:α} (hx:∀ y∈l,key y≠key x):Tj key (l.set k x):=by
 intro i j hi hj h1 h2
 rw[yE]at hi hj
 rw[wU]at h1
 rw[wU,wU]at h2
 by_cases c:k=i
 ·by_cases d:k=j
  ·omega
  ·rw[zC c,zA d]at h2
   exact zW h2.symm (hx _ (zE _))
 ·rw[zA c]at h1 h2
  by_cases d:k=j
  ·rw[zC d]at h2
   exact zW h2 (hx _ (zE _))
  ·rw[zA d]at h2
   exact h i j hi hj h1 h2
theorem O1 {α β:Type} {key:α→Option β} {l:List α} (h:Tj key l) (k:Nat) {x:α} (hx:∀ hk:k<l.length,key x=key l[k]):Tj key (l.set k x):=by
 have hs:∀ i (hi:i<l.length),key ((l.set k x)[i]'(by rw[yE];exact hi))=key l[i]:=by
  intro i hi
  rw[wU]
  split
  ·rename_i c
   subst c
   exact hx hi
  ·rfl
 intro i j hi hj h1 h2
 rw[yE]at hi hj
 rw[hs i hi]at h1 h2
 rw[hs j hj]at h2
 exact h i j hi hj h1 h2
theorem Az8 {α β:Type} {key:α→Option β} {l:List α} {f:α→α} (h:Tj key l) (hf:∀ x,key (f x)=key x):Tj key (l.map f):=by
 intro i j hi hj h1 h2
 rw[yP]at hi hj
 rw[wW,hf]at h1
 rw[wW,wW,hf,hf]at h2
 exact h i j hi hj h1 h2
theorem Aw1 {α β:Type} {key:α→Option β} {l:List α} (h:Tj key l) {x:α} (hx:∀ y∈l,key y≠key x):Tj key (l++[x]):=by
 intro i j hi hj h1 h2
 rw[zI,zM]at hi hj
 by_cases c:i<l.length
 ·rw[yL c]at h1 h2
  by_cases d:j<l.length
  ·rw[yL d]at h2
   exact h i j c d h1 h2
  ·exfalso
   have hj':j=l.length:=by omega
   subst hj'
   rw[List.getElem_concat_length rfl]at h2
   exact hx _ (zE c) h2
 ·have hi':i=l.length:=by omega
  subst hi'
  by_cases d:j<l.length
  ·exfalso
   rw[List.getElem_concat_length rfl,yL d]at h2
   exact hx _ (zE d) h2.symm
  ·omega
theorem Aiy {α:Type} {p:α→Bool} {l:List α} (h:Bg p l<0):∀ x∈l,p x=false:=by
 have h1:l.any p=false:=by rw[← Kg];exact zJ q_
 simpa [wQ] using h1
def vtK (d:Device):Option Int:=if d.vtep=0 then none else some d.vtep
def vnK (d:Domain):Option (Int × Int):=if d.vni=0 then none else some (d.dev,d.vni)
def irK (x:Irb):Option Int:=some x.addr
structure WitK (n:Net):Prop where
 vt:Tj vtK n.devices
 vn:Tj vnK n.domains
 ir:Tj irK n.irbs
 st:∀ s∈n.statics,Jf s.mac=false
theorem Agg:WitK emptyN:=⟨λ i j hi=>(by cases hi),λ i j hi=>(by cases hi),λ i j hi=>(by cases hi),λ s hs=>(by cases hs)⟩
theorem Ahc {l:LineM} (hk:l.kind=4) (h:C6 l=true):Jf l.mac=false:=by
 simp only[C6,Bh,hk,zB]at h
 simp only[statB,zB,yK]at h
 simp at h
 exact h.1.2.1.1.2
theorem Azx {n:Net} {l:LineM} (h:WitK n):WitK (putT n l).1:=by
 have e:=Agg
 rw[putT]
 split
 ·rw[putDevice]
  repeat' split
  all_goals (try exact e)
  exact⟨Aq6 h.vt (λ x hx=>by rw[zX.1 hx];rfl),h.vn,h.ir,h.st⟩
 split
 ·rw[putPort]
  repeat' split
  all_goals (try exact e)
  refine⟨h.vt,?_,h.ir,h.st⟩
  show Tj vnK (A7 (Ca n l.dev) n.domains (l.vlan::l.tagged))
  have key:∀ (vs:List Int) (ds:List Domain),Tj vnK ds→Tj vnK (A7 (Ca n l.dev) ds vs):=by
   intro vs
   induction vs with
   | nil=>exact λ ds hd=>hd
   | cons v vs ih =>
    intro ds hd
    refine ih (Ck (Ca n l.dev) ds v) ?_
    rw[Ck]
    split
    ·exact Aq6 hd (λ x hx=>by rw[zX.1 hx];rfl)
    ·exact hd
  exact key _ _ h.vn
 split
 ·rw[putLink]
  dsimp only
  repeat' split
  all_goals (try exact e)
  exact⟨h.vt,h.vn,h.ir,h.st⟩
 split
 ·rename_i h4
  rw[putStatic]
  dsimp only
  split
  ·exact e
  rename_i hf
  have hf:fitsB n l 4=true:=by simpa using hf
  rw[fitsB,zB,zB]at hf
  repeat' split
  all_goals (try exact e)
  refine⟨h.vt,h.vn,h.ir,λ s hs=>?_⟩
  rcases yF.1 hs with hs | hs
  ·exact h.st s hs
  ·rw[zX.1 hs]
   exact Ahc h4 (by simpa using hf.2.1)
 split
 ·rw[putVtep]
  dsimp only
  split
  ·exact e
  split
  ·exact e
  rename_i hc
  refine⟨?_,h.vn,h.ir,h.st⟩
  show Tj vtK (Vd n.devices (begT n l 5).1 l.addr)
  have h9:Cp n l.addr<0:=by omega
  have h9:=Aiy h9
  by_cases h0:l.addr=0
  ·have h1:¬ (nth n.devices (begT n l 5).1).vtep≠0:=λ hh=>hc (.inl hh)
   refine O1 h.vt _ λ hk=>?_
   have h2:(nth n.devices (begT n l 5).1).vtep=0:=Classical.byContradiction h1
   rw[Ae hk]at h2
   simp only[vtK,h0,h2]
  ·refine Aq5 h.vt _ λ y hy=>?_
   have h8:=h9 y hy
   simp at h8
   simp only[vtK,zA h0]
   split
   ·exact λ hh=>by cases hh
   ·exact λ hh=>h8 (Option.some.inj hh)
 split
 ·rw[putVni]
  dsimp only
  split
  ·exact e
  split
  ·exact e
  split
  ·exact e
  rename_i hc
  split
  ·exact e
  rename_i hv
  refine⟨h.vt,?_,h.ir,h.st⟩
  have hd:=Adl (n:=n) (dev:=(begT n l 6).1) (v:=l.vlan) q_
  have h9:H6 n (begT n l 6).1 l.num<0:=by omega
  have h9:=Aiy h9
  by_cases h0:l.num=0
  ·refine O1 h.vn _ λ hk=>?_
   have h2:(nth n.domains (Cq n (begT n l 6).1 l.vlan)).vni=0:=Classical.byContradiction λ hh=>hv (.inl hh)
   rw[Ae hk]at h2
   simp only[vnK,h0,h2,zC]
  ·refine Aq5 h.vn _ λ y hy=>?_
   have h8:=h9 y hy
   simp[h0]at h8
   simp only[vnK,zA h0,hd.2.1]
   split
   ·exact λ hh=>by cases hh
   ·intro hh
    have:=Option.some.inj hh
    simp only[Prod.mk.injEq]at this
    exact h8 this.1 this.2
 split
 ·rw[putFlood]
  dsimp only
  repeat' split
  all_goals (try exact e)
  exact⟨h.vt,h.vn,h.ir,h.st⟩
 split
 ·rw[putVrf]
  dsimp only
  repeat' split
  all_goals (try exact e)
  exact⟨h.vt,h.vn,h.ir,h.st⟩
 split
 ·rw[putIrb]
  dsimp only
  split
  ·exact e
  split
  ·exact e
  split
  ·exact e
  split
  ·exact e
  rename_i hc
  refine⟨h.vt,O1 h.vn _ λ hk=>?_,Aw1 h.ir λ y hy=>?_,h.st⟩
  ·rw[Ae hk];rfl
  ·have h9:n.irbs.any (clashB n (begT n l 9).1 l.addr l.bits)=false:=by
    cases hh:n.irbs.any (clashB n (begT n l 9).1 l.addr l.bits)
    ·rfl
    ·exact zW (.inr hh) hc
   rw[wQ]at h9
   have:=h9 y hy
   simp only[clashB,yD,yA,uK]at this
   exact λ hh=>this.1 (Option.some.inj hh)
 exact e
theorem Axc {n:Net} (h:WitK n):WitK (Bk n):=⟨h.vt,Az8 h.vn λ _=>rfl,h.ir,h.st⟩
theorem Ago:∀ (l:List LineM) (n:Net),WitK n→(B3 n l).2.2=0→WitK (B3 n l).1
 | [],n,hn,h=>by
  rw[B3,finishT]at h ⊢
  split at h
  ·rename_i h1;exact zW h h1
  rename_i h1
  rw[zA h1]
  split at h
  ·simp at h
  rename_i h2
  rw[zA h2]
  obtain ⟨e1,_⟩:=Md (n:=n) q_
  dsimp only
  rw[e1]
  exact Axc hn
 | x::l,n,hn,h=>by
  rw[B3]at h ⊢
  split at h
  ·rename_i h1;exact zW h h1
  rename_i h1
  rw[zA h1]
  exact Ago l _ (Azx hn) h
end Go.Sy.YtljngfegfclkpaaGreat
