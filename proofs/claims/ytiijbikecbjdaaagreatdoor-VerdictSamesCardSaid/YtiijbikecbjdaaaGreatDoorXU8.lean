/-
  E25 E26 E27 E28 E30 E31 E32 E19 E33 E34 I16 I17 I18 I12 I13 I14 I19 Sy30 Sy31 Sy32 Sy33 I27: parts of a proof, joined by program.
-/
import Derived.Test.YtiijbikecbjdaaaGreatDoorXU7
import Derived.Test.YtiijbikecbjdaaaGreatDoorXU5
import Derived.Test.YtiijbikecbjdaaaGreatDoorXU6
import Derived.Test.YtiijbikecbjdaaaGreatDoorXU4
set_option linter.all false
set_option linter.unusedVariables false
set_option linter.unusedSimpArgs false
set_option linter.deprecated false
namespace Go.Sy.YtiijbikecbjdaaaGreatDoor
open Go.Proofs
attribute [local irreducible] Go.Sy.G Go.Sy.DR
set_option maxRecDepth 20000
set_option maxHeartbeats 8000000
def ext1 (S:Srch) (k i:Int) (l:List Hop):Srch:=l.foldl (λ S h=>meetT S h.domain k h i) S
def ext2 (S:Srch) (i:Int) (l:List Lead):Srch:=l.foldl (λ S q=>meetT S q.domain 1 ⟨3,0,q.domain,q.addr⟩ i) S
def extT (n:Net) (S:Srch) (i:Int):Srch :=
 if (nth S.list i).kind=0 then ext2 (ext1 S 0 i (Kg n (nth S.list i).domain)) i (routesT n (nth S.list i).domain) else ext1 S 1 i (Kg n (nth S.list i).domain)
theorem Auo (S:Srch) (k i:Int) {l:List Hop} {j:Nat} {h:Hop} (hj:j<l.length) (hh:l[j]=h):ext1 S k i (l.take (j+1))=meetT (ext1 S k i (l.take j)) h.domain k h i:=by
 subst hh
 rw[ext1,vD,zO hj,xF]
 rfl
theorem Aun (S:Srch) (i:Int) {l:List Lead} {j:Nat} {q:Lead} (hj:j<l.length) (hh:l[j]=q):ext2 S i (l.take (j+1))=meetT (ext2 S i (l.take j)) q.domain 1 ⟨3,0,q.domain,q.addr⟩ i:=by
 subst hh
 rw[ext2,vD,zO hj,xF]
 rfl
theorem Srch.OK.ext1 {n:Net} {k i:Int} (hk:k=0∨k=1):∀ {l:List Hop} {S:Srch},S.OK n→(∀ h∈l,0≤h.domain∧h.domain.toNat<n.domains.length)→(ext1 S k i l).OK n
 | [],S,h,_=>h
 | x::l,S,h,hl=>Srch.OK.ext1 hk (l:=l) (h.meet (hl x y_) hk x i) (λ y hy=>hl y (by simp[hy]))
theorem Srch.OK.ext2 {n:Net} {i:Int}:∀ {l:List Lead} {S:Srch},S.OK n→(∀ h∈l,0≤h.domain∧h.domain.toNat<n.domains.length)→(ext2 S i l).OK n
 | [],S,h,_=>h
 | x::l,S,h,hl=>Srch.OK.ext2 (l:=l) (h.meet (hl x y_) (.inr rfl) _ i) (λ y hy=>hl y (by simp[hy]))
theorem Srch.OK.ext {n:Net} {S:Srch} (h:S.OK n) (i:Int):(extT n S i).OK n:=by
 rw[extT]
 split
 ·exact(h.ext1 (.inl E) (λ x hx=>X1 hx)).ext2 (λ x hx=>V2 hx)
 ·exact h.ext1 (.inr E) (λ x hx=>X1 hx)
theorem Ame {n:Net} (hn:n.Fin) (d:Int):(Kg n d).length<4294967296:=by
 have h1:=Jf n hn d
 unfold Ak at h1
 rw[Kg]
 split
 ·rename_i hd
  have hk:d.toNat<n.domains.length:=by have:=hd.1;omega
  have h2:=hn.peers _ (zJ hk)
  unfold Ak at h2
  have h3:=uQ (linkHop n d) (Cu n d)
  rw[hopsL,Aj hk,yE,xJ]
  omega
 ·decide
theorem Afi {n:Net} (hn:n.Fin) (d:Int):(routesT n d).length<4294967296:=by
 have h1:=hn.irbs
 unfold Ak at h1
 rw[routesT]
 split
 ·have:=U8 n (nth n.domains d).irb n.irbs.length
  omega
 ·decide
abbrev Av9 (n:Net) (S:Srch) (d k:Int):Obs:=[(0,.box [.sl 5 Au n.devices,.sl 7 A3 n.ports,.sl 3 Bw n.links,.sl 6 Ap n.domains,.sl 4 Az n.statics,.sl 4 Be n.floods,.sl 5 Ca n.vrfs,.sl 5 B3 n.irbs,.osl 1,.osl 2,.osl 1000]),
 (1,.row 1 Ab S.m0),(2,.row 1 Ab S.m1),(3,.non),(1000,.row 7 Vg S.list),(4,.box [Aa d,Aa k])]
theorem A0w (n:Net) (hn:n.Fin) (hu:C8 n) (hD:n.domains.length<1000000) (S:Srch) (hS:S.OK n) (i:Int) (hi:0≤i∧i.toNat<S.list.length) :
  Sq 76 [.ptr 0 0,Aa i] (Z9 n S) (.tup []) (Ww n (extT n S i)):=cT F76 Tryz.ntmps76 λ F hF=>by
 have hlk:=extT.eq_1 n S i
 rw[Aj hi.2]at hlk
 generalize extT n S i=res at *
 have hfk:=(hS.at_ _ (zJ hi.2)).2
 obtain ⟨f,hf⟩:∃ f,S.list[i.toNat]'hi.2=f:=⟨_,rfl⟩
 rw[hf]at hlk hfk
 obtain ⟨d,k,hp,ah⟩:=f
 dsimp only at hlk hfk
 have q1:=Aoz n hn d
 have q2:=Agb n hn hu d
 have hin1:=λ h=>X1 (n:=n) (d:=d) (h:=h)
 have hin2:=λ h=>V2 (n:=n) (d:=d) (q:=h)
 have hs1:=Ame hn d
 have hs2:=Afi hn d
 generalize Kg n d=hops at *
 generalize routesT n d=leads at *
 have ok1:∀ k,k=0∨k=1→∀ j,(ext1 S k i (hops.take j)).OK n:=λ k hk j=>hS.ext1 hk (λ x hx=>hin1 x (wK hx))
 have ok2:∀ j,(ext2 (ext1 S 0 i hops) i (leads.take j)).OK n:=λ j=>Srch.OK.ext2 (hS.ext1 (.inl rfl) (λ x hx=>hin1 x hx)) (λ x hx=>hin2 x (wK hx))
 have hsucc:=λ k j h hj hh=>Auo S k i (l:=hops) (j:=j) (h:=h) hj hh
 have hsucc2:=λ j h hj hh=>Aun (ext1 S 0 i hops) i (l:=leads) (j:=j) (q:=h) hj hh
 refine fW ?_
 refine⟨hi.1,hi.2,?_⟩
 refine fW ?_
 refine⟨by intro e;rw[e]at hi;simp at hi,?_⟩
 refine fW ?_
 refine⟨E,hi.2,?_⟩
 rw[hf]
 refine fW ?_
 rcases hfk with rfl | rfl
 ·rw[zE rfl]at hlk
  have ok1:=ok1 0 j_
  have hsucc:=hsucc 0
  refine fU ?_
  refine cD q1 F132 ?_
  refine fU ?_
  refine⟨z_,?_⟩
  refine fW ?_
  refine Tu 3 1000 E E j_ ?_
  refine A9 hops.length (λ j=>[(0,.ptr 0 0),(1,Aa i),(4,.ptr 4 0),(23,.sl 4 Cz hops),(24,Aa hops.length),(25,Aa j)]) (λ j=>Av9 n (ext1 S 0 i (hops.take j)) d 0) []
   ⟨⟨rfl,rfl,rfl,rfl,rfl,rfl,rfl,rfl,rfl,rfl,rfl,rfl,trivial⟩,⟨.inl rfl,rfl,.inl rfl,rfl,.inl rfl,rfl,.inl rfl,rfl,.inl rfl,rfl,.inl rfl,rfl,trivial⟩,rfl,rfl⟩ ?_
  intro j hj
  have okj:=ok1 j
  have lej:=okj.le
  have l0:=okj.l0
  have scj:=hsucc j
  generalize hSj:ext1 S 0 i (hops.take j)=Sj at *
  refine fU ?_
  constructor<;>intro h
  ·have hlt:j<hops.length:=by simpa using h
   have hj0:((j:Nat):Int).toNat<hops.length:=by simpa using hlt
   obtain ⟨hp,hhp⟩:∃ hp,hops[((j:Nat):Int).toNat]'hj0=hp:=⟨_,rfl⟩
   have hdi:=hin1 hp (by rw[← hhp];exact zJ _)
   have sc:=scj hp hlt hhp
   have q3:=Axo n Sj hp.domain hp i (by rw[l0];exact hdi) (by unfold Ak;omega)
   rw[← sc]at q3
   refine fU ?_
   refine⟨E,by omega,hj0,?_⟩
   rw[hhp]
   refine fW ?_
   refine Af (Ad [(0,0),(1,1),(2,2),(3,1000),(4,1001)] E F130 q3 E ⟨E,E,E,E,Y⟩ E ⟨.inl E,.inl E,.inl E,.inl E,.inr E,Y⟩) E E ?_
   refine fU ?_
   refine iL ?_
   refine fW ?_
   exact A2 [(1000,1001)] hlt ⟨⟨E,E,E,E,E,E,E,E,E,E,E,E,Y⟩,⟨.inl E,E,.inl E,E,.inl E,E,.inl E,E,.inl E,E,.inl E,E,Y⟩,E,E⟩
  ·have:j=hops.length:=qB h
   subst this
   rw[yG]at hSj
   simp only[hSj]at hlk ok2 hsucc2
   refine fU ?_
   refine cD q2 F133 ?_
   refine fU ?_
   refine⟨z_,?_⟩
   refine fW ?_
   refine A9 leads.length (λ j=>[(0,.ptr 0 0),(1,Aa i),(4,.ptr 4 0),(48,.sl 3 Lq leads),(49,Aa leads.length),(50,Aa j)]) (λ j=>Av9 n (ext2 Sj i (leads.take j)) d 0) []
    ⟨⟨rfl,rfl,rfl,rfl,rfl,rfl,rfl,rfl,rfl,rfl,rfl,rfl,trivial⟩,⟨.inl rfl,rfl,.inl rfl,rfl,.inl rfl,rfl,.inl rfl,rfl,.inl rfl,rfl,.inl rfl,rfl,trivial⟩,rfl,rfl⟩ ?_
   intro j hj
   have okj:=ok2 j
   have lej:=okj.le
   have l0:=okj.l1
   have scj:=hsucc2 j
   generalize hSk:ext2 Sj i (leads.take j)=Sk at *
   refine fU ?_
   constructor<;>intro h
   ·have hlt:j<leads.length:=by simpa using h
    have hj0:((j:Nat):Int).toNat<leads.length:=by simpa using hlt
    obtain ⟨hp,hhp⟩:∃ hp,leads[((j:Nat):Int).toNat]'hj0=hp:=⟨_,rfl⟩
    have hdi:=hin2 hp (by rw[← hhp];exact zJ _)
    have sc:=scj hp hlt hhp
    have q3:=Axn n Sk hp.domain ⟨3,0,hp.domain,hp.addr⟩ i (by rw[l0];exact hdi) (by unfold Ak;omega)
    rw[← sc]at q3
    refine fU ?_
    refine⟨E,by omega,hj0,?_⟩
    rw[hhp]
    refine fW ?_
    refine Af (Ad [(0,0),(1,1),(2,2),(3,1000),(4,1001)] E F130 q3 E ⟨E,E,E,E,Y⟩ E ⟨.inl E,.inl E,.inl E,.inl E,.inr E,Y⟩) E E ?_
    refine fU ?_
    refine iL ?_
    refine fW ?_
    exact A2 [(1000,1001)] hlt ⟨⟨E,E,E,E,E,E,E,E,E,E,E,E,Y⟩,⟨.inl E,E,.inl E,E,.inl E,E,.inl E,E,.inl E,E,.inl E,E,Y⟩,E,E⟩
   ·have:j=leads.length:=qB h
    subst this
    rw[yG]at hSk
    rw[hSk]at hlk
    subst hlk
    refine fU ?_
    exact A1 E .nil [(4,1000)] (Ww n _) (λ _ h=>h) E E ⟨Y,⟨.inl E,E,.inl E,E,.inl E,E,.inl E,E,.inl E,E,Y⟩,E,E⟩
 ·rw[zD j_]at hlk
  clear ok2 hsucc2 q2 hs2 hin2
  have ok1:=ok1 1 j_
  have hsucc:=hsucc 1
  refine fU ?_
  refine cD q1 F132 ?_
  refine fU ?_
  refine⟨z_,?_⟩
  refine fW ?_
  refine Tu 3 1000 E E j_ ?_
  refine A9 hops.length (λ j=>[(0,.ptr 0 0),(1,Aa i),(4,.ptr 4 0),(23,.sl 4 Cz hops),(24,Aa hops.length),(25,Aa j)]) (λ j=>Av9 n (ext1 S 1 i (hops.take j)) d 1) []
   ⟨⟨rfl,rfl,rfl,rfl,rfl,rfl,rfl,rfl,rfl,rfl,rfl,rfl,trivial⟩,⟨.inl rfl,rfl,.inl rfl,rfl,.inl rfl,rfl,.inl rfl,rfl,.inl rfl,rfl,.inl rfl,rfl,trivial⟩,rfl,rfl⟩ ?_
  intro j hj
  have okj:=ok1 j
  have lej:=okj.le
  have l0:=okj.l1
  have scj:=hsucc j
  generalize hSj:ext1 S 1 i (hops.take j)=Sj at *
  refine fU ?_
  constructor<;>intro h
  ·have hlt:j<hops.length:=by simpa using h
   have hj0:((j:Nat):Int).toNat<hops.length:=by simpa using hlt
   obtain ⟨hp,hhp⟩:∃ hp,hops[((j:Nat):Int).toNat]'hj0=hp:=⟨_,rfl⟩
   have hdi:=hin1 hp (by rw[← hhp];exact zJ _)
   have sc:=scj hp hlt hhp
   have q3:=Axn n Sj hp.domain hp i (by rw[l0];exact hdi) (by unfold Ak;omega)
   rw[← sc]at q3
   refine fU ?_
   refine⟨E,by omega,hj0,?_⟩
   rw[hhp]
   refine fW ?_
   refine Af (Ad [(0,0),(1,1),(2,2),(3,1000),(4,1001)] E F130 q3 E ⟨E,E,E,E,Y⟩ E ⟨.inl E,.inl E,.inl E,.inl E,.inr E,Y⟩) E E ?_
   refine fU ?_
   refine iL ?_
   refine fW ?_
   exact A2 [(1000,1001)] hlt ⟨⟨E,E,E,E,E,E,E,E,E,E,E,E,Y⟩,⟨.inl E,E,.inl E,E,.inl E,E,.inl E,E,.inl E,E,.inl E,E,Y⟩,E,E⟩
  ·have:j=hops.length:=qB h
   subst this
   rw[yG]at hSj
   rw[hSj]at hlk
   subst hlk
   refine fU ?_
   exact A1 E .nil [(4,1000)] (Ww n _) (λ _ h=>h) E E ⟨Y,⟨.inl E,E,.inl E,E,.inl E,E,.inl E,E,.inl E,E,Y⟩,E,E⟩
def L2 (n:Net) (dev:Int) (S:Srch) (v:Int):Srch:=if v=0 then S else meetT S (De n dev v) 0 ⟨0,0,De n dev v,0⟩ (-1)
def Wx (n:Net):Srch:=⟨List.replicate n.domains.length false,List.replicate n.domains.length false,[]⟩
def L1 (n:Net) (dev:Int) (l:List Int):Srch:=l.foldl (L2 n dev) (Wx n)
def beginT (n:Net) (port:Int):Srch:=L1 n (nth n.ports port).dev ((nth n.ports port).native::(nth n.ports port).tagged)
theorem Am7 (n:Net) (dev:Int) {l:List Int} {j:Nat} {v:Int} (hj:j<l.length) (hh:l[j]=v):L1 n dev (l.take (j+1))=L2 n dev (L1 n dev (l.take j)) v:=by
 subst hh
 rw[L1,vD,zO hj,xF]
 rfl
theorem Awa (n:Net):(Wx n).OK n:=⟨by simp[Wx],by simp[Wx],λ f hf=>by simp[Wx]at hf,by simp[Wx]⟩
theorem Uh {n:Net} {dev:Int} {l:List Int} (h:∀ v∈l,v≠0→0≤De n dev v∧(De n dev v).toNat<n.domains.length):(L1 n dev l).OK n:=by
 suffices hs:∀ (l:List Int) (S:Srch),S.OK n→(∀ v∈l,v≠0→0≤De n dev v∧(De n dev v).toNat<n.domains.length)→(l.foldl (L2 n dev) S).OK n from hs l _ (Awa n) h
 intro l
 induction l with
 | nil=>exact λ S h _=>h
 | cons x l ih =>
  intro S hS hl
  refine ih _ ?_ (λ v hv=>hl v (by simp[hv]))
  rw[L2]
  split
  ·exact hS
  ·rename_i hx
   exact hS.meet (hl x y_ hx) (.inl E) _ _
theorem Kl {n:Net} (hb:Ac n=true) {i:Nat} (hi:i<n.ports.length) {v:Int} (hv:v∈n.ports[i].native::n.ports[i].tagged) (h0:v≠0) :
  0≤De n n.ports[i].dev v∧(De n n.ports[i].dev v).toNat<n.domains.length:=by
 rw[De,zE hb]
 refine Yd hb hi ?_
 simp only[D0,zH,yQ,yO,yF]
 refine⟨h0,?_⟩
 rcases yI.1 hv with h | h
 ·exact .inl h
 ·exact .inr (uV.2 ⟨v,h,by simp⟩)
abbrev Acr (n:Net) (a b c:SV):Ob:=.box [.sl 5 Au n.devices,.sl 7 A3 n.ports,.sl 3 Bw n.links,.sl 6 Ap n.domains,.sl 4 Az n.statics,.sl 4 Be n.floods,.sl 5 Ca n.vrfs,.sl 5 B3 n.irbs,a,b,c]
abbrev Xm:SV:=.val (.slice none 0 0)
def madeO (n:Net):Nat→Obs
 | 0=>[(0,Acr n Xm Xm Xm)]
 | 1=>[(0,Acr n (.osl 1001) Xm Xm),(1001,.row 1 Ab (List.replicate n.domains.length false))]
 | _=>[(0,Acr n (.osl 1001) (.osl 1002) Xm),(1001,.row 1 Ab (List.replicate n.domains.length false)),(1002,.row 1 Ab (List.replicate n.domains.length false))]
abbrev srchB (n:Net) (S:Srch) (vs:List Int):Obs:=[(0,Acr n (.osl 1001) (.osl 1002) (.osl 1003)),(1001,.row 1 Ab S.m0),(1002,.row 1 Ab S.m1),(1003,.row 7 Vg S.list),(38,.row 1 Aa vs)]
theorem beginS (n:Net) (hn:n.Fin) (hb:Ac n=true) (hD:n.domains.length<1000000) (port:Int) (hp:0≤port∧port.toNat<n.ports.length) :
  Sq 72 [.ptr 0 0,Aa port] [(0,Acr n Xm Xm Xm)] (.tup []) (Z9 n (beginT n port)):=cT F72 Tryz.ntmps72 λ F hF=>by
 have hlk:=beginT.eq_1 n port
 rw[Aj hp.2]at hlk
 generalize beginT n port=res at *
 have hin:=λ v hv h0=>Kl hb hp.2 (v:=v) hv h0
 have hts:=hn.tagged _ (zJ hp.2)
 unfold Ak at hts
 obtain ⟨p,hpp⟩:∃ p,n.ports[port.toNat]'hp.2=p:=⟨_,rfl⟩
 rw[hpp]at hlk hin hts
 have hok:∀ j,(L1 n p.dev ((p.native::p.tagged).take j)).OK n:=λ j=>Uh λ v hv h0=>hin v (wK hv) h0
 have hsc:=λ j v hj hh=>Am7 n p.dev (l:=p.native::p.tagged) (j:=j) (v:=v) hj hh
 have hd:=λ v=>Jc n hn p.dev v
 refine fW ?_
 refine⟨E,hp.1,hp.2,?_⟩
 rw[hpp]
 refine fW ?_
 refine A7 4 7 (A3 p) E E E ?_
 refine A5 2 (λ _=>True) (λ j=>[(0,.ptr 0 0),(4,.ref 7 (A3 p) 0),(17,Aa j)]) (λ j=>madeO n j) [] Y ⟨⟨E,E,E,E,E,E,Y⟩,⟨.inl E,E,Y⟩,E,E⟩ ?_
 intro j hj _
 refine fU ?_
 constructor<;>intro h
 ·have hlt:j<2:=qA h
  have hj01:j=0∨j=1:=by omega
  rcases hj01 with rfl | rfl
  ·refine fU ?_
   refine Br (Bv Γ.toTy (d:=28) (n:=n.domains.length) Ab false E E E E E E E E q_ q_ E E E) z_ E ?_
   refine fU ?_
   refine⟨by decide,by decide,?_⟩
   refine fW ?_
   refine⟨z_,?_⟩
   refine fW ?_
   refine⟨by unfold I64;decide,?_⟩
   refine fW ?_
   exact A4 [(1001,28)] Y j_ Y ⟨⟨E,E,E,E,E,E,Y⟩,⟨.inl E,E,.inl E,E,Y⟩,E,E⟩
  ·refine fU ?_
   refine Br (Bv Γ.toTy (d:=28) (n:=n.domains.length) Ab false E E E E E E E E q_ q_ E E E) z_ E ?_
   refine fU ?_
   refine⟨by decide,by decide,?_⟩
   refine fW ?_
   refine⟨z_,?_⟩
   refine fW ?_
   refine⟨by unfold I64;decide,?_⟩
   refine fW ?_
   exact A4 [(1002,28)] Y j_ Y ⟨⟨E,E,E,E,E,E,Y⟩,⟨.inl E,E,.inl E,E,.inl E,E,Y⟩,E,E⟩
 ·have:j=2:=qB h
  subst this
  refine fU ?_
  refine Af (Ae Γ.toTy 38 E E E E E (.lit (e:=Aa) (l:=[p.native]) E E) .sl j_ (by simp;omega) (by simp;omega)) E E ?_
  refine On 0 10 1003 7 Vg E E E E ?_
  refine fU ?_
  generalize hvs:p.native::p.tagged=vs at *
  have hvl:vs.length=p.tagged.length+1:=by rw[← hvs];rfl
  refine A9 vs.length (λ j=>[(0,.ptr 0 0),(4,.ref 7 (A3 p) 0),(38,.osl 38),(39,Aa vs.length),(40,Aa j)]) (λ j=>srchB n (L1 n p.dev (vs.take j)) vs) []
   ⟨⟨rfl,rfl,rfl,rfl,rfl,rfl,zG Aa (by rw[hvl];rfl),rfl,rfl,rfl,trivial⟩,⟨.inl rfl,rfl,.inl rfl,rfl,.inl rfl,rfl,.inl rfl,rfl,.inl (zG (Ob.row 1 Aa) hvs.symm),rfl,trivial⟩,rfl,rfl⟩ ?_
  intro j hj
  have okj:=hok j
  have lej:=okj.le
  have l0:=okj.l0
  have scj:=hsc j
  generalize hSj:L1 n p.dev (vs.take j)=Sj at *
  refine fU ?_
  constructor<;>intro h
  ·have hlt:j<vs.length:=by simpa using h
   have hj0:((j:Nat):Int).toNat<vs.length:=by simpa using hlt
   obtain ⟨v,hv⟩:∃ v,vs[((j:Nat):Int).toNat]'hj0=v:=⟨_,rfl⟩
   have hmem:v∈vs:=by rw[← hv];exact zJ _
   have sc:=scj v hlt hv
   rw[L2]at sc
   have hdv:=hd v
   have hiv:=hin v hmem
   generalize De n p.dev v=dm at *
   refine fU ?_
   refine⟨by omega,hj0,?_⟩
   refine fW ?_
   refine⟨E,hj0,?_⟩
   rw[hv]
   refine fW ?_
   constructor<;>intro h
   ·have h0:v≠0:=by simpa using h
    rw[zD h0]at sc
    have q3:=Axo n Sj dm ⟨0,0,dm,0⟩ (-1) (by rw[l0];exact hiv h0) (by unfold Ak;omega)
    rw[← sc]at q3
    refine fU ?_
    refine cD hdv F129 ?_
    refine fU ?_
    refine⟨z_,?_⟩
    refine fW ?_
    refine Af (Ad [(0,0),(1,1001),(2,1002),(3,1003),(4,1004)] E F130 q3 E ⟨E,E,E,E,Y⟩ E ⟨.inl E,.inl E,.inl E,.inl E,.inr E,Y⟩) E E ?_
    refine fU ?_
    refine iL ?_
    refine fW ?_
    exact A2 [(1003,1004)] hlt ⟨⟨E,E,E,E,E,E,E,E,E,E,Y⟩,⟨.inl E,E,.inl E,E,.inl E,E,.inl E,E,.inl E,E,Y⟩,E,E⟩
   ·have h0:v=0:=by simpa using h
    rw[zE h0]at sc
    refine fU ?_
    refine iL ?_
    refine fW ?_
    exact A2 [] hlt ⟨⟨E,E,E,E,E,E,E,E,E,E,Y⟩,⟨.inl E,E,.inl (zG (λ S=>Ob.row 1 Ab (Srch.m0 S)) sc),E,.inl (zG (λ S=>Ob.row 1 Ab (Srch.m1 S)) sc),E,.inl (zG (λ S=>Ob.row 7 Vg (Srch.list S)) sc),E,.inl E,E,Y⟩,E,E⟩
  ·have:j=vs.length:=qB h
   subst this
   rw[yG]at hSj
   rw[hSj]at hlk
   subst hlk
   refine fU ?_
   exact A1 E .nil [(1,1001),(2,1002),(3,1003)] (Z9 n _) (λ _ h=>h) E E ⟨Y,⟨.inl E,E,.inl E,E,.inl E,E,.inl E,E,Y⟩,E,E⟩
theorem Akx (D:List Hop) (hl:D.length<4294967296):Sq 131 [.osl 0] [(0,.row 4 Cz D)] (.tup []) [(0,.row 4 Cz D.reverse)]:=cT F131 Tryz.ntmps131 λ F hF=>by
 refine fW ?_
 refine iL ?_
 refine fW ?_
 refine A9 (D.length / 2) (λ j=>[(0,.osl 0),(2,Aa j),(3,Aa ((D.length:Int)-1-j))]) (λ j=>[(0,.row 4 Cz (Q7 D j))]) []
  ⟨⟨rfl,rfl,rfl,rfl,zG (λ z=>SV.val (.int .i64 z)) q_,rfl,trivial⟩,⟨.inl (zG (Ob.row 4 Cz) (Zh D)),rfl,trivial⟩,rfl,rfl⟩ ?_
 intro i hi
 have hul:=Dg D i
 refine fU ?_
 constructor<;>intro h2
 ·have hlt:2 * i+1<D.length:=by have:=zK h2;omega
  obtain ⟨u,hu⟩:∃ u,Q7 D i=u:=⟨_,rfl⟩
  obtain ⟨k,hk⟩:∃ k,D.length-1-i=k:=⟨_,rfl⟩
  have hk2:(D.length:Int)-1-i=(k:Nat):=by omega
  rw[hu]at hul
  have hs:=Zi hu hlt hk q_ q_
  rw[hu,hk2]
  refine fU ?_
  refine⟨by omega,by omega,?_⟩
  refine fW ?_
  refine⟨E,by omega,?_⟩
  refine fW ?_
  refine⟨by omega,by omega,?_⟩
  refine fW ?_
  refine⟨E,by omega,?_⟩
  refine fW ?_
  refine⟨by omega,by omega,?_⟩
  refine fW ?_
  refine⟨E,by omega,u[k],E,E,?_⟩
  refine fW ?_
  refine⟨by omega,by simp;omega,?_⟩
  refine fW ?_
  refine⟨E,by simp;omega,u[i],E,E,?_⟩
  refine fW ?_
  refine⟨z_,?_⟩
  refine fW ?_
  refine iL ?_
  refine fW ?_
  refine iL ?_
  refine fW ?_
  refine A2 [] q_ ⟨⟨E,E,E,E,zG (λ z=>SV.val (.int .i64 z)) q_,E,Y⟩,⟨.inl (zG (Ob.row 4 Cz) hs.symm),E,Y⟩,E,E⟩
 ·have h3:D.length≤2 * i+1:=by have:=zT h2;omega
  rw[Ac5 D i h3]
  refine fU ?_
  exact A1 E .nil [] [(0,.row 4 Cz D.reverse)] (λ _ h=>h) E E ⟨Y,⟨.inl E,E,Y⟩,E,E⟩
def Tp (l:List Fnd) (i:Int):List Hop :=
 if _h:0≤i∧(nth l i).ahead<i then (nth l i).hop::Tp l (nth l i).ahead else []
 termination_by (i+1).toNat
 decreasing_by omega
def backT (l:List Fnd) (i:Int):List Hop:=(Tp l i).reverse
def Backs (l:List Fnd):Prop:=∀ i (h:i<l.length),-1≤l[i].ahead∧l[i].ahead<i
theorem Backs.snoc {l:List Fnd} (h:Backs l) {f:Fnd} (hf:-1≤f.ahead∧f.ahead<l.length):Backs (l++[f]):=λ i hi=>by
 by_cases hl:i<l.length
 ·rw[xI hl]
  exact h i hl
 ·have:i=l.length:=by simp at hi;omega
  subst this
  simpa using hf
theorem Backs.meet {S:Srch} (h:Backs S.list) (d k:Int) (hp:Hop) {a:Int} (ha:-1≤a∧a<S.list.length):Backs (meetT S d k hp a).list∧S.list.length≤(meetT S d k hp a).list.length:=by
 rw[meetT]
 split
 ·exact⟨h,yC _⟩
 ·rw[Aao]
  split
  ·exact⟨h.snoc ha,by simp⟩
  ·exact⟨h.snoc ha,by simp⟩
theorem Backs.ext1 {k i:Int}:∀ {l:List Hop} {S:Srch},Backs S.list→(-1≤i∧i<S.list.length)→Backs (ext1 S k i l).list∧S.list.length≤(ext1 S k i l).list.length
 | [],S,h,_=>⟨h,yC _⟩
 | x::l,S,h,hi=>by
  obtain ⟨h1,h2⟩:=h.meet x.domain k x hi
  obtain ⟨h3,h4⟩:=Backs.ext1 (k:=k) (i:=i) (l:=l) h1 ⟨hi.1,by omega⟩
  exact⟨h3,wJ h2 h4⟩
theorem Backs.ext2 {i:Int}:∀ {l:List Lead} {S:Srch},Backs S.list→(-1≤i∧i<S.list.length)→Backs (ext2 S i l).list∧S.list.length≤(ext2 S i l).list.length
 | [],S,h,_=>⟨h,yC _⟩
 | x::l,S,h,hi=>by
  obtain ⟨h1,h2⟩:=h.meet x.domain 1 ⟨3,0,x.domain,x.addr⟩ hi
  obtain ⟨h3,h4⟩:=Backs.ext2 (i:=i) (l:=l) h1 ⟨hi.1,by omega⟩
  exact⟨h3,wJ h2 h4⟩
theorem Backs.ext {n:Net} {S:Srch} (h:Backs S.list) {i:Int} (hi:0≤i∧i<S.list.length):Backs (extT n S i).list∧S.list.length≤(extT n S i).list.length:=by
 rw[extT]
 split
 ·obtain ⟨h1,h2⟩:=h.ext1 (k:=0) (i:=i) (l:=Kg n (nth S.list i).domain) ⟨by omega,hi.2⟩
  obtain ⟨h3,h4⟩:=h1.ext2 (i:=i) (l:=routesT n (nth S.list i).domain) ⟨by omega,by omega⟩
  exact⟨h3,wJ h2 h4⟩
 ·exact h.ext1 ⟨by omega,hi.2⟩
theorem Qp (n:Net) (dev:Int) (l:List Int):Backs (L1 n dev l).list:=by
 suffices hs:∀ (l:List Int) (S:Srch),Backs S.list→Backs (l.foldl (L2 n dev) S).list from hs l _ (λ i h=>by simp[Wx]at h)
 intro l
 induction l with
 | nil=>exact λ S h=>h
 | cons x l ih =>
  intro S hS
  refine ih _ ?_
  rw[L2]
  split
  ·exact hS
  ·exact(hS.meet _ _ _ ⟨by omega,by omega⟩).1
abbrev srchA (n:Net) (S:Srch) (l:List Hop):Obs:=[(0,Acr n (.osl 1) (.osl 2) (.osl 3)),(1,.row 1 Ab S.m0),(2,.row 1 Ab S.m1),(3,.row 7 Vg S.list),(1000,.row 4 Cz l)]
theorem backS (n:Net) (S:Srch) (hB:Backs S.list) (hl:S.list.length<4000000) (i:Int) (hi:-1≤i∧i<S.list.length) :
  Sq 75 [.ptr 0 0,Aa i] (Z9 n S) (.sl 4 Cz (backT S.list i)) (Z9 n S):=cT F75 Tryz.ntmps75 λ F hF=>by
 have hlk:=backT.eq_1 S.list i
 generalize backT S.list i=res at *
 refine fW ?_
 refine B9 5 1000 4 Cz E E ?_
 refine B6 (λ x:Int × List Hop=>(-1≤x.1∧x.1<S.list.length)∧x.2.length+(x.1+1).toNat≤S.list.length∧x.2++Tp S.list x.1=Tp S.list i)
  (λ x=>[(0,.ptr 0 0),(1,Aa x.1),(5,.osl 1000)]) (λ x=>srchA n S x.2) (λ x=>(x.1+1).toNat) (i,[]) [] ⟨hi,by simp;omega,rfl⟩
  ⟨⟨rfl,rfl,rfl,rfl,rfl,rfl,trivial⟩,⟨.inl rfl,rfl,.inl rfl,rfl,.inl rfl,rfl,.inl rfl,rfl,.inl rfl,rfl,trivial⟩,rfl,rfl⟩ ?_
 rintro ⟨z,acc⟩ ⟨hz,hal,hacc⟩
 dsimp only at hz hal hacc
 refine fU ?_
 constructor<;>intro h
 ·have h0:0≤z:=zK h
  have hk:z.toNat<S.list.length:=by omega
  have hb:=hB z.toNat hk
  rw[Tp,Aj hk]at hacc
  obtain ⟨f,hf⟩:∃ f,S.list[z.toNat]'hk=f:=⟨_,rfl⟩
  rw[hf]at hacc hb
  rw[dif_pos ⟨h0,by omega⟩]at hacc
  refine fU ?_
  refine⟨h0,hk,?_⟩
  refine fW ?_
  refine⟨by intro e;rw[e]at hk;simp at hk,?_⟩
  refine fW ?_
  refine⟨E,hk,?_⟩
  rw[hf]
  refine fW ?_
  refine Af (Ae Γ.toTy 26 E E E E E (.row E) (.lit (e:=Cz) (l:=[f.hop]) E E) y_ (by simp;omega) (by simp;omega)) E E ?_
  refine fU ?_
  refine⟨h0,hk,?_⟩
  refine fW ?_
  refine⟨by intro e;rw[e]at hk;simp at hk,?_⟩
  refine fW ?_
  refine⟨E,hk,?_⟩
  rw[hf]
  refine fW ?_
  exact Av (f.ahead,acc++[f.hop]) [(1000,26)] ⟨⟨hb.1,by omega⟩,by simp;omega,by rw[xQ];exact hacc⟩ (by simp only;omega)
   ⟨⟨rfl,rfl,rfl,rfl,rfl,rfl,trivial⟩,⟨.inl rfl,rfl,.inl rfl,rfl,.inl rfl,rfl,.inl rfl,rfl,.inl rfl,rfl,trivial⟩,rfl,rfl⟩
 ·have h0:¬ 0≤z:=zT h
  rw[Tp,dif_neg (λ e=>h0 e.1),xK]at hacc
  have q:=Akx acc q_
  rw[← hacc]at hlk
  refine fU ?_
  refine Af (Ad [(0,1000)] E F131 q E ⟨E,Y⟩ E ⟨.inl E,Y⟩) E E ?_
  refine Ag 1000 E ?_
  rw[← hlk]
  refine fU ?_
  exact done E (.cons .tmp .nil) [] (Z9 n S) (λ _ h=>h) E E ⟨Y,⟨.inl E,E,.inl E,E,.inl E,E,.inl E,E,Y⟩,E,E⟩
def Ik (n:Net) (to:Int):Nat→Srch→Nat→List Hop × Bool
 | 0,_,_=>([],false)
 | k+1,S,i=>if i<S.list.length then (if inB (Cu n (nth S.list i).domain) to=true then (backT S.list i,true) else Ik n to k (extT n S i) (i+1)) else ([],false)
def wayT (n:Net) (from_ to:Int):List Hop × Bool :=
 if Mf n from_=true∧Mf n to=true∧from_≠to∧Ac n=true then Ik n to (2 * n.domains.length+1) (beginT n from_) 0 else ([],false)
abbrev srchW (n:Net) (S:Srch):Obs:=[(32,Acr n (.osl 1001) (.osl 1002) (.osl 1003)),(1001,.row 1 Ab S.m0),(1002,.row 1 Ab S.m1),(1003,.row 7 Vg S.list)]
theorem X0 {n:Net} {i:Int} (h:Mf n i=true):0≤i∧i.toNat<n.ports.length:=by
 simp only[Mf,zH,zQ]at h
 omega
theorem wayS (n:Net) (hn:n.Fin) (hu:C8 n) (from_ to:Int):Sp 32 [Al n,Aa from_,Aa to] (.tup [.sl 4 Cz (wayT n from_ to).1,Ab (wayT n from_ to).2]):=cT F32 Tryz.ntmps32 λ F hF=>by
 have hlk:=wayT.eq_1 n from_ to
 generalize wayT n from_ to=res at *
 have hr:=Ax n hn
 have h1:=Wm n from_
 have h2:=Wm n to
 refine fW ?_
 refine A7 3 8 (Al n) E E E ?_
 refine fU ?_
 refine c0 h1 F33 ?_
 cases hf:Mf n from_
 ·rw[zD (by simp[hf])]at hlk
  subst hlk
  refine fU ?_
  refine Am 6 4 Cz E ?_
  refine fU ?_
  exact dN
 refine fU ?_
 refine c0 h2 F33 ?_
 cases ht:Mf n to
 ·rw[zD (by simp[ht])]at hlk
  subst hlk
  refine fU ?_
  refine Am 6 4 Cz E ?_
  refine fU ?_
  exact dN
 refine fU ?_
 constructor<;>intro h
 ·rw[zD (by have:from_=to:=(by simpa using h);simp[this])]at hlk
  subst hlk
  refine fU ?_
  refine Am 6 4 Cz E ?_
  refine fU ?_
  exact dN
 have hne:from_≠to:=by simpa using h
 refine fU ?_
 refine c0 hr F24 ?_
 cases hb:Ac n
 ·rw[zD (by simp[hb])]at hlk
  subst hlk
  refine fU ?_
  refine Am 6 4 Cz E ?_
  refine fU ?_
  exact dN
 rw[zE ⟨hf,ht,hne,hb⟩]at hlk
 have hD:n.domains.length<1000000:=by have:=(Ams hb).2.2.2.1;omega
 have hp:=X0 hf
 have q0:=beginS n hn hb hD from_ hp
 have ok0:(beginT n from_).OK n:=by
  rw[beginT,Aj hp.2]
  exact Uh λ v hv h0=>Kl hb hp.2 hv h0
 have bk0:Backs (beginT n from_).list:=by rw[beginT];exact Qp _ _ _
 generalize beginT n from_=S0 at *
 refine fU ?_
 refine Af (Ad [(0,32),(1,1001),(2,1002),(3,1003)] E F72 q0 E ⟨E,Y⟩ E ⟨.inl E,.inr E,.inr E,.inr E,Y⟩) E E ?_
 refine fU ?_
 refine B6 (λ x:Srch × Nat=>x.1.OK n∧Backs x.1.list∧x.2≤x.1.list.length∧res=Ik n to (2 * n.domains.length+1-x.2) x.1 x.2)
  (λ x=>[(2,Aa to),(3,.ref 8 (Al n) 0),(8,.ptr 32 0),(9,Aa x.2)]) (λ x=>srchW n x.1) (λ x=>2 * n.domains.length+1-x.2) (S0,0) [] ⟨ok0,bk0,xZ _,hlk⟩
  ⟨⟨rfl,rfl,rfl,rfl,rfl,rfl,rfl,rfl,trivial⟩,⟨.inl rfl,rfl,.inl rfl,rfl,.inl rfl,rfl,.inl rfl,rfl,trivial⟩,rfl,rfl⟩ ?_
 clear hlk ok0 bk0 q0
 rintro ⟨S,i⟩ ⟨ok,bk,hi,hlk⟩
 dsimp only at ok bk hi hlk ⊢
 have hle:=ok.le
 obtain ⟨fuel,hfu⟩:∃ k,2 * n.domains.length+1-i=k+1:=⟨2 * n.domains.length-i,by omega⟩
 rw[hfu,Ik]at hlk
 refine fU ?_
 constructor<;>intro h
 ·have hlt:i<S.list.length:=qA h
  have hi0:((i:Nat):Int).toNat<S.list.length:=by simpa using hlt
  rw[zE hlt,Aj hi0]at hlk
  obtain ⟨f,hf2⟩:∃ f,S.list[((i:Nat):Int).toNat]'hi0=f:=⟨_,rfl⟩
  rw[hf2]at hlk
  have q1:=Mq n hn f.domain
  have q2:=Do (Cu n f.domain) to (Jf n hn f.domain)
  generalize Cu n f.domain=mem at *
  refine fU ?_
  refine⟨by omega,hi0,?_⟩
  refine fW ?_
  refine⟨by intro e;rw[e]at hlt;simp at hlt,?_⟩
  refine fW ?_
  refine⟨by intro e;rw[e]at hlt;simp at hlt,?_⟩
  refine fW ?_
  refine⟨E,hi0,?_⟩
  rw[hf2]
  refine fW ?_
  refine cD q1 F74 ?_
  refine fU ?_
  refine cD q2 F73 ?_
  refine fU ?_
  refine⟨z_,?_⟩
  refine fW ?_
  generalize inB mem to=bm at *
  cases bm
  ·refine aF ?_
   rw[zD y_]at hlk
   have q3:=A0w n hn hu hD S ok i ⟨by omega,hi0⟩
   have ok':=ok.ext i
   have bk':=bk.ext (n:=n) (i:=i) ⟨by omega,by omega⟩
   generalize extT n S i=S' at *
   refine fU ?_
   refine Af (Ad [(0,32),(1,1001),(2,1002),(3,1003),(4,1004)] E F76 q3 E ⟨E,E,E,E,Y⟩ E ⟨.inl E,.inl E,.inl E,.inl E,.inr E,Y⟩) E E ?_
   refine fU ?_
   refine iL ?_
   refine fW ?_
   exact Av (S',i+1) [(1003,1004)] ⟨ok',bk'.1,by simp only;omega,by simp only;rw[show 2 * n.domains.length+1-(i+1)=fuel by omega];exact hlk⟩ (by simp only;omega)
    ⟨⟨rfl,rfl,rfl,rfl,rfl,rfl,rfl,rfl,trivial⟩,⟨.inl rfl,rfl,.inl rfl,rfl,.inl rfl,rfl,.inl rfl,rfl,trivial⟩,rfl,rfl⟩
  ·refine aT ?_
   rw[zE rfl]at hlk
   subst hlk
   have q4:=backS n S bk q_ i ⟨by omega,by omega⟩
   generalize backT S.list i=w at *
   refine fU ?_
   refine Af (Ad [(0,32),(1,1001),(2,1002),(3,1003)] E F75 q4 E ⟨E,E,E,E,Y⟩ E ⟨.inl E,.inl E,.inl E,.inl E,Y⟩) E E ?_
   refine fU ?_
   exact dN
 ·have hlt:¬ i<S.list.length:=qB h
  rw[zD hlt]at hlk
  subst hlk
  refine fU ?_
  refine Am 6 4 Cz E ?_
  refine fU ?_
  exact dN
end Go.Sy.YtiijbikecbjdaaaGreatDoor
namespace Go.Sy.YtiijbikecbjdaaaGreatDoor
open Go.Proofs
def Yv (n:Net) (h:Hop):Prop:=(0≤h.domain∧h.domain.toNat<n.domains.length)∧0≤h.addr∧h.addr<4294967296
theorem Avb {n:Net} {irb to e:Int} (he:e<4294967296):∀ {x:Int},0≤x→0≤(addrGo n irb to e x).1∧(addrGo n irb to e x).1<4294967296:=by
 intro x
 induction x using addrGo.induct n irb to e with
 | case1 x h1 h2=>intro h0;rw[addrGo,zE h1,zE h2];exact⟨h0,by simp only;omega⟩
 | case2 x h1 h2 h3=>intro h0;rw[addrGo,zE h1,zD h2,zE h3];decide
 | case3 x h1 h2 h3 h4 ih=>intro h0;rw[addrGo,zE h1,zD h2,zD h3,zE h4];exact ih q_
 | case4 x h1 h2 h3 h4=>intro h0;rw[addrGo,zE h1,zD h2,zD h3,zD h4];decide
 | case5 x h1=>intro h0;rw[addrGo,zD h1];decide
theorem Aze {n:Net} (hu:C8 n) (irb to:Int):0≤(addrT n irb to).1∧(addrT n irb to).1<4294967296:=by
 rw[addrT]
 split
 ·rename_i hc
  have hk:to.toNat<n.irbs.length:=by omega
  rw[Aj hk]
  have hui:=hu _ (zJ hk)
  exact Avb (Xw _ _ hui).2 (Ahk _ _ hui).1
 ·decide
theorem Amf {n:Net} {d:Int} {h:Hop} (hh:h∈Kg n d):Yv n h:=by
 refine⟨X1 hh,?_⟩
 rw[Kg]at hh
 split at hh
 ·rcases yP.1 hh with hh | hh
  ·obtain ⟨p,_,hp⟩:=vV.1 hh
   rw[linkHop]at hp
   split at hp
   ·simp only[Option.some.injEq]at hp
    subst hp
    exact⟨by simp,by simp⟩
   ·cases hp
  ·obtain ⟨p,hp,rfl⟩:=yV.1 hh
   exact⟨by simp[Mc],by simp[Mc]⟩
 ·cases hh
theorem Aif {n:Net} (hu:C8 n) {d:Int} {q:Lead} (hq:q∈routesT n d):0≤q.addr∧q.addr<4294967296:=by
 rw[routesT]at hq
 split at hq
 ·obtain ⟨i,hi,hp⟩:=vV.1 hq
  rw[leadF]at hp
  split at hp
  ·simp only[Option.some.injEq]at hp
   subst hp
   exact Aze hu _ _
  ·cases hp
 ·cases hq
def HopsOK (n:Net) (l:List Fnd):Prop:=∀ f∈l,Yv n f.hop
theorem HopsOK.meet {n:Net} {S:Srch} (h:HopsOK n S.list) (d k:Int) {hp:Hop} (hh:Yv n hp) (a:Int):HopsOK n (meetT S d k hp a).list:=by
 rw[meetT]
 split
 ·exact h
 ·rw[Aao]
  split<;>(intro f hf;rcases yP.1 hf with hf | hf;exact h f hf;rw[yD]at hf;subst hf;exact hh)
theorem HopsOK.ext1 {n:Net} {k i:Int}:∀ {l:List Hop} {S:Srch},HopsOK n S.list→(∀ h∈l,Yv n h)→HopsOK n (ext1 S k i l).list
 | [],S,h,_=>h
 | x::l,S,h,hl=>HopsOK.ext1 (l:=l) (h.meet x.domain k (hl x y_) i) (λ y hy=>hl y (by simp[hy]))
theorem HopsOK.ext2 {n:Net} {i:Int}:∀ {l:List Lead} {S:Srch},HopsOK n S.list→(∀ q∈l,Yv n ⟨3,0,q.domain,q.addr⟩)→HopsOK n (ext2 S i l).list
 | [],S,h,_=>h
 | x::l,S,h,hl=>HopsOK.ext2 (l:=l) (h.meet x.domain 1 (hl x y_) i) (λ y hy=>hl y (by simp[hy]))
theorem HopsOK.ext {n:Net} (hu:C8 n) {S:Srch} (h:HopsOK n S.list) (i:Int):HopsOK n (extT n S i).list:=by
 rw[extT]
 split
 ·exact(h.ext1 (λ x hx=>Amf hx)).ext2 (λ q hq=>⟨V2 hq,Aif hu hq⟩)
 ·exact h.ext1 (λ x hx=>Amf hx)
theorem Am8 {n:Net} {dev:Int} {l:List Int} (h:∀ v∈l,v≠0→0≤De n dev v∧(De n dev v).toNat<n.domains.length):HopsOK n (L1 n dev l).list:=by
 suffices hs:∀ (l:List Int) (S:Srch),HopsOK n S.list→(∀ v∈l,v≠0→0≤De n dev v∧(De n dev v).toNat<n.domains.length)→HopsOK n (l.foldl (L2 n dev) S).list from hs l _ (λ f hf=>by simp[Wx]at hf) h
 intro l
 induction l with
 | nil=>exact λ S h _=>h
 | cons x l ih =>
  intro S hS hl
  refine ih _ ?_ (λ v hv=>hl v (by simp[hv]))
  rw[L2]
  split
  ·exact hS
  ·rename_i hx
   exact hS.meet _ _ ⟨hl x y_ hx,by simp,by simp⟩ _
theorem Ana {l:List Fnd} (hB:Backs l) {P:Hop→Prop} (hP:∀ f∈l,P f.hop):∀ (k:Nat) (i:Int),i<k→i<l.length→(∀ h∈Tp l i,P h)∧((Tp l i).length:Int)≤i+1∨i<0:=by
 intro k
 induction k with
 | zero=>intro i hi _;exact .inr q_
 | succ k ih =>
  intro i hi hl
  by_cases h0:0≤i
  ·left
   have hk:i.toNat<l.length:=by omega
   have hb:=hB i.toNat hk
   rw[Tp,Aj hk,dif_pos ⟨h0,by omega⟩]
   have hm:=hP _ (zJ hk)
   rcases ih (l[i.toNat]'hk).ahead q_ q_ with ⟨h1,h2⟩ | h1
   ·refine⟨λ h hh=>?_,by rw[yN];omega⟩
    rcases yI.1 hh with rfl | hh
    ·exact hm
    ·exact h1 h hh
   ·rw[Tp,dif_neg (λ e=>by omega)]
    refine⟨λ h hh=>?_,by simp;omega⟩
    rw[yD]at hh
    subst hh
    exact hm
  ·exact .inr q_
theorem Abb {l:List Fnd} (hB:Backs l) {P:Hop→Prop} (hP:∀ f∈l,P f.hop) {i:Nat} (hi:i<l.length):(∀ h∈backT l i,P h)∧(backT l i).length≤i+1∧backT l i≠[]:=by
 rcases Ana hB hP (i+1) i q_ q_ with ⟨h1,h2⟩ | h
 ·refine⟨λ h hh=>h1 h (by simpa [backT] using hh),by rw[backT,List.length_reverse];omega,?_⟩
  rw[backT]
  intro e
  have hk:((i:Nat):Int).toNat<l.length:=by simpa using hi
  have hb:=hB ((i:Nat):Int).toNat hk
  rw[Tp,Aj hk,dif_pos ⟨by omega,by omega⟩]at e
  simp at e
 ·omega
theorem Ux {n:Net} (hu:C8 n) {to:Int}:∀ (k:Nat) (S:Srch) (i:Nat),S.OK n→Backs S.list→HopsOK n S.list→i≤S.list.length→(Ik n to k S i).2=true →
  (∀ h∈(Ik n to k S i).1,Yv n h)∧(Ik n to k S i).1.length≤2 * n.domains.length∧(Ik n to k S i).1≠[]
 | 0,S,i,_,_,_,_,h=>by cases h
 | k+1,S,i,ok,bk,hk,hi,h=>by
  rw[Ik]at h ⊢
  split at h
  ·rename_i hlt
   rw[zE hlt]
   split at h
   ·rename_i hm2
    rw[zE hm2]
    have:=Abb bk hk hlt
    have hle:=ok.le
    exact⟨this.1,by have:=this.2.1;simp only;omega,this.2.2⟩
   ·rename_i hm2
    rw[zD hm2]
    have bk':=bk.ext (n:=n) (i:=i) ⟨by omega,by omega⟩
    exact Ux hu k _ _ (ok.ext i) bk'.1 (hk.ext hu i) q_ h
  ·cases h
theorem wayT_facts {n:Net} (hu:C8 n) {from_ to:Int} (h:(wayT n from_ to).2=true) :
  (∀ h∈(wayT n from_ to).1,Yv n h)∧(wayT n from_ to).1.length≤2 * n.domains.length∧(wayT n from_ to).1≠[]∧Ac n=true:=by
 rw[wayT]at h ⊢
 split at h
 ·rename_i hc
  rw[zE hc]
  have hp:=X0 hc.1
  have ok0:(beginT n from_).OK n:=by
   rw[beginT,Aj hp.2]
   exact Uh λ v hv h0=>Kl hc.2.2.2 hp.2 hv h0
  have hk0:HopsOK n (beginT n from_).list:=by
   rw[beginT,Aj hp.2]
   exact Am8 λ v hv h0=>Kl hc.2.2.2 hp.2 hv h0
  have bk0:Backs (beginT n from_).list:=by rw[beginT];exact Qp _ _ _
  obtain ⟨h1,h2,h3⟩:=Ux hu _ _ _ ok0 bk0 hk0 (xZ _) h
  exact⟨h1,h2,h3,hc.2.2.2⟩
 ·cases h
theorem Ajw (a b:ByteArray):(a == b)=true↔a=b:=by
 cases a
 cases b
 rename_i x y
 show (x == y)=true↔_
 rw[yF]
 simp
end Go.Sy.YtiijbikecbjdaaaGreatDoor
namespace Go.Sy.YtiijbikecbjdaaaGreatDoor
open Go.Proofs
attribute [local irreducible] Go.Sy.G Go.Sy.DR
set_option maxRecDepth 100000
set_option maxHeartbeats 4000000
def U5 (i:Nat) (c:UInt8):Bool:=Axy c || (Jp c && decide (i≠0))
theorem Axh (s:ByteArray):Ay s=(Ho U5 s.data.toList && (decide (0<s.size) && decide (s.size≤12))):=by
 have hsz:s.data.toList.length=s.size:=rfl
 rw[Ay,← hsz]
 cases hl:s.data.toList with
 | nil=>rfl
 | cons c l =>
  have e:Ho U5 (c::l)=(Axy c && l.all λ c=>Axy c || Jp c):=by
   rw[wA,allB_iff,zH,yT]
   constructor
   ·intro h
    refine⟨by have:=h 0 y_;simpa [U5] using this,λ x hx=>?_⟩
    obtain ⟨i,hi,rfl⟩:=yY.1 hx
    have:=h (i+1) (by simp;omega)
    simpa [U5] using this
   ·rintro ⟨h1,h2⟩ i hi
    cases i with
    | zero=>simp[U5,h1]
    | succ i =>
     have:=h2 (l[i]'(by simp at hi;omega)) (zJ _)
     simpa [U5] using this
  rw[e,A1n]
  simp
theorem Ef (s:ByteArray) (hs:s.size≤1000000):Sp 46 [Ao s] (Ab (Ay s)):=cT F46 Tryz.ntmps46 λ F hF=>by
 have hsz:s.data.toList.length=s.size:=rfl
 have hw:=Axh s
 obtain ⟨r,hr⟩:∃ r,Ay s=r:=⟨_,rfl⟩
 rw[hr]at hw ⊢
 refine T ?_
 refine A5 s.size (λ j=>Hc U5 s.data.toList j) (λ j=>[(0,Ao s),(7,Aa s.size),(8,Aa j)]) (λ _=>[]) [] (Bj _ _) U ?_
 intro j hj hI
 refine T ?_
 constructor<;>intro h
 ·have hlt:j<s.data.toList.length:=qA h
  have hb:Bn s j=s.data.toList[j]:=Acb hlt
  have hno:=λ h=>C1 (p:=U5) hlt h
  have hnx:=λ h=>Bh (p:=U5) hI hlt h
  rw[← hb]at hno hnx
  clear h
  have hx:U5 j (Bn s j)=((decide (97≤(Bn s j).toNat) && decide ((Bn s j).toNat≤122)) || ((decide (48≤(Bn s j).toNat) && decide ((Bn s j).toNat≤57)) && decide (j≠0))):=rfl
  rcases (by omega:(Bn s j).toNat<48∨(48≤(Bn s j).toNat∧(Bn s j).toNat≤57)∨(57<(Bn s j).toNat∧(Bn s j).toNat<97)∨(97≤(Bn s j).toNat∧(Bn s j).toNat≤122)∨122<(Bn s j).toNat) with h | h | h | h | h
  ·rw[hno (by rw[hx,zI (by omega:¬ 97≤(Bn s j).toNat),zI (by omega:¬ 48≤(Bn s j).toNat)];rfl),yA]at hw
   subst hw
   refine T ?_
   exact D
  ·by_cases h0:j=0
   ·subst h0
    rw[hno (by rw[hx,zI (by omega:¬ 97≤(Bn s 0).toNat)];simp),yA]at hw
    subst hw
    refine T ?_
    exact D
   ·refine T ?_
    exact A4 [] hI q_ (hnx (by rw[hx];simp[h,h0])) U
  ·rw[hno (by rw[hx,zI (by omega:¬ 97≤(Bn s j).toNat),zI (by omega:¬ (Bn s j).toNat≤57)];simp),yA]at hw
   subst hw
   refine T ?_
   exact D
  ·refine T ?_
   exact A4 [] hI q_ (hnx (by rw[hx];simp[h])) U
  ·rw[hno (by rw[hx,zI (by omega:¬ (Bn s j).toNat≤122),zI (by omega:¬ (Bn s j).toNat≤57)];simp),yA]at hw
   subst hw
   refine T ?_
   exact D
 ·have hje:j=s.size:=qB h
  subst hje
  rw[Er hI (yC _),zZ]at hw
  clear h
  subst hw
  by_cases h0:0<s.size
  ·refine T ?_
   refine⟨λ _=>?_,λ h=>yB (zT h) q_⟩
   refine T ?_
   refine Aq E (.cons .tmp .nil) (zG Ab ?_) E
   rw[zR h0,zZ]
   exact decide_eq_decide.2 q_
  ·rw[zI h0,yA]
   refine T ?_
   exact D
theorem Agx (c:UInt8):Sp 222 [Ah c] (Bf (digI c)):=cT F222 Tryz.ntmps222 λ F hF=>by
 have hres:=digI.eq_1 c
 generalize digI c=res at *
 have hcn:=c.toNat_lt
 rcases (by omega:c.toNat<48∨(48≤c.toNat∧c.toNat≤57)∨(57<c.toNat∧c.toNat<97)∨(97≤c.toNat∧c.toNat≤102)∨102<c.toNat) with h | h | h | h | h
 ·rw[zD q_,zD q_]at hres
  subst hres
  refine T ?_
  exact D
 ·rw[zE q_]at hres
  subst hres
  refine T ?_
  refine Aq E (.cons .tmp .nil) ?_ E
  refine zG (λ z=>SV.val (.int .u64 z)) (?_:_=IntKind.u64.wrap (IntKind.u8.wrap ((c.toNat:Int)-48)))
  rw[IntKind.wrap_u8,IntKind.wrap_u64];omega
 ·rw[zD q_,zD q_]at hres
  subst hres
  refine T ?_
  exact D
 ·rw[zD q_,zE q_]at hres
  subst hres
  refine T ?_
  refine Aq E (.cons .tmp .nil) ?_ E
  refine zG (λ z=>SV.val (.int .u64 z)) (?_:_=IntKind.u64.wrap (IntKind.u64.wrap (IntKind.u8.wrap ((c.toNat:Int)-97))+10))
  rw[IntKind.wrap_u8,IntKind.wrap_u64,IntKind.wrap_u64];omega
 ·rw[zD q_,zD q_]at hres
  subst hres
  refine T ?_
  exact D
theorem V4 {s:ByteArray}:∀ {j:Nat},(∀ i,i<j→Xq s i=true)→0≤Un s j∧Un s j<256 ^ j
 | 0,_=>by simp[Un]
 | j+1,h=>by
  have ih:=V4 (s:=s) (j:=j) (λ i hi=>h i q_)
  have hj:=h j q_
  simp only[Xq,zH,zQ]at hj
  have d1:=Ab7 (Bn s (3 * j))
  have d2:=Ab7 (Bn s (3 * j+1))
  rw[Un,Int.pow_succ]
  omega
theorem Axr (m a b:Nat) (hm:m<72057594037927936) (ha:a<16) (hb:b<16):bits .or .u64 (bits .or .u64 (IntKind.u64.wrap ((m:Int) * 2 ^ min (Int.toNat 8) IntKind.u64.bits)) (IntKind.u64.wrap ((a:Int) * 2 ^ min (Int.toNat 4) IntKind.u64.bits))) (b:Int)=((m * 256+a * 16+b:Nat):Int):=by
 have e1:IntKind.u64.wrap ((m:Int) * 2 ^ min (Int.toNat 8) IntKind.u64.bits)=((m * 256:Nat):Int):=by
  show IntKind.u64.wrap ((m:Int) * 256)=_
  rw[IntKind.wrap_u64];omega
 have e2:IntKind.u64.wrap ((a:Int) * 2 ^ min (Int.toNat 4) IntKind.u64.bits)=((a * 16:Nat):Int):=by
  show IntKind.u64.wrap ((a:Int) * 16)=_
  rw[IntKind.wrap_u64];omega
 have o1:=xD (i:=8) (b:=a * 16) q_ m
 have o2:=xD (i:=4) (b:=b) q_ (m * 16+a)
 have f1:m * 256 ||| a * 16=m * 256+a * 16:=by rw[vH m 256];exact o1.symm
 have f2:(m * 256+a * 16) ||| b=m * 256+a * 16+b:=by
  have e:m * 256+a * 16=2 ^ 4 * (m * 16+a):=by omega
  rw[e];exact o2.symm
 rw[e1,e2,bits_or_u64_nat _ _ q_ q_,f1,bits_or_u64_nat _ _ q_ q_,f2]
theorem macR_no {s:ByteArray} {j:Nat} (hj:j<6) (h:Xq s j=false):macR s=(0,false):=by
 rw[macR,zD]
 rintro ⟨_,h2⟩
 rw[yT]at h2
 rw[h2 j (xM.2 hj)]at h;cases h
theorem Axs (s:ByteArray) (hs:s.size≤1000000):Sp 163 [Ao s] (.tup [Bf (macR s).1,Ab (macR s).2]):=cT F163 Tryz.ntmps163 λ F hF=>by
 have hno:=@macR_no s
 have hyes:=macR.eq_1 s
 generalize macR s=res at *
 by_cases h17:s.size=17
 rotate_left
 ·rw[zD (λ e=>h17 e.1)]at hyes
  subst hyes
  refine T ?_
  exact D
 refine T ?_
 refine A5 6 (λ j=>∀ i,i<j→Xq s i=true) (λ j=>[(0,Ao s),(4,Bf (Un s j)),(11,Aa j)]) (λ _=>[]) [] (λ i hi=>by omega) U ?_
 intro j hj hI
 have hmv:=V4 hI
 refine T ?_
 constructor<;>intro h
 ·have hlt:j<6:=qA h
  have hno:=hno hlt
  clear h
  have i0:(3 * ((j:Nat):Int)).toNat=3 * j:=by omega
  have i1:(3 * ((j:Nat):Int)+1).toNat=3 * j+1:=by omega
  have i2:(3 * ((j:Nat):Int)+2).toNat=3 * j+2:=by omega
  have hx:Xq s j=(decide (digI (Bn s (3 * j))≤15) && decide (digI (Bn s (3 * j+1))≤15) && (decide (5≤j) || decide ((Bn s (3 * j+2)).toNat=58))):=rfl
  have hv:Un s (j+1)=Un s j * 256+digI (Bn s (3 * j)) * 16+digI (Bn s (3 * j+1)):=rfl
  rw[← i1,← i2,← i0]at hx
  rw[← i1,← i0]at hv
  have d1:=Ab7 (Bn s (3 * ((j:Nat):Int)).toNat)
  have d2:=Ab7 (Bn s (3 * ((j:Nat):Int)+1).toNat)
  have q1:=Agx (Bn s (3 * ((j:Nat):Int)).toNat)
  have q2:=Agx (Bn s (3 * ((j:Nat):Int)+1).toNat)
  by_cases c1:digI (Bn s (3 * ((j:Nat):Int)).toNat)≤15
  ·have f1:decide (digI (Bn s (3 * ((j:Nat):Int)).toNat)>15)=false:=zI q_
   by_cases c2:digI (Bn s (3 * ((j:Nat):Int)+1).toNat)≤15
   ·have f2:decide (digI (Bn s (3 * ((j:Nat):Int)+1).toNat)>15)=false:=zI q_
    have hp:(256:Int) ^ j≤256 ^ 5:=by
     have:=wS (n:=256) j_ (show j≤5 by omega)
     exact_mod_cast this
    have hst:=Axr (Un s j).toNat (digI (Bn s (3 * ((j:Nat):Int)).toNat)).toNat (digI (Bn s (3 * ((j:Nat):Int)+1).toNat)).toNat q_ q_ q_
    have hst2:((((Un s j).toNat * 256+(digI (Bn s (3 * ((j:Nat):Int)).toNat)).toNat * 16+(digI (Bn s (3 * ((j:Nat):Int)+1).toNat)).toNat:Nat)):Int)=Un s (j+1):=by rw[hv];omega
    rw[hst2,xN hmv.1,xN d1.1,xN d2.1]at hst
    by_cases c3:j<5
    ·by_cases c4:(Bn s (3 * ((j:Nat):Int)+2).toNat).toNat=58
     ·have f4:(((Bn s (3 * ((j:Nat):Int)+2).toNat).toNat:Int) != 58)=false:=by rw[c4];rfl
      have hmj:Xq s j=true:=by rw[hx,c4];simp[c1,c2]
      refine T ?_
      refine C q1 F222 ?_
      refine C q2 F222 ?_
      exact A4 [] hI hlt (λ i hi=>by
       by_cases e:i=j
       ·rw[e];exact hmj
       ·exact hI i q_) ⟨⟨E,E,zG Bf hst.symm,E,E,E,Y⟩,Y,E,E⟩
     ·have f4:(((Bn s (3 * ((j:Nat):Int)+2).toNat).toNat:Int) != 58)=true:=by
       rw[yQ];omega
      have hmj:Xq s j=false:=by rw[hx,zI c4,zI (by omega:¬ 5≤j)];simp
      rw[hno hmj]
      refine T ?_
      refine C q1 F222 ?_
      refine C q2 F222 ?_
      exact D
    ·have hmj:Xq s j=true:=by rw[hx];simp[c1,c2];omega
     refine T ?_
     refine C q1 F222 ?_
     refine C q2 F222 ?_
     exact A4 [] hI hlt (λ i hi=>by
      by_cases e:i=j
      ·rw[e];exact hmj
      ·exact hI i q_) ⟨⟨E,E,zG Bf hst.symm,E,E,E,Y⟩,Y,E,E⟩
   ·have f2:decide (digI (Bn s (3 * ((j:Nat):Int)+1).toNat)>15)=true:=zR q_
    rw[hno (by rw[hx,zI c2];simp)]
    refine T ?_
    refine C q1 F222 ?_
    refine C q2 F222 ?_
    exact D
  ·have f1:decide (digI (Bn s (3 * ((j:Nat):Int)).toNat)>15)=true:=zR q_
   rw[hno (by rw[hx,zI c1];rfl)]
   refine T ?_
   refine C q1 F222 ?_
   refine C q2 F222 ?_
   exact D
 ·have hje:j=6:=qB h
  subst hje
  clear h
  rw[zE ⟨h17,by rw[yT];intro i hi;exact hI i (xM.1 hi)⟩]at hyes
  subst hyes
  refine T ?_
  exact D
theorem Al9 (m:Nat) (h:m<18446744073709551616):(((bits .and .u64 (m:Int) 281474976710655).fdiv (2 ^ min (Int.toNat 32) IntKind.u64.bits)) != 512)=!(Qf m):=by
 have e:=bits_and_u64_nat m 281474976710655 h j_
 have e2:m &&& 281474976710655=m % 281474976710656:=vW m 48
 have e3:bits .and .u64 (m:Int) 281474976710655=((m % 281474976710656:Nat):Int):=by rw[← e2];exact e
 have e4:((m % 281474976710656:Nat):Int).fdiv (2 ^ min (Int.toNat 32) IntKind.u64.bits)=((m % 281474976710656 / 4294967296:Nat):Int):=by
  show ((m % 281474976710656:Nat):Int).fdiv 4294967296=_
  rw[wC _ j_,Int.natCast_ediv];rfl
 rw[e3,e4,Qf]
 by_cases hh:m % 281474976710656 / 4294967296=512
 ·rw[hh,zR q_];rfl
 ·rw[zI q_]
  simp;omega
def Ax7 (m:Int):Int:=if Qf m=true then IntKind.u32.wrap (bits .and .u64 m 281474976710655) else 0
theorem A0o (m:Nat) (h:m<18446744073709551616):Sp 223 [Bf m] (.tup [A6 (Ax7 m),Ab (Qf m)]):=cT F223 Tryz.ntmps223 λ F hF=>by
 have hb:=Al9 m h
 rw[Ax7]
 cases hh:Qf m with
 | true =>
  have hb:=hb.trans (by rw[hh];rfl:_=false)
  rw[zE rfl]
  refine T ?_
  exact D
 | false =>
  have hb:=hb.trans (by rw[hh];rfl:_=true)
  rw[zD y_]
  refine T ?_
  exact D
theorem At4 (m:Nat) (h:m<18446744073709551616):Sp 195 [Bf m] (Ab (Iu m)):=cT F195 Tryz.ntmps195 λ F hF=>by
 have hb:=Ahe m h
 refine T ?_
 exact Aq E (.cons .tmp .nil) (zG Ab hb.symm) E
theorem Acp (m:Nat) (h:m<18446744073709551616):Sp 164 [Bf m] (Ab (statB m)):=cT F164 Tryz.ntmps164 λ F hF=>by
 have q1:=A0o m h
 have q2:=At4 m h
 have hw:=statB.eq_1 (m:Int)
 rw[yL]at hw
 generalize statB (m:Int)=r at *
 generalize Ax7 (m:Int)=hv at *
 by_cases c1:(m:Int)≤281474976710655
 ·rw[zR c1,zZ]at hw
  have f1:decide ((m:Int)≤281474976710655)=true:=zR c1
  cases hh:Qf m with
  | true =>
   rw[hh]at q1 hw
   simp at hw
   subst hw
   refine T ?_
   refine C q1 F223 ?_
   exact D
  | false =>
   rw[hh]at q1 hw
   simp at hw
   subst hw
   refine T ?_
   refine C q1 F223 ?_
   refine C q2 F195 ?_
   exact D
 ·rw[zI c1]at hw
  have f1:decide ((m:Int)≤281474976710655)=false:=zI c1
  simp at hw
  subst hw
  refine T ?_
  refine C q1 F223 ?_
  exact D
def Ls (one:ByteArray→Int × Bool) (out:List Int) (s:ByteArray) (b:Bool):List Int × Bool:=if b=true then H1 one out (Cp 44 s) else (out,true)
theorem Ax5 {c:UInt8}:∀ {l:List UInt8},0≤Lib.indexByte l c→c∈l
 | [],h=>by simp[Lib.indexByte]at h
 | b::l,h=>by
  unfold Lib.indexByte at h
  by_cases hb:(b == c)=true
  ·simp at hb;simp[hb]
  ·rw[zD hb]at h
   by_cases h1:(Lib.indexByte l c == -1)=true
   ·rw[zE h1]at h;omega
   ·rw[zD h1]at h
    have:=Jh l c
    have h2:Lib.indexByte l c≠-1:=by simpa using h1
    exact List.mem_cons_of_mem _ (Ax5 q_)
theorem Adz (one:ByteArray→Int × Bool) (out:List Int) (s:ByteArray) :
  Ls one out s true=(if (one (cutT 44 s).1).2=false∨out.length=16∨(∃ x,out.getLast? = some x∧(one (cutT 44 s).1).1≤x) then ([],false) else Ls one (out++[(one (cutT 44 s).1).1]) (cutT 44 s).2.1 (cutT 44 s).2.2):=by
 rw[Ls,zE rfl,Agj]
 have hsz:s.data.toList.length=s.size:=rfl
 have tk:∀ i,s.extract 0 i=mkT (s.data.toList.take i):=λ i=>by rw[← Jd s,Eg,Je];simp
 by_cases h:0≤Lib.indexByte s.data.toList 44
 ·have hm:=Ax5 h
  have e2:s.extract (Ke 44 s.data.toList+1) s.size=mkT (s.data.toList.drop (Ke 44 s.data.toList+1)):=by
   have:=Eg s.data.toList (Ke 44 s.data.toList+1) s.size
   rw[Jd]at this
   rw[this,← hsz,yG]
  rw[cutT,zE h,Ox 44 _ _ hm,wG,H1,tk,e2]
  dsimp only
  rw[Ls,zE rfl,Agj,Je]
 ·have hm:(44:UInt8)∉s.data.toList:=λ hh=>h (I3 hh).1
  rw[cutT,zD h,Oy 44 _ _ hm,wG,Jd,H1]
  simp only[Ls,zD (show ¬ (false=true) by simp),H1]
theorem Ahr (s:ByteArray):(cutT 44 s).1.size≤s.size∧(cutT 44 s).2.1.size≤s.size∧((cutT 44 s).2.2=true→(cutT 44 s).2.1.size<s.size):=by
 have hsz:s.data.toList.length=s.size:=rfl
 have hlt:=Qh s.data.toList 44
 have ex:∀ i j,(s.extract i j).size=((s.data.toList.take j).drop i).length:=λ i j=>by
  have:=Eg s.data.toList i j
  rw[Jd]at this
  rw[this,Hr]
 rw[cutT]
 split
 ·rename_i h
  refine⟨?_,?_,λ _=>?_⟩
  ·rw[ex,yM,zX];omega
  ·rw[ex,yM,zX];omega
  ·rw[ex,yM,zX]
   have:Ke 44 s.data.toList+1≤s.data.toList.length:=by unfold Ke;omega
   omega
 ·exact⟨yC _,xZ _,λ e=>by cases e⟩
theorem Alp (one:ByteArray→Int × Bool) (f:FuncId) (first cap:List SV) (hc:(SV.clo (.func f) first cap).inn []=true) (hr:∀ ρ:Nat→Nat,(SV.clo (.func f) first cap).ren ρ=.clo (.func f) first cap) (s0:ByteArray) (hs:s0.size≤10000) (hf:∀ p:ByteArray,p.size≤s0.size→D9 Tryz.prog f (first++[Ao p]++cap) (.tup [Aa (one p).1,Ab (one p).2])) :
  Sp 225 [Ao s0,.clo (.func f) first cap] (.tup [.sl 1 Aa (Hh one s0).1,Ab (Hh one s0).2]):=cT F225 Tryz.ntmps225 λ F hF=>by
 have hres:Hh one s0=Ls one [] s0 true:=rfl
 generalize Hh one s0=res at *
 have hc':(SV.clo (.func f) first cap).inn [1000]=true:=Qg _ hc
 have hin:∀ y:SV,y.inn []=true→By [] (first++[y]++cap)=true:=λ y hy=>by
  simp only[SV.inn,zH]at hc
  rw[Ht,Ht,hc.1,hc.2]
  simp[By,hy]
 refine T ?_
 refine B9 6 1000 1 Aa E E ?_
 refine T ?_
 refine B6 (λ x:ByteArray × Bool × List Int=>res=Ls one x.2.2 x.1 x.2.1∧x.1.size≤s0.size∧x.2.2.length≤16) (λ x=>[(0,Ao x.1),(1,.clo (.func f) first cap),(6,.osl 1000),(7,Ab x.2.1)]) (λ x=>[(1000,.row 1 Aa x.2.2)]) (λ x=>if x.2.1=true then x.1.size+1 else 0) (s0,true,[]) [] ⟨hres,yC _,by simp⟩ ⟨⟨E,E,A8 _,hc',E,E,E,E,Y⟩,⟨.inl E,E,Y⟩,E,E⟩ ?_
 rintro ⟨s,b,out⟩ ⟨hI,hsz,hout⟩
 dsimp only at hI hsz hout ⊢
 cases b with
 | false =>
  rw[Ls,zD y_]at hI
  subst hI
  refine T ?_
  refine Ag 1000 E ?_
  refine T ?_
  exact D
 | true =>
  have q1:=Wu s 44 q_
  have hsm:=Ahr s
  rw[Adz]at hI
  generalize cutT 44 s=ct at *
  obtain ⟨p,r,m⟩:=ct
  dsimp only at hI hsm q1
  have q2:=hf p q_
  generalize one p=op at *
  obtain ⟨v,ok⟩:=op
  dsimp only at hI q2
  refine T ?_
  refine C q1 F43 ?_
  refine Dj q2 E E E (by simp only[hin (Ao p) E];rfl) E E ?_
  cases ok with
  | false =>
   rw[zE (.inl rfl)]at hI
   subst hI
   refine T ?_
   refine Am 4 1 Aa E ?_
   refine T ?_
   exact D
  | true =>
   by_cases c1:out.length=16
   ·rw[zE (.inr (.inl c1))]at hI
    subst hI
    refine T ?_
    refine Am 4 1 Aa E ?_
    refine T ?_
    exact D
   ·by_cases c2:out.length=0
    ·have hn:out=[]:=zU c2
     rw[zD (by rw[hn];simp)]at hI
     refine T ?_
     refine X (Ae Γ.toTy 49 E E E E E (.row E) (.lit (e:=Aa) (l:=[v]) E E) y_ (by simp;omega) (by simp;omega)) ?_
     refine Av (r,m,out++[v]) [(1000,49)] ⟨hI,by dsimp only;omega,by simp;omega⟩ (by
      have h3:=hsm.2.2
      cases m
      ·simp
      ·have:=h3 rfl;simp;omega) ⟨⟨rfl,rfl,hr _,hc',rfl,rfl,rfl,rfl,trivial⟩,⟨.inl rfl,rfl,trivial⟩,rfl,rfl⟩
    ·have hk:((out.length:Int)-1).toNat<out.length:=by omega
     have hlast:out.getLast? = some (out[((out.length:Int)-1).toNat]'hk):=by
      rw[List.getLast?_eq_getElem?,zO q_]
      congr 1
      have:out.length-1=((out.length:Int)-1).toNat:=by omega
      simp only[this]
     have f2:decide ((out.length:Int)>0)=true:=zR q_
     by_cases c3:v≤out[((out.length:Int)-1).toNat]'hk
     ·have f3:decide (out[((out.length:Int)-1).toNat]'hk≥v)=true:=zR c3
      rw[zE (.inr (.inr ⟨_,hlast,c3⟩))]at hI
      subst hI
      refine T ?_
      refine Am 4 1 Aa E ?_
      refine T ?_
      exact D
     ·have f3:decide (out[((out.length:Int)-1).toNat]'hk≥v)=false:=zI c3
      rw[zD (by
       rintro (hh | hh | ⟨x,hx,hh⟩)
       ·cases hh
       ·exact c1 hh
       ·rw[hlast]at hx
        simp only[Option.some.injEq]at hx
        rw[← hx]at hh
        exact c3 hh)]at hI
      refine T ?_
      refine X (Ae Γ.toTy 49 E E E E E (.row E) (.lit (e:=Aa) (l:=[v]) E E) y_ (by simp;omega) (by simp;omega)) ?_
      refine Av (r,m,out++[v]) [(1000,49)] ⟨hI,by dsimp only;omega,by simp;omega⟩ (by
      have h3:=hsm.2.2
      cases m
      ·simp
      ·have:=h3 rfl;simp;omega) ⟨⟨rfl,rfl,hr _,hc',rfl,rfl,rfl,rfl,trivial⟩,⟨.inl rfl,rfl,trivial⟩,rfl,rfl⟩
theorem Aln (one:ByteArray→Int × Bool) (f:FuncId) (first cap:List SV) (hc:(SV.clo (.func f) first cap).inn []=true) (hr:∀ ρ:Nat→Nat,(SV.clo (.func f) first cap).ren ρ=.clo (.func f) first cap) (s0:ByteArray) (hs:s0.size≤10000) (hf:∀ p:ByteArray,p.size≤s0.size→D9 Tryz.prog f (first++[Ao p]++cap) (.tup [A6 (one p).1,Ab (one p).2])) :
  Sp 168 [Ao s0,.clo (.func f) first cap] (.tup [.sl 1 A6 (Hh one s0).1,Ab (Hh one s0).2]):=cT F168 Tryz.ntmps168 λ F hF=>by
 have hres:Hh one s0=Ls one [] s0 true:=rfl
 generalize Hh one s0=res at *
 have hc':(SV.clo (.func f) first cap).inn [1000]=true:=Qg _ hc
 have hin:∀ y:SV,y.inn []=true→By [] (first++[y]++cap)=true:=λ y hy=>by
  simp only[SV.inn,zH]at hc
  rw[Ht,Ht,hc.1,hc.2]
  simp[By,hy]
 refine T ?_
 refine B9 6 1000 1 A6 E E ?_
 refine T ?_
 refine B6 (λ x:ByteArray × Bool × List Int=>res=Ls one x.2.2 x.1 x.2.1∧x.1.size≤s0.size∧x.2.2.length≤16) (λ x=>[(0,Ao x.1),(1,.clo (.func f) first cap),(6,.osl 1000),(7,Ab x.2.1)]) (λ x=>[(1000,.row 1 A6 x.2.2)]) (λ x=>if x.2.1=true then x.1.size+1 else 0) (s0,true,[]) [] ⟨hres,yC _,by simp⟩ ⟨⟨E,E,A8 _,hc',E,E,E,E,Y⟩,⟨.inl E,E,Y⟩,E,E⟩ ?_
 rintro ⟨s,b,out⟩ ⟨hI,hsz,hout⟩
 dsimp only at hI hsz hout ⊢
 cases b with
 | false =>
  rw[Ls,zD y_]at hI
  subst hI
  refine T ?_
  refine Ag 1000 E ?_
  refine T ?_
  exact D
 | true =>
  have q1:=Wu s 44 q_
  have hsm:=Ahr s
  rw[Adz]at hI
  generalize cutT 44 s=ct at *
  obtain ⟨p,r,m⟩:=ct
  dsimp only at hI hsm q1
  have q2:=hf p q_
  generalize one p=op at *
  obtain ⟨v,ok⟩:=op
  dsimp only at hI q2
  refine T ?_
  refine C q1 F43 ?_
  refine Dj q2 E E E (by simp only[hin (Ao p) E];rfl) E E ?_
  cases ok with
  | false =>
   rw[zE (.inl rfl)]at hI
   subst hI
   refine T ?_
   refine Am 4 1 A6 E ?_
   refine T ?_
   exact D
  | true =>
   by_cases c1:out.length=16
   ·rw[zE (.inr (.inl c1))]at hI
    subst hI
    refine T ?_
    refine Am 4 1 A6 E ?_
    refine T ?_
    exact D
   ·by_cases c2:out.length=0
    ·have hn:out=[]:=zU c2
     rw[zD (by rw[hn];simp)]at hI
     refine T ?_
     refine X (Ae Γ.toTy 49 E E E E E (.row E) (.lit (e:=A6) (l:=[v]) E E) y_ (by simp;omega) (by simp;omega)) ?_
     refine Av (r,m,out++[v]) [(1000,49)] ⟨hI,by dsimp only;omega,by simp;omega⟩ (by
      have h3:=hsm.2.2
      cases m
      ·simp
      ·have:=h3 rfl;simp;omega) ⟨⟨rfl,rfl,hr _,hc',rfl,rfl,rfl,rfl,trivial⟩,⟨.inl rfl,rfl,trivial⟩,rfl,rfl⟩
    ·have hk:((out.length:Int)-1).toNat<out.length:=by omega
     have hlast:out.getLast? = some (out[((out.length:Int)-1).toNat]'hk):=by
      rw[List.getLast?_eq_getElem?,zO q_]
      congr 1
      have:out.length-1=((out.length:Int)-1).toNat:=by omega
      simp only[this]
     have f2:decide ((out.length:Int)>0)=true:=zR q_
     by_cases c3:v≤out[((out.length:Int)-1).toNat]'hk
     ·have f3:decide (out[((out.length:Int)-1).toNat]'hk≥v)=true:=zR c3
      rw[zE (.inr (.inr ⟨_,hlast,c3⟩))]at hI
      subst hI
      refine T ?_
      refine Am 4 1 A6 E ?_
      refine T ?_
      exact D
     ·have f3:decide (out[((out.length:Int)-1).toNat]'hk≥v)=false:=zI c3
      rw[zD (by
       rintro (hh | hh | ⟨x,hx,hh⟩)
       ·cases hh
       ·exact c1 hh
       ·rw[hlast]at hx
        simp only[Option.some.injEq]at hx
        rw[← hx]at hh
        exact c3 hh)]at hI
      refine T ?_
      refine X (Ae Γ.toTy 49 E E E E E (.row E) (.lit (e:=A6) (l:=[v]) E E) y_ (by simp;omega) (by simp;omega)) ?_
      refine Av (r,m,out++[v]) [(1000,49)] ⟨hI,by dsimp only;omega,by simp;omega⟩ (by
      have h3:=hsm.2.2
      cases m
      ·simp
      ·have:=h3 rfl;simp;omega) ⟨⟨rfl,rfl,hr _,hc',rfl,rfl,rfl,rfl,trivial⟩,⟨.inl rfl,rfl,trivial⟩,rfl,rfl⟩
theorem Aiy (p:ByteArray) (lo hi:Int):Sp 226 [Ao p,.ref 1 (Aa lo) 0,.ref 1 (Aa hi) 0] (.tup [Aa (numR p lo hi).1,Ab (numR p lo hi).2]):=cT F226 Tryz.ntmps226 λ F hF=>by
 have q:=Alo p lo hi
 generalize numR p lo hi=r at *
 refine T ?_
 refine C q F162 ?_
 exact D
theorem Aix (s:ByteArray) (hi:Int) (hs:s.size≤10000):Sp 169 [Ao s,Aa 1,Aa hi] (.tup [.sl 1 Aa (Hh (λ p=>numR p 1 hi) s).1,Ab (Hh (λ p=>numR p 1 hi) s).2]):=cT F169 Tryz.ntmps169 λ F hF=>by
 have q:=Alp (λ p=>numR p 1 hi) 226 [] [.ref 1 (Aa 1) 0,.ref 1 (Aa hi) 0] rfl (λ _=>rfl) s hs (λ p _=>⟨⟨_,_,F226⟩,Aiy p 1 hi⟩)
 generalize Hh (λ p=>numR p 1 hi) s=r at *
 refine T ?_
 refine A7 4 1 (Aa 1) E E E ?_
 refine A7 5 1 (Aa hi) E E E ?_
 refine T ?_
 refine C q F225 ?_
 exact D
theorem Afu (s:ByteArray) (hs:s.size≤10000):Sp 102 [Ao s] (.tup [.sl 1 A6 (Dr s).1,Ab (Dr s).2]):=cT F102 Tryz.ntmps102 λ F hF=>by
 have q:=Aln Dh 99 [] [] rfl (λ _=>rfl) s hs (λ p hp=>⟨⟨_,_,F99⟩,Zz p q_⟩)
 unfold Dr
 generalize Hh Dh s=r at *
 refine T ?_
 refine C q F168 ?_
 exact D
theorem Anh (s:ByteArray) (hs:s.size≤10000):Sp 104 [Ao s] (.tup [Lk (prefixR s).1.1 (prefixR s).1.2,Ab (prefixR s).2]):=cT F104 Tryz.ntmps104 λ F hF=>by
 have q1:=Wu s 47 q_
 have hres:=prefixR.eq_1 s
 have hsm:(cutT 47 s).1.size≤s.size:=by
  rw[cutT]
  split
  ·have:=Eg s.data.toList 0 (Ke 47 s.data.toList)
   rw[Jd]at this
   rw[this,Hr,yM,zX]
   have:s.data.toList.length=s.size:=rfl
   omega
  ·exact yC _
 generalize cutT 47 s=ct at *
 obtain ⟨p,r,m⟩:=ct
 dsimp only at hres hsm q1
 have q2:=Zz p q_
 have q3:=Afa r 32
 generalize prefixR s=res at *
 generalize Dh p=a at *
 generalize smallT r 32=b at *
 obtain ⟨av,ao⟩:=a
 obtain ⟨bv,bo⟩:=b
 dsimp only at hres q2 q3
 cases m<;>cases ao<;>cases bo
 all_goals (simp at hres;subst hres)
 all_goals (refine T ?_;refine C q1 F43 ?_;refine C q2 F99 ?_;refine C q3 F167 ?_;exact D)
abbrev rdO (w:List ByteArray) (i:Nat) (e:Int):Obs:=[(0,.box [.sl 1 Ao w,Aa i,Aa e])]
theorem C2 {w:List ByteArray} {i:Nat} (h:i<w.length):wdT w i=w[i]:=by rw[wdT,zO h];rfl
theorem Ma (w:List ByteArray) (i:Nat) (e:Int) (hi:i<w.length) (hw:w.length≤1000000):Sq 100 [.ptr 0 0] (rdO w i e) (Ao (wdT w i)) (rdO w (i+1) e):=cT F100 Tryz.ntmps100 λ F hF=>by
 have hk:((i:Int)+1-1).toNat<w.length:=by omega
 have hx:wdT w i=w[((i:Int)+1-1).toNat]'hk:=by
  rw[C2 hi]
  have:((i:Int)+1-1).toNat=i:=by omega
  simp only[this]
 rw[hx]
 refine T ?_
 exact done E (.cons .tmp .nil) [] (rdO w (i+1) e) (λ _ h=>h) E E U
theorem Ip (w:List ByteArray) (i:Nat) (e:Int) (b:Bool) (c:Int):Sq 97 [.ptr 0 0,Ab b,Aa c] (rdO w i e) (.tup []) (rdO w i (Ar e b c)):=cT F97 Tryz.ntmps97 λ F hF=>by
 cases b with
 | false =>
  have hf:Ar e false c=e:=by rw[Ar,zD y_]
  rw[hf]
  refine T ?_
  exact A1 E .nil [] (rdO w i e) (λ _ h=>h) E E U
 | true =>
  by_cases h:e=0
  ·have hf:Ar e true c=c:=by rw[Ar,zE ⟨rfl,h⟩]
   rw[hf]
   subst h
   refine T ?_
   exact A1 E .nil [] (rdO w i c) (λ _ h=>h) E E U
  ·have hf:Ar e true c=e:=by rw[Ar,zD (λ x=>h x.2)]
   rw[hf]
   have hb:(e == 0)=false:=by simpa using h
   refine T ?_
   exact A1 E .nil [] (rdO w i e) (λ _ h=>h) E E U
theorem Eo (w:List ByteArray) (i:Nat) (e:Int) (hi:i<w.length) (hw:w.length≤1000000) (hs:∀ s∈w,s.size≤40):Sq 93 [.ptr 0 0] (rdO w i e) (Ao (wdT w i)) (rdO w (i+1) (Ar e (!(Ay (wdT w i))) 20)):=cT F93 Tryz.ntmps93 λ F hF=>by
 have hwd:(wdT w i).size≤40:=by rw[C2 hi];exact hs _ (zJ hi)
 have q1:=Ma w i e hi hw
 have q2:=Ef (wdT w i) q_
 have q3:=Ip w (i+1) e (!(Ay (wdT w i))) 20
 generalize Ay (wdT w i)=nb at *
 generalize wdT w i=x at *
 refine T ?_
 refine X (Ad [] E F100 q1 E W E V) ?_
 refine C q2 F46 ?_
 refine X (Ad [] E F97 q3 E W E V) ?_
 exact done E (.cons .tmp .nil) [] (rdO w (i+1) (Ar e (!nb) 20)) (λ _ h=>h) E E U
theorem T3 (w:List ByteArray) (i:Nat) (e lo hi_:Int) (hi:i<w.length) (hw:w.length≤1000000):Sq 95 [.ptr 0 0,Aa lo,Aa hi_] (rdO w i e) (Aa (numR (wdT w i) lo hi_).1) (rdO w (i+1) (Ar e (!(numR (wdT w i) lo hi_).2) 21)):=cT F95 Tryz.ntmps95 λ F hF=>by
 have q1:=Ma w i e hi hw
 have q2:=Alo (wdT w i) lo hi_
 generalize numR (wdT w i) lo hi_=r at *
 have q3:=Ip w (i+1) e (!r.2) 21
 generalize wdT w i=x at *
 refine T ?_
 refine X (Ad [] E F100 q1 E W E V) ?_
 refine C q2 F162 ?_
 refine X (Ad [] E F97 q3 E W E V) ?_
 exact done E (.cons .tmp .nil) [] (rdO w (i+1) (Ar e (!r.2) 21)) (λ _ h=>h) E E U
theorem W8 (w:List ByteArray) (i:Nat) (e:Int) (hi:i<w.length) (hw:w.length≤1000000):Sq 94 [.ptr 0 0] (rdO w i e) (Aa (Cq (wdT w i)).1) (rdO w (i+1) (Ar e (!(Cq (wdT w i)).2) 21)):=cT F94 Tryz.ntmps94 λ F hF=>by
 have q:=T3 w i e 1 4094 hi hw
 unfold Cq
 generalize numR (wdT w i) 1 4094=r at *
 refine T ?_
 refine X (Ad [] E F95 q E W E V) ?_
 exact done E (.cons .tmp .nil) [] (rdO w (i+1) (Ar e (!r.2) 21)) (λ _ h=>h) E E U
theorem Awr (w:List ByteArray) (i:Nat) (e:Int) (hi:i<w.length) (hw:w.length≤1000000):Sq 101 [.ptr 0 0] (rdO w i e) (Aa (Ot (wdT w i)).1) (rdO w (i+1) (Ar e (!(Ot (wdT w i)).2) 21)):=cT F101 Tryz.ntmps101 λ F hF=>by
 have q:=T3 w i e 1 16777215 hi hw
 unfold Ot
 generalize numR (wdT w i) 1 16777215=r at *
 refine T ?_
 refine X (Ad [] E F95 q E W E V) ?_
 exact done E (.cons .tmp .nil) [] (rdO w (i+1) (Ar e (!r.2) 21)) (λ _ h=>h) E E U
theorem Aum (e c:Int):Ar e false c=e:=by rw[Ar,zD y_]
theorem Ab1 (w:List ByteArray) (i:Nat) (e most:Int) (hi:i<w.length) (hw:w.length≤1000000) (hs:∀ s∈w,s.size≤40):Sq 103 [.ptr 0 0,Aa most] (rdO w i e) (.sl 1 Aa (listR most (wdT w i)).1) (rdO w (i+1) (Ar e (!(listR most (wdT w i)).2) 21)):=cT F103 Tryz.ntmps103 λ F hF=>by
 have hwd:(wdT w i).size≤40:=by rw[C2 hi];exact hs _ (zJ hi)
 have q1:=Ma w i e hi hw
 have q2:=Aix (wdT w i) most q_
 have hres:=listR.eq_1 most (wdT w i)
 generalize listR most (wdT w i)=res at *
 by_cases hd:wdT w i=A04
 ·rw[zE hd]at hres
  subst hres
  have hb:(wdT w i == (⟨#[45]⟩:ByteArray))=true:=(J6 _ _).2 hd
  rw[show (!(([]:List Int),true).2)=false from rfl,Aum]
  refine T ?_
  refine X (Ad [] E F100 q1 E W E V) ?_
  refine Am 4 1 Aa E ?_
  refine T ?_
  exact done E (.cons .tmp .nil) [] (rdO w (i+1) e) (λ _ h=>h) E E U
 ·rw[zD hd]at hres
  have hb:(wdT w i == (⟨#[45]⟩:ByteArray))=false:=by
   cases hx:(wdT w i == (⟨#[45]⟩:ByteArray))
   ·rfl
   ·exact yB ((J6 _ _).1 hx) hd
  rw[← hres]at q2
  have q3:=Ip w (i+1) e (!res.2) 21
  clear hres
  refine T ?_
  refine X (Ad [] E F100 q1 E W E V) ?_
  refine C q2 F169 ?_
  refine X (Ad [] E F97 q3 E W E V) ?_
  exact done E (.cons .tmp .nil) [] (rdO w (i+1) (Ar e (!res.2) 21)) (λ _ h=>h) E E U
theorem Apk (s:ByteArray):∃ m:Nat,(macR s).1=m∧m<281474976710656:=by
 rw[macR]
 split
 ·rename_i h
  have:=V4 (s:=s) (j:=6) (λ i hi=>by have:=h.2;rw[yT]at this;exact this i (xM.2 hi))
  refine⟨(Un s 6).toNat,?_,?_⟩
  ·rw[xN this.1]
  ·have h2:Un s 6<281474976710656:=this.2
   omega
 ·exact⟨0,E,by decide⟩
def macE (s:ByteArray):Bool:=!((macR s).2 && statB (macR s).1)
theorem Aws (w:List ByteArray) (i:Nat) (e:Int) (hi:i<w.length) (hw:w.length≤1000000) (hs:∀ s∈w,s.size≤40):Sq 96 [.ptr 0 0] (rdO w i e) (Bf (macR (wdT w i)).1) (rdO w (i+1) (Ar e (macE (wdT w i)) 21)):=cT F96 Tryz.ntmps96 λ F hF=>by
 have hwd:(wdT w i).size≤40:=by rw[C2 hi];exact hs _ (zJ hi)
 have q1:=Ma w i e hi hw
 have q2:=Axs (wdT w i) q_
 obtain ⟨m,hm1,hm2⟩:=Apk (wdT w i)
 have q4:=Acp m q_
 have hres:=macE.eq_1 (wdT w i)
 rw[hm1]at hres
 generalize macE (wdT w i)=be at *
 have q3:=Ip w (i+1) e be 21
 generalize macR (wdT w i)=r at *
 obtain ⟨rv,rb⟩:=r
 dsimp only at hm1
 subst hm1
 generalize statB (m:Int)=sb at *
 cases rb with
 | false =>
  simp at hres
  subst hres
  refine T ?_
  refine X (Ad [] E F100 q1 E W E V) ?_
  refine C q2 F163 ?_
  refine X (Ad [] E F97 q3 E W E V) ?_
  exact done E (.cons .tmp .nil) [] (rdO w (i+1) (Ar e true 21)) (λ _ h=>h) E E U
 | true =>
  simp at hres
  subst hres
  refine T ?_
  refine X (Ad [] E F100 q1 E W E V) ?_
  refine C q2 F163 ?_
  refine C q4 F164 ?_
  refine X (Ad [] E F97 q3 E W E V) ?_
  exact done E (.cons .tmp .nil) [] (rdO w (i+1) (Ar e (!sb) 21)) (λ _ h=>h) E E U
end Go.Sy.YtiijbikecbjdaaaGreatDoor
namespace Go.Sy.YtiijbikecbjdaaaGreatDoor
open Go.Proofs
theorem Aro {s:ByteArray} {lo hi v:Int} (h:numR s lo hi=(v,true)):lo≤v∧v≤hi:=by
 unfold numR at h
 repeat' split at h
 all_goals first | (simp at h;done) | (simp only[Prod.mk.injEq,and_true]at h;omega)
theorem Hq {s:ByteArray} {lo hi:Int} (h:(numR s lo hi).2=true):lo≤(numR s lo hi).1∧(numR s lo hi).1≤hi:=Aro (v:=(numR s lo hi).1) (by rw[← h])
def Aqx (l:List Int):Prop:=l.Pairwise (·<·)
theorem Oc (one:ByteArray→Int × Bool):∀ (ps:List ByteArray) (out r:List Int),H1 one out ps=(r,true)→Aqx out→out.length≤16 →
  Aqx r∧r.length≤16∧r.length=out.length+ps.length∧∀ x∈r,x∈out∨∃ p∈ps,one p=(x,true)
 | [],out,r,h,h1,h2=>by
  rw[H1]at h
  simp only[Prod.mk.injEq,and_true]at h
  subst h
  exact⟨h1,h2,by simp,λ x hx=>.inl hx⟩
 | p::ps,out,r,h,h1,h2=>by
  rw[H1]at h
  split at h
  ·simp at h
  ·rename_i hn
   simp only[uU]at hn
   obtain ⟨n1,n2,n3⟩:=hn
   have hr:Aqx (out++[(one p).1]):=by
    refine tH.2 ⟨h1,List.pairwise_singleton _ _,λ y hy z hz=>?_⟩
    simp only[yD]at hz
    subst hz
    cases hl:out.getLast? with
    | none=>rw[List.getLast?_eq_none_iff]at hl;subst hl;cases hy
    | some w =>
     have hlt:¬ (one p).1≤w:=λ hh=>n3 ⟨w,hl,hh⟩
     obtain ⟨c,rfl⟩:∃ c,out=c++[w]:=by
      have hne:out≠[]:=λ e=>by rw[e]at hy;cases hy
      refine⟨out.dropLast,?_⟩
      have:=uE hne
      rw[List.getLast?_eq_some_getLast hne]at hl
      simp only[Option.some.injEq]at hl
      rw[← hl];exact this.symm
     rcases yP.1 hy with hy | hy
     ·have:=(tH.1 h1).2.2 y hy w y_
      omega
     ·simp only[yD]at hy
      omega
   obtain ⟨a,b,c,d⟩:=Oc one ps _ r h hr (by rw[yE];simp;omega)
   refine⟨a,b,by rw[c];simp;omega,λ x hx=>?_⟩
   rcases d x hx with hx | ⟨q,hq,e⟩
   ·rcases yP.1 hx with hx | hx
    ·exact .inl hx
    ·simp only[yD]at hx
     refine .inr ⟨p,by simp,?_⟩
     rw[hx]
     have:(one p).2=true:=by simpa using n1
     rw[← this]
   ·exact .inr ⟨q,by simp[hq],e⟩
theorem Agn {l:List Int} (h:∀ i (hi:i+1<l.length),l[i]<l[i+1]):Aqx l:=by
 unfold Aqx
 rw[wZ]
 intro i j hi hj hij
 induction j with
 | zero=>omega
 | succ j ih =>
  by_cases e:i=j
  ·subst e;exact h i hj
  ·have:=ih q_ q_
   have:=h j hj
   omega
theorem Vh:∀ (l:List (Bool × Int)),(∀ x∈l,x.2≠0)→Bm l=0→∀ x∈l,x.1=false
 | [],_,_,x,hx=>by cases hx
 | (b,e)::l,h,h0,x,hx=>by
  rw[Bm]at h0
  cases b with
  | true=>rw[zE rfl]at h0;exact yB h0 (h (true,e) y_)
  | false =>
   rw[zD y_]at h0
   rcases yI.1 hx with hx | hx
   ·rw[hx]
   ·exact Vh l (λ y hy=>h y (by simp[hy])) h0 x hx
theorem rising_iff {l:List Int} {lo hi:Int}:Im l lo hi=true↔Aqx l∧(∀ x∈l,lo≤x∧x≤hi)∧0<l.length∧l.length≤16:=by
 have hg:∀ i (h:i<l.length),nth l (i:Int)=l[i]:=λ i h=>Aj (i:=(i:Int)) h
 rw[Im,zH,zH,zQ,zQ,allB_iff]
 constructor
 ·rintro ⟨⟨h1,h2⟩,h⟩
  refine⟨Agn λ i hi=>?_,λ x hx=>?_,h1,h2⟩
  ·have:=h (i+1) hi
   simp only[Uz,zH,yO,zQ,yF]at this
   rw[show (((i+1:Nat):Int)-1)=(i:Int) by omega,hg i q_]at this
   omega
  ·obtain ⟨i,hi,rfl⟩:=yY.1 hx
   have:=h i hi
   simp only[Uz,zH,zQ]at this
   exact this.1
 ·rintro ⟨h,h1,h2⟩
  refine⟨h2,λ i hi=>?_⟩
  have hx:=h1 _ (zJ hi)
  simp only[Uz,zH,yO,zQ,yF]
  refine⟨hx,?_⟩
  by_cases h0:i=0
  ·exact .inl h0
  ·right
   rw[show ((i:Int)-1)=((i-1:Nat):Int) by omega,hg (i-1) q_]
   exact wZ.1 h (i-1) i q_ hi q_
theorem listOK_iff {l:List Int} {hi:Int}:D5 l hi=true↔l=[]∨Im l 1 hi=true:=by
 rw[D5,Ac3,yO,zQ,vN]
theorem Au9 {l:List Int} (hn:∀ x∈l,0≤x):J4 l=true↔Aqx l∧(∀ x∈l,x≠0)∧0<l.length∧l.length≤16:=by
 have hg:∀ i (h:i<l.length),l.getD i 0=l[i]:=λ i h=>by rw[xR,zO h];rfl
 rw[J4,zH,zH,zQ,zQ,yT]
 constructor
 ·rintro ⟨h,h1,h2⟩
  refine⟨Agn λ i hi=>?_,λ x hx=>?_,h1,h2⟩
  ·have:=h (i+1) (xM.2 hi)
   rw[Nat.add_sub_cancel,hg _ hi,hg i q_]at this
   simp only[zH,yO,zQ,yF]at this
   omega
  ·obtain ⟨i,hi,rfl⟩:=yY.1 hx
   have:=h i (xM.2 hi)
   rw[hg i hi]at this
   simp only[zH,zQ]at this
   exact this.1
 ·rintro ⟨h,h1,h2⟩
  refine⟨λ i hi=>?_,h2⟩
  have hi:=xM.1 hi
  have hx:=h1 _ (zJ hi)
  rw[hg i hi]
  simp only[zH,yO,zQ,yF]
  refine⟨hx,?_⟩
  by_cases h0:i=0
  ·exact .inl h0
  ·right
   rw[hg (i-1) q_]
   exact wZ.1 h (i-1) i q_ hi q_
theorem A0k {s:ByteArray} {hi:Int} {l:List Int} (h:listR hi s=(l,true)):D5 l hi=true:=by
 rw[listR]at h
 split at h
 ·simp only[Prod.mk.injEq,and_true]at h
  subst h;rfl
 ·rw[Hh]at h
  obtain ⟨a,b,c,d⟩:=Oc _ _ _ _ h List.Pairwise.nil j_
  refine listOK_iff.2 (.inr (rising_iff.2 ⟨a,λ x hx=>?_,?_,b⟩))
  ·rcases d x hx with hx | ⟨p,_,hp⟩
   ·cases hx
   ·exact Aro hp
  ·rw[c,J0];simp
theorem Ko (s:ByteArray):0≤(Dh s).1:=by
 rw[Dh]
 split
 ·dsimp only
  generalize Cp 46 s=l
  cases hl:l.reverse with
  | nil =>
   have:l=[]:=by simpa using hl
   subst this;exact wE _
  | cons x r =>
   have:l=r.reverse++[x]:=by
    have:=zG List.reverse hl
    simpa using this
   rw[this,Wh]
   show 0≤IntKind.u32.wrap _
   rw[IntKind.wrap_u32];omega
 ·exact wE _
theorem Qs (s:ByteArray):(Dh s).1<4294967296:=by
 rw[Dh]
 split
 ·dsimp only
  generalize Cp 46 s=l
  cases hl:l.reverse with
  | nil =>
   have:l=[]:=by simpa using hl
   subst this;decide
  | cons x r =>
   have:l=r.reverse++[x]:=by
    have:=zG List.reverse hl
    simpa using this
   rw[this,Wh]
   show IntKind.u32.wrap _<_
   rw[IntKind.wrap_u32];omega
 ·decide
theorem Azd {s:ByteArray} {l:List Int} (h:Dr s=(l,true)) (h0:l.head? ≠ some 0):J4 l=true:=by
 rw[Dr,Hh]at h
 obtain ⟨a,b,c,d⟩:=Oc _ _ _ _ h List.Pairwise.nil j_
 have hn:∀ x∈l,0≤x:=λ x hx=>by
  rcases d x hx with hx | ⟨p,_,hp⟩
  ·cases hx
  ·have:=Ko p
   rw[hp]at this;exact this
 refine(Au9 hn).2 ⟨a,λ x hx e=>?_,by rw[c,J0];simp,b⟩
 subst e
 cases l with
 | nil=>cases hx
 | cons y l =>
  rcases yI.1 hx with hx | hx
  ·subst hx;exact h0 rfl
  ·have h1:=(vK.1 a).1 0 hx
   have h2:=hn y y_
   omega
end Go.Sy.YtiijbikecbjdaaaGreatDoor
namespace Go.Sy.YtiijbikecbjdaaaGreatDoor
open Go.Proofs
set_option maxHeartbeats 4000000
theorem E3 (a:LineM):Ld a a=true:=by simp[Ld]
theorem Du (w:List ByteArray) (row:Int):∀ x∈(Bz w row).2,x.2≠0:=by
 unfold Bz Dv
 dsimp only
 repeat' split
 all_goals simp
theorem Asw {w:List ByteArray} {row:Int} (h:(Ce w row).2=0):(Ce w row).1=(Bz w row).1∧∀ x∈(Bz w row).2,x.1=false:=by
 rw[Ce]at h ⊢
 split at h
 ·simp at h
 ·rename_i h1
  rw[zD h1]
  split at h
  ·rename_i h2;exact yB h h2
  ·rename_i h2
   rw[zD h2]
   exact⟨E,Vh _ (Du w row) q_⟩
theorem k1:kindL ⟨#[100,101,118,105,99,101]⟩=1:=by decide +kernel
theorem k2:kindL ⟨#[112,111,114,116]⟩=2:=by decide +kernel
theorem k3:kindL ⟨#[108,105,110,107]⟩=3:=by decide +kernel
theorem k4:kindL ⟨#[115,116,97,116,105,99]⟩=4:=by decide +kernel
theorem k5:kindL ⟨#[118,116,101,112]⟩=5:=by decide +kernel
theorem k6:kindL ⟨#[118,110,105]⟩=6:=by decide +kernel
theorem k7:kindL ⟨#[102,108,111,111,100]⟩=7:=by decide +kernel
theorem k8:kindL ⟨#[118,114,102]⟩=8:=by decide +kernel
theorem Ahz:E6≠Es:=by decide +kernel
theorem wd0 (a:ByteArray) (l:List ByteArray):wdT (a::l) 0=a:=rfl
theorem st1 (d n m:ByteArray) (r:Int):Bz [⟨#[100,101,118,105,99,101]⟩,d,n,m] r=({ lineZ with row:=r,kind:=1,dev:=d,num:=(numR n 0 65535).1,mac:=(macR m).1 },[(!(Ay d),20),(!(numR n 0 65535).2,21),(!((macR m).2 && statB (macR m).1),21)]):=by
 unfold Bz
 simp only[wd0,k1]
 rfl
theorem st3 (d p q f:ByteArray) (r:Int):Bz [⟨#[108,105,110,107]⟩,d,p,q,f] r=({ lineZ with row:=r,kind:=3,dev:=d,port:=p,peer:=q,far:=f },[(!(Ay d),20),(!(Ay p),20),(!(Ay q),20),(!(Ay f),20)]):=by
 unfold Bz
 simp only[wd0,k3]
 rfl
theorem st4 (d v m p:ByteArray) (r:Int):Bz [⟨#[115,116,97,116,105,99]⟩,d,v,m,p] r=({ lineZ with row:=r,kind:=4,dev:=d,vlan:=(Cq v).1,mac:=(macR m).1,port:=p },[(!(Ay d),20),(!(Cq v).2,21),(!((macR m).2 && statB (macR m).1),21),(!(Ay p),20)]):=by
 unfold Bz
 simp only[wd0,k4]
 rfl
theorem within_iff {n lo hi:Int}:Cg n lo hi=true↔lo≤n∧n≤hi:=by simp[Cg]
theorem Afh {m:Int} (h:statB m=true):m<281474976710656:=by
 simp only[statB,zH,zQ]at h
 omega
theorem Z5 {a b:Int} (h:subnetB a b=true):1≤b∧b≤30:=by
 simp only[subnetB,zH,zQ]at h
 omega
structure LineOK (l:LineM):Prop where
 mac:0≤l.mac∧l.mac<18446744073709551616
 addr:0≤l.addr∧l.addr<4294967296
 addrs:∀ x∈l.addrs,0≤x∧x<4294967296
theorem Ah3 {s:ByteArray} {v:Int} (h:(Cq s).2=true) (e:(Cq s).1=v):Cg v 1 4094=true:=by
 have:=Hq h
 exact within_iff.2 (by rw[← e];exact this)
theorem Avj {s:ByteArray} {v:Int} (h:(Ot s).2=true) (e:(Ot s).1=v):Cg v 1 16777215=true:=by
 have:=Hq h
 exact within_iff.2 (by rw[← e];exact this)
theorem Ab2 {α:Type} {p:α × Bool} (h:p.2=true):p=(p.1,true):=by rw[← h]
end Go.Sy.YtiijbikecbjdaaaGreatDoor
namespace Go.Sy.YtiijbikecbjdaaaGreatDoor
open Go.Proofs
attribute [local irreducible] Go.Sy.G Go.Sy.DR
set_option maxRecDepth 100000
set_option maxHeartbeats 4000000
theorem Ic {a b:ByteArray} (h:a≠b):(a == b)=false:=by
 cases hx:(a == b)
 ·rfl
 ·exact yB ((J6 _ _).1 hx) h
theorem E5 {a b:ByteArray} (h:a=b):(a == b)=true:=(J6 _ _).2 h
theorem Aju {a b:ByteArray} (h:a≠b):(!(a == b))=true:=by rw[Ic h];rfl
theorem Aca {a b:ByteArray} (h:a=b):(!(a == b))=false:=by rw[E5 h];rfl
theorem He (s:ByteArray):Sp 92 [Ao s] (Aa (kindL s)):=cT F92 Tryz.ntmps92 λ F hF=>by
 have hk:=kindL.eq_1 s
 generalize kindL s=k at *
 by_cases c1:s=(⟨#[100,101,118,105,99,101]⟩:ByteArray)
 ·have b1:=E5 c1
  rw[zE c1]at hk
  subst hk
  refine T ?_
  exact D
 have b1:=Ic c1
 rw[zD c1]at hk
 by_cases c2:s=(⟨#[112,111,114,116]⟩:ByteArray)
 ·have b2:=E5 c2
  rw[zE c2]at hk
  subst hk
  refine T ?_
  exact D
 have b2:=Ic c2
 rw[zD c2]at hk
 by_cases c3:s=(⟨#[108,105,110,107]⟩:ByteArray)
 ·have b3:=E5 c3
  rw[zE c3]at hk
  subst hk
  refine T ?_
  exact D
 have b3:=Ic c3
 rw[zD c3]at hk
 by_cases c4:s=(⟨#[115,116,97,116,105,99]⟩:ByteArray)
 ·have b4:=E5 c4
  rw[zE c4]at hk
  subst hk
  refine T ?_
  exact D
 have b4:=Ic c4
 rw[zD c4]at hk
 by_cases c5:s=(⟨#[118,116,101,112]⟩:ByteArray)
 ·have b5:=E5 c5
  rw[zE c5]at hk
  subst hk
  refine T ?_
  exact D
 have b5:=Ic c5
 rw[zD c5]at hk
 by_cases c6:s=(⟨#[118,110,105]⟩:ByteArray)
 ·have b6:=E5 c6
  rw[zE c6]at hk
  subst hk
  refine T ?_
  exact D
 have b6:=Ic c6
 rw[zD c6]at hk
 by_cases c7:s=(⟨#[102,108,111,111,100]⟩:ByteArray)
 ·have b7:=E5 c7
  rw[zE c7]at hk
  subst hk
  refine T ?_
  exact D
 have b7:=Ic c7
 rw[zD c7]at hk
 by_cases c8:s=(⟨#[118,114,102]⟩:ByteArray)
 ·have b8:=E5 c8
  rw[zE c8]at hk
  subst hk
  refine T ?_
  exact D
 have b8:=Ic c8
 rw[zD c8]at hk
 by_cases c9:s=(⟨#[105,114,98]⟩:ByteArray)
 ·have b9:=E5 c9
  rw[zE c9]at hk
  subst hk
  refine T ?_
  exact D
 have b9:=Ic c9
 rw[zD c9]at hk
 subst hk
 refine T ?_
 exact D
theorem Hd (k:Int) (hk:0≤k∧k≤9) (w:List ByteArray) (hw:w.length≤1000000):Sp 91 [Aa k,.sl 1 Ao w] (Ab (manyB k w)):=cT F91 Tryz.ntmps91 λ F hF=>by
 have hm2:=manyB.eq_1 k w
 generalize manyB k w=r at *
 rcases (by omega:k=0∨k=1∨k=2∨k=3∨k=4∨k=5∨k=6∨k=7∨k=8∨k=9) with h | h | h | h | h | h | h | h | h | h
 ·subst h
  have hr:r=false:=by rw[hm2];simp
  subst hr
  refine T ?_
  exact D
 ·subst h
  have hr:r=decide (w.length=4):=by rw[hm2];simp
  subst hr
  refine T ?_
  refine Aq E (.cons .tmp .nil) (zG Ab ?_) E
  by_cases hn:w.length=4
  ·rw[hn];rfl
  ·rw[zI hn];symm;simp;omega
 ·subst h
  rw[zD j_,zE rfl]at hm2
  by_cases h6:w.length<6
  ·rw[zE h6]at hm2
   subst hm2
   refine T ?_
   exact D
  ·rw[zD h6]at hm2
   have f6:decide ((w.length:Int)<6)=false:=zI q_
   have h4:(4:Int).toNat<w.length:=by show 4<w.length;omega
   have hx:wdT w 4=w[(4:Int).toNat]'h4:=C2 q_
   rw[hx]at hm2
   by_cases ca:w[(4:Int).toNat]'h4=E6
   ·have ba:(w[(4:Int).toNat]'h4 == (⟨#[97,99,99,101,115,115]⟩:ByteArray))=true:=E5 ca
    have bt:(w[(4:Int).toNat]'h4 == (⟨#[116,114,117,110,107]⟩:ByteArray))=false:=Ic (by rw[ca];exact Ahz)
    have na:(!(w[(4:Int).toNat]'h4 == (⟨#[97,99,99,101,115,115]⟩:ByteArray)))=false:=Aca ca
    rw[zE ca]at hm2
    by_cases hn:w.length=6
    ·rw[zR hn]at hm2
     subst hm2
     refine T ?_
     exact D
    ·rw[zI hn]at hm2
     have fb:((w.length:Int) == 6)=false:=by rw[zL];omega
     subst hm2
     refine T ?_
     exact D
   ·have ba:(w[(4:Int).toNat]'h4 == (⟨#[97,99,99,101,115,115]⟩:ByteArray))=false:=Ic ca
    have na:(!(w[(4:Int).toNat]'h4 == (⟨#[97,99,99,101,115,115]⟩:ByteArray)))=true:=Aju ca
    rw[zD ca]at hm2
    by_cases ctr:w[(4:Int).toNat]'h4=Es
    ·have bt:(w[(4:Int).toNat]'h4 == (⟨#[116,114,117,110,107]⟩:ByteArray))=true:=E5 ctr
     have nt:(!(w[(4:Int).toNat]'h4 == (⟨#[116,114,117,110,107]⟩:ByteArray)))=false:=Aca ctr
     rw[zE ctr]at hm2
     by_cases hn:w.length=7
     ·rw[zR hn]at hm2
      subst hm2
      refine T ?_
      exact D
     ·rw[zI hn]at hm2
      have fb:((w.length:Int) == 7)=false:=by rw[zL];omega
      subst hm2
      refine T ?_
      exact D
    ·have bt:(w[(4:Int).toNat]'h4 == (⟨#[116,114,117,110,107]⟩:ByteArray))=false:=Ic ctr
     have nt:(!(w[(4:Int).toNat]'h4 == (⟨#[116,114,117,110,107]⟩:ByteArray)))=true:=Aju ctr
     rw[zD ctr]at hm2
     subst hm2
     refine T ?_
     refine Aq E (.cons .tmp .nil) (zG Ab ?_) E
     exact decide_eq_decide.2 q_
 ·subst h
  have hr:r=decide (w.length=5):=by rw[hm2];simp
  subst hr
  refine T ?_
  refine Aq E (.cons .tmp .nil) (zG Ab ?_) E
  by_cases hn:w.length=5
  ·rw[hn];rfl
  ·rw[zI hn];symm;simp;omega
 ·subst h
  have hr:r=decide (w.length=5):=by rw[hm2];simp
  subst hr
  refine T ?_
  refine Aq E (.cons .tmp .nil) (zG Ab ?_) E
  by_cases hn:w.length=5
  ·rw[hn];rfl
  ·rw[zI hn];symm;simp;omega
 ·subst h
  have hr:r=decide (w.length=3):=by rw[hm2];simp
  subst hr
  refine T ?_
  refine Aq E (.cons .tmp .nil) (zG Ab ?_) E
  by_cases hn:w.length=3
  ·rw[hn];rfl
  ·rw[zI hn];symm;simp;omega
 ·subst h
  have hr:r=decide (w.length=4):=by rw[hm2];simp
  subst hr
  refine T ?_
  refine Aq E (.cons .tmp .nil) (zG Ab ?_) E
  by_cases hn:w.length=4
  ·rw[hn];rfl
  ·rw[zI hn];symm;simp;omega
 ·subst h
  have hr:r=decide (w.length=4):=by rw[hm2];simp
  subst hr
  refine T ?_
  refine Aq E (.cons .tmp .nil) (zG Ab ?_) E
  by_cases hn:w.length=4
  ·rw[hn];rfl
  ·rw[zI hn];symm;simp;omega
 ·subst h
  have hr:r=decide (w.length=5):=by rw[hm2];simp
  subst hr
  refine T ?_
  refine Aq E (.cons .tmp .nil) (zG Ab ?_) E
  by_cases hn:w.length=5
  ·rw[hn];rfl
  ·rw[zI hn];symm;simp;omega
 ·subst h
  have hr:r=decide (w.length=5):=by rw[hm2];simp
  subst hr
  refine T ?_
  refine Aq E (.cons .tmp .nil) (zG Ab ?_) E
  by_cases hn:w.length=5
  ·rw[hn];rfl
  ·rw[zI hn];symm;simp;omega
theorem Z6 (a:Nat) (b:Int) (ha:a<4294967296):Sp 105 [Lk a b] (Ab (subnetB a b)):=cT F105 Tryz.ntmps105 λ F hF=>by
 have q1:=Afd a b ha
 have q2:=Z0 a b ha
 have hs:=subnetB.eq_1 (a:Int) b
 generalize subnetB (a:Int) b=r at *
 generalize Ib (a:Int) b=fi at *
 generalize Lr (a:Int) b=la at *
 by_cases h1:1≤b
 ·by_cases h2:b≤30
  ·by_cases h3:(a:Int)=fi
   ·have f3:((a:Int) != fi)=false:=by rw[bne_eq_false_iff_eq];exact h3
    have hr:r=false:=by rw[hs];simp[h3]
    subst hr
    refine T ?_
    refine C q1 F170 ?_
    exact D
   ·have f3:((a:Int) != fi)=true:=by rw[yQ];exact h3
    by_cases h4:(a:Int)=la
    ·have f4:((a:Int) != la)=false:=by rw[bne_eq_false_iff_eq];exact h4
     have hr:r=false:=by rw[hs];simp[h4]
     subst hr
     refine T ?_
     refine C q1 F170 ?_
     refine C q2 F171 ?_
     refine Aq E (.cons .tmp .nil) (zG Ab f4.symm) E
    ·have f4:((a:Int) != la)=true:=by rw[yQ];exact h4
     have hr:r=true:=by rw[hs];simp[h1,h2,h3,h4]
     subst hr
     refine T ?_
     refine C q1 F170 ?_
     refine C q2 F171 ?_
     refine Aq E (.cons .tmp .nil) (zG Ab f4.symm) E
  ·have hr:r=false:=by rw[hs];simp[h2]
   subst hr
   refine T ?_
   exact D
 ·have hr:r=false:=by rw[hs];simp[h1]
  subst hr
  refine T ?_
  exact D
theorem Amc (l:List Int) (v:Int):l.contains v=inB l v:=by
 induction l with
 | nil=>rfl
 | cons x l ih =>
  rw[List.contains_cons,ih,inB,inB,List.any_cons]
  congr 1
  exact Bool.beq_comm
theorem I7 (l:LineM) (hl:Ak l.tagged):Sp 165 [A0 l] (Ab (membersB l.vlan l.tagged)):=cT F165 Tryz.ntmps165 λ F hF=>by
 have q:=Do l.tagged l.vlan hl
 have hm2:=membersB.eq_1 l.vlan l.tagged
 rw[Amc]at hm2
 generalize membersB l.vlan l.tagged=r at *
 generalize inB l.tagged l.vlan=ib at *
 unfold Ak at hl
 by_cases h1:0<l.vlan
 ·have hr:r=!ib:=by rw[hm2];simp[h1]
  subst hr
  refine T ?_
  refine C q F73 ?_
  exact D
 ·by_cases h2:l.tagged.length=0
  ·have hr:r=false:=by
    rw[hm2,zI h1,zU h2];rfl
   subst hr
   refine T ?_
   exact D
  ·have hr:r=!ib:=by
    rw[hm2]
    have:l.tagged.isEmpty=false:=by cases ht:l.tagged<;>simp_all
    simp[this]
   have f2:decide ((l.tagged.length:Int)>0)=true:=zR q_
   subst hr
   refine T ?_
   refine C q F73 ?_
   exact D
end Go.Sy.YtiijbikecbjdaaaGreatDoor
namespace Go.Sy
theorem Qz {P:Program} (Γ:Ty P) {o:Oper} {s:SS} {t:TypeId} {ti:TI} {et:TypeId} {len esz sz g:Nat} {y:Operand} {ik:IntKind} {n:Int} {z:SV} (k:Nat)
  (h:o.op=.indexAddr t (.global g) y) (ht:Γ.get t=some ti) (hk:ti.k=.array et len esz) (hb:s.h k=.glob sz z g) (hy:ev s y=.val (.int ik n)) (h0:0≤n) (hn:n.toNat<len) :
  Good P o s ⟨.ref sz z (n.toNat * esz),[k],[]⟩ :=
 Good.pure λ κ a w _ hr ho=>by
  have h1:=ho k y_
  have h2:=hr y (by simp[h,Op.operands])
  rw[hb]at h1
  rw[hy]at h2
  simp only[ObOK,Rd,RdD]at h1
  obtain ⟨b,oo,u,e1,e2,e3,e4,e5⟩:=h1
  obtain ⟨hu,i,q1,q2⟩:=Tq Γ ht hk
  simp only[tL,Value.pointer.injEq,Option.some.injEq,Addr.mk.injEq,and_true]at e1
  obtain ⟨rfl,rfl⟩:=e1
  refine⟨.pointer (some ⟨g,0+n.toNat * esz,none⟩),?_,?_⟩
  ·have hg:a.eval (.global g)=.pointer (some ⟨g,0,none⟩):=rfl
   simp only[execOp,h,hg,h2.val]
   simp[Oz w hu q1 q2 h0 hn]
  ·simp only[Rd,RdD]
   exact⟨g,0,u,E,e2,e3,e4,e5⟩
theorem Ob.shp_glob {x:Ob} {sz g:Nat} {z:SV} (h:x.shp=(Ob.glob sz z g).shp):x=.glob sz z g:=by
 cases x<;>simp_all[Ob.shp]
theorem GoodX.glob {P:Program} (Γ:Ty P) {o:Oper} {s:SS} {t:TypeId} {ti:TI} {et:TypeId} {len esz sz g:Nat} {y:Operand} {ik:IntKind} {n:Int} {z:SV} (k:Nat)
  (h:o.op=.indexAddr t (.global g) y) (ht:Γ.get t=some ti) (hk:ti.k=.array et len esz) (hb:s.h k=.glob sz z g) (hy:ev s y=.val (.int ik n)) (h0:0≤n) (hn:n.toNat<len) :
  GoodX P o s ⟨.ref sz z (n.toNat * esz),[k],[]⟩ where
 good:=(Qz Γ k h ht hk hb hy h0 hn).two
 idx _:=⟨rfl,λ s' h1 h2=>Qz Γ k h ht hk (Ob.shp_glob ((h2 k y_).trans (zG Ob.shp hb))) ((h1 y (by simp[h,Op.operands])).trans hy) h0 hn⟩
 st hs:=by simp[Ms,h]at hs
section
open Go.ChangeShapes Go.WideShapes Go.ChangeAt Go.RowKit
variable {H:Type} {enc:TypeId × Value→H} {P:Program}
end
end Go.Sy
namespace Go.Sy
theorem B7 {P:Program} (Γ:Ty P) {o:Oper} {s:SS} {t:TypeId} {ti:TI} {et:TypeId} {len:Nat} {x y:Operand} {ik:IntKind} {n:Int} {l:List SV} {z:SV} {k:EK} (h:o.op=.index t x y) (ht:Γ.get t=some ti) (hk:ti.k=.array et len 1)
  (he:P.underlying et=some (EK.desc k)) (hx:ev s x=.agg l) (hy:ev s y=.val (.int ik n)) (h0:0≤n) (hn:n.toNat<len) (hz:Hi l n.toNat=some z):Good P o s ⟨z,[],[]⟩ :=
 Good.pure λ κ a w _ hr _=>by
  have h1:=hr x (by simp[h,Op.operands])
  have h2:=hr y (by simp[h,Op.operands])
  rw[hx]at h1
  rw[hy]at h2
  simp only[Rd]at h1
  obtain ⟨cs,e1,_,e2⟩:=h1
  obtain ⟨v,e3,e4⟩:=e2.getT hz
  obtain ⟨hu,i,q1,q2⟩:=Tq Γ ht hk
  have hp:=Acx (P:=P) w he cs.toArray e3
  have hlt:n<len:=by omega
  refine⟨v,?_,e4⟩
  simp[execOp,h,e1,h2.val,Instr.index,run_underlying hu,asIntOf,h0,hlt,sizeOf,typeInfo,q1,q2,hp]
theorem Ai {C:Cx} {k:List KI} {s:SS} (d:Nat) (l':List SV) {l:List SV} (h:s.h d=.box l) (hv:VwL s [] l l') (hg:G C k ⟨s.σ,upd s.h d (.box l')⟩):G C k s:=λ κ a w hs =>
 hg κ a w ⟨hs.defers,hs.size,hs.inv,hs.ctx,hs.slot,λ i=>by
  show ObOK κ w i (upd s.h d (.box l') i)
  by_cases hi:i=d
  ·subst hi
   rw[Bt]
   have:=hs.obj i
   rw[h]at this
   obtain ⟨b,cs,T,fr,e1,e2,e3,e4,e5⟩:=this
   exact⟨b,cs,T,fr,e1,e2,e3,e4,VwL.rd hs.inv (λ _ hn=>by cases hn) hv e5⟩
  ·rw[Ck _ _ hi];exact hs.obj i⟩
end Go.Sy
namespace Go.Sy.YtiijbikecbjdaaaGreatDoor
open Go.Proofs
attribute [local irreducible] Go.Sy.G Go.Sy.DR
set_option maxRecDepth 100000
set_option maxHeartbeats 4000000
def Kk (e:Int) (l:List (Bool × Int)):Int:=l.foldl (λ e x=>Ar e x.1 x.2) e
theorem Aa0:∀ (l:List (Bool × Int)) (e:Int),(∀ x∈l,x.2≠0)→Kk e l=if e=0 then Bm l else e
 | [],e,_=>by
  show e=_
  split
  ·rename_i h;rw[h];rfl
  ·rfl
 | (b,c)::l,e,h=>by
  have hc:=h (b,c) y_
  have ih:=Aa0 l (Ar e b c) (λ x hx=>h x (by simp[hx]))
  show Kk (Ar e b c) l=_
  rw[ih,Bm]
  dsimp only at hc
  by_cases he:e=0
  ·subst he
   cases b with
   | true=>simp[Ar,hc]
   | false=>simp[Ar]
  ·have:Ar e b c=e:=by rw[Ar,zD (λ x=>he x.2)]
   rw[this,zD he,zD he]
theorem Dd (l:List (Bool × Int)) (h:∀ x∈l,x.2≠0):Bm l=Kk 0 l:=by rw[Aa0 l 0 h,zE rfl]
theorem Ue (e:Int) (a b:List (Bool × Int)):Kk e (a++b)=Kk (Kk e a) b:=xF
abbrev rlO (w:List ByteArray) (i:Nat) (e:Int) (l:LineM):Obs:=[(0,.box [.sl 1 Ao w,Aa i,Aa e]),(1,.box (B8 l))]
def Aww (w:List ByteArray):Nat:=if wdT w 4=E6 then 6 else if wdT w 4=Es then 7 else 5
theorem Aap (most:Int) (s:ByteArray):(listR most s).1.length≤16:=by
 rw[listR]
 split
 ·simp
 ·rw[Hh]
  cases h:H1 (λ p=>numR p 1 most) [] (Cp 44 s) with
  | mk l b =>
   cases b with
   | true=>exact(Oc _ _ _ _ h List.Pairwise.nil j_).2.1
   | false =>
    have:∀ (ps:List ByteArray) (out r:List Int),H1 (λ p=>numR p 1 most) out ps=(r,false)→r=[]:=by
     intro ps
     induction ps with
     | nil=>intro out r h;rw[H1]at h;simp at h
     | cons p ps ih =>
      intro out r h
      rw[H1]at h
      split at h
      ·simp at h;exact h
      ·exact ih _ _ h
    rw[this _ _ _ h];simp
set_option maxRecDepth 100000 in
theorem Az5 (w:List ByteArray) (e:Int) (l:LineM) (hw:w.length≤1000000) (hs:∀ s∈w,s.size≤40) (h4:4<w.length) (ha:wdT w 4=E6→5<w.length) (htr:wdT w 4=Es→6<w.length) (hl0:l.vlan=0∧l.tagged=[]) :
  Sq 98 [.ptr 0 0,.ptr 1 0] (rlO w 4 e l) (.tup []) (rlO w (Aww w) (Kk e ((Dv w).2.2++[(!(membersB (Dv w).1 (Dv w).2.1),21)])) { l with vlan:=(Dv w).1,tagged:=(Dv w).2.1 }):=cT F98 Tryz.ntmps98 λ F hF=>by
 obtain ⟨row,kind,dev,port,peer,far,name,mac,addr,bits,vlan,num,cost,tagged,imports,exports,addrs⟩:=l
 obtain ⟨g1,g2⟩:=hl0
 dsimp only at g1 g2
 subst g1 g2
 have q0:Sq 100 [.ptr 0 0] (rdO w 4 e) (Ao (wdT w 4)) (rdO w 5 e):=Ma w 4 e h4 hw
 rw[Aww,Dv,Ue]
 by_cases c1:wdT w 4=E6
 ·have b1:(wdT w 4 == (⟨#[97,99,99,101,115,115]⟩:ByteArray))=true:=E5 c1
  have q1:=W8 w 5 e (ha c1) hw
  rw[zE c1,zE c1]
  have q2:=I7 ⟨row,kind,dev,port,peer,far,name,mac,addr,bits,(Cq (wdT w 5)).1,num,cost,[],imports,exports,addrs⟩ (by simp[Ak])
  dsimp only at q2 ⊢
  have hf1:Kk e [(!(Cq (wdT w 5)).2,21)]=Ar e (!(Cq (wdT w 5)).2) 21:=rfl
  rw[hf1]
  have q3:=λ b=>Ip w 6 (Ar e (!(Cq (wdT w 5)).2) 21) b 21
  generalize Ar e (!(Cq (wdT w 5)).2) 21=e1 at *
  generalize (Cq (wdT w 5)).1=v at *
  have hf2:Kk e1 [(!(membersB v []),21)]=Ar e1 (!(membersB v [])) 21:=rfl
  rw[hf2]
  have q3:=q3 (!(membersB v []))
  generalize Ar e1 (!(membersB v [])) 21=e2 at *
  generalize membersB v []=mb at *
  refine T ?_
  refine X (Ad [] E F100 q0 E W E V) ?_
  refine X (Ad [] E F94 q1 E W E V) ?_
  refine C q2 F165 ?_
  refine X (Ad [] E F97 q3 E W E V) ?_
  exact A1 E .nil [] (rlO w 6 e2 ⟨row,kind,dev,port,peer,far,name,mac,addr,bits,v,num,cost,[],imports,exports,addrs⟩) (λ _ h=>h) E E U
 ·have b1:(wdT w 4 == (⟨#[97,99,99,101,115,115]⟩:ByteArray))=false:=Ic c1
  rw[zD c1,zD c1]
  by_cases c2:wdT w 4=Es
  ·have b2:(wdT w 4 == (⟨#[116,114,117,110,107]⟩:ByteArray))=true:=E5 c2
   have h6:=htr c2
   have h5:((5:Nat):Int).toNat<w.length:=by show 5<w.length;omega
   have e5:w[((5:Nat):Int).toNat]'h5=wdT w 5:=(C2 q_).symm
   rw[zE c2,zE c2]
   by_cases c3:wdT w 5=A04
   ·have b3:(w[((5:Nat):Int).toNat]'h5 == (⟨#[45]⟩:ByteArray))=true:=E5 (by rw[e5];exact c3)
    rw[zE c3]
    have q1:=Ab1 w 6 e 4094 h6 hw hs
    have q2:=I7 ⟨row,kind,dev,port,peer,far,name,mac,addr,bits,0,num,cost,(listR 4094 (wdT w 6)).1,imports,exports,addrs⟩ (by have:=Aap 4094 (wdT w 6);simp only[Ak];omega)
    dsimp only at q2 ⊢
    have hf1:Kk e [(!(listR 4094 (wdT w 6)).2,21)]=Ar e (!(listR 4094 (wdT w 6)).2) 21:=rfl
    rw[hf1]
    have q3:=λ b=>Ip w 7 (Ar e (!(listR 4094 (wdT w 6)).2) 21) b 21
    generalize Ar e (!(listR 4094 (wdT w 6)).2) 21=e1 at *
    generalize (listR 4094 (wdT w 6)).1=v at *
    have hf2:Kk e1 [(!(membersB 0 v),21)]=Ar e1 (!(membersB 0 v)) 21:=rfl
    rw[hf2]
    have q3:=q3 (!(membersB 0 v))
    generalize Ar e1 (!(membersB 0 v)) 21=e2 at *
    generalize membersB 0 v=mb at *
    refine T ?_
    refine X (Ad [] E F100 q0 E W E V) ?_
    refine X (Ad [] E F103 q1 E W E V) ?_
    refine C q2 F165 ?_
    refine X (Ad [] E F97 q3 E W E V) ?_
    exact A1 E .nil [] (rlO w 7 e2 ⟨row,kind,dev,port,peer,far,name,mac,addr,bits,0,num,cost,v,imports,exports,addrs⟩) (λ _ h=>h) E E U
   ·have b3:(w[((5:Nat):Int).toNat]'h5 == (⟨#[45]⟩:ByteArray))=false:=Ic (by rw[e5];exact c3)
    rw[zD c3]
    have q4:=W8 w 5 e q_ hw
    have hf1:Kk e [(!(Cq (wdT w 5)).2,21),(!(listR 4094 (wdT w 6)).2,21)]=Ar (Ar e (!(Cq (wdT w 5)).2) 21) (!(listR 4094 (wdT w 6)).2) 21:=rfl
    dsimp only
    rw[hf1]
    generalize Ar e (!(Cq (wdT w 5)).2) 21=e0 at *
    have q1:=Ab1 w 6 e0 4094 h6 hw hs
    have q2:=I7 ⟨row,kind,dev,port,peer,far,name,mac,addr,bits,(Cq (wdT w 5)).1,num,cost,(listR 4094 (wdT w 6)).1,imports,exports,addrs⟩ (by have:=Aap 4094 (wdT w 6);simp only[Ak];omega)
    dsimp only at q2
    have q3:=λ b=>Ip w 7 (Ar e0 (!(listR 4094 (wdT w 6)).2) 21) b 21
    generalize Ar e0 (!(listR 4094 (wdT w 6)).2) 21=e1 at *
    generalize (listR 4094 (wdT w 6)).1=v at *
    generalize (Cq (wdT w 5)).1=u at *
    have hf2:Kk e1 [(!(membersB u v),21)]=Ar e1 (!(membersB u v)) 21:=rfl
    rw[hf2]
    have q3:=q3 (!(membersB u v))
    generalize Ar e1 (!(membersB u v)) 21=e2 at *
    generalize membersB u v=mb at *
    refine T ?_
    refine X (Ad [] E F100 q0 E W E V) ?_
    refine X (Ad [] E F94 q4 E W E V) ?_
    refine X (Ad [] E F103 q1 E W E V) ?_
    refine C q2 F165 ?_
    refine X (Ad [] E F97 q3 E W E V) ?_
    exact A1 E .nil [] (rlO w 7 e2 ⟨row,kind,dev,port,peer,far,name,mac,addr,bits,u,num,cost,v,imports,exports,addrs⟩) (λ _ h=>h) E E U
  ·have b2:(wdT w 4 == (⟨#[116,114,117,110,107]⟩:ByteArray))=false:=Ic c2
   rw[zD c2,zD c2]
   have q2:=I7 ⟨row,kind,dev,port,peer,far,name,mac,addr,bits,0,num,cost,[],imports,exports,addrs⟩ (by simp[Ak])
   dsimp only at q2 ⊢
   have hf2:Kk (Kk e []) [(!(membersB 0 []),21)]=Ar e (!(membersB 0 [])) 21:=rfl
   rw[hf2]
   have q3:=Ip w 5 e (!(membersB 0 [])) 21
   generalize Ar e (!(membersB 0 [])) 21=e2 at *
   generalize membersB 0 []=mb at *
   refine T ?_
   refine X (Ad [] E F100 q0 E W E V) ?_
   refine C q2 F165 ?_
   refine X (Ad [] E F97 q3 E W E V) ?_
   exact A1 E .nil [] (rlO w 5 e2 ⟨row,kind,dev,port,peer,far,name,mac,addr,bits,0,num,cost,[],imports,exports,addrs⟩) (λ _ h=>h) E E U
end Go.Sy.YtiijbikecbjdaaaGreatDoor
