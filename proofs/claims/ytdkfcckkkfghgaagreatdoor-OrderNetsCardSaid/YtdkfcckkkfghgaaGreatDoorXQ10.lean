/-
  ON10 ON11 NB24: parts of a proof, joined by program.
-/
import Derived.Test.YtdkfcckkkfghgaaGreatDoorXQ9
import Derived.Test.YtdkfcckkkfghgaaGreatDoorXQ7
set_option linter.all false
set_option linter.unusedVariables false
set_option linter.unusedSimpArgs false
set_option linter.deprecated false
namespace Go.Sy.YtdkfcckkkfghgaaGreatDoor
open Go.Proofs
theorem Aiu {α β:Type} {P:β→Prop} {f:α→β} {l:List α}:(∃ q∈l.map f,P q)↔∃ q∈l,P (f q):=by
 constructor
 ·rintro ⟨q,hq,e⟩
  obtain ⟨x,hx,rfl⟩:=List.mem_map.1 hq
  exact⟨x,hx,e⟩
 ·rintro ⟨x,hx,e⟩
  exact⟨f x,List.mem_map_of_mem hx,e⟩
section
variable {n:Net} {p:List LineM} (r:Rep n p) (hr:NetR n) (v:Valid p)
include r hr v
theorem Aeb:Rep (Al n) p where
 nm:=r.nm
 pnm:=r.pnm
 dev:=r.dev
 vtep:=r.vtep
 port:=r.port
 tied:=r.tied
 link:=r.link
 dom s v:=by
  rw[← r.dom]
  exact Aiu
 vni s v w hw:=by
  rw[← r.vni s v w hw]
  exact Aiu
 dirb s v:=by
  rw[← r.dirb]
  exact Aiu
 stat s v' m:=by
  rw[← r.stat]
  refine C6 fun q hq=>?_
  have e:=E4 r hr v (Lu r hr hq)
  rw[e]
  rfl
 flood:=r.flood
 vrf:=r.vrf
 ok:=r.ok
 six:=r.six
 irb:=r.irb
theorem V5 (ha:∀ f∈n.floods,agreesB n f=true) {i y:Int} (hi:Af i n.domains.length=true) (hy:y∈peersT n (nth n.domains i)):Af y n.domains.length=true∧∀ z,z=i∨z∈peersT n (nth n.domains i)→z=y∨z∈peersT n (nth n.domains y):=by
 by_cases hc:(nth n.domains i).vni≠0∧0≤C4 n (nth n.domains i).dev (nth n.domains i).vni
 ·have hpe:peersT n (nth n.domains i)=(nth n.floods (C4 n (nth n.domains i).dev (nth n.domains i).vni)).addrs.map fun a=>Et n (Bp n a) (nth n.domains i).vni:=if_pos hc
  rw[hpe]at hy ⊢
  obtain ⟨a,hm,rfl⟩:=List.mem_map.1 hy
  obtain ⟨p1,p2,p3,p4,p5,p6,p7,p8,p9⟩:=Va r hr v ha hi hc.2 hm
  refine⟨p1,fun z hz=>?_⟩
  rcases hz with rfl | hz
  ·exact .inr p9
  ·obtain ⟨b,hb,rfl⟩:=List.mem_map.1 hz
   obtain ⟨c1,c2,c3⟩:=L4 r hr v hc.2
   have hg:=ha _ (Ba c1)
   rw[agreesB,Bool.and_eq_true,List.all_eq_true]at hg
   have:=hg.2 a hm
   simp only[agreeA,Bool.and_eq_true,decide_eq_true_eq,bne_iff_ne,ne_eq,inB_iff,List.all_eq_true,Bool.or_eq_true,beq_iff_eq]at this
   obtain ⟨h1,h2,h3,h4,h5,h7⟩:=this
   rw[c3]at h3 h4 h5 h7
   rcases h7 b hb with rfl | h7
   ·exact .inl q_
   ·refine .inr ?_
    rw[peersT,p2,p4,if_pos ⟨hc.1,h4⟩]
    exact List.mem_map.2 ⟨b,h7,q_⟩
 ·rw[peersT,if_neg hc]at hy;cases hy
def Xz (n:Net) (p:List LineM) (i k:Int):Prop:=Af k n.domains.length=true∧(nth n.domains i).vni≠0∧(nth n.domains k).vni=(nth n.domains i).vni ∧
 ∃ A a,(has p 7 fun x=>x.dev=dn n (nth n.domains i).dev∧x.num=(nth n.domains i).vni∧x.addrs=A)∧a∈A∧has p 5 fun x=>x.dev=dn n (nth n.domains k).dev∧x.addr=a
theorem Aen (ha:∀ f∈n.floods,agreesB n f=true) {i k:Int} (hi:Af i n.domains.length=true):k∈peersT n (nth n.domains i)↔Xz n p i k:=by
 constructor
 ·intro hk
  by_cases hc:(nth n.domains i).vni≠0∧0≤C4 n (nth n.domains i).dev (nth n.domains i).vni
  ·have hpe:peersT n (nth n.domains i)=(nth n.floods (C4 n (nth n.domains i).dev (nth n.domains i).vni)).addrs.map fun a=>Et n (Bp n a) (nth n.domains i).vni:=if_pos hc
   rw[hpe]at hk
   obtain ⟨a,hm,rfl⟩:=List.mem_map.1 hk
   obtain ⟨p1,p2,p3,p4,p5,p6,p7,p8,p9⟩:=Va r hr v ha hi hc.2 hm
   obtain ⟨c1,c2,c3⟩:=L4 r hr v hc.2
   obtain ⟨x,hx,x1,x2,x3,x4⟩:=Jb r hr v (Ba c1)
   refine⟨p1,hc.1,p4,_,a,⟨x,hx,x1,by rw[x2,c2],x3.trans c3,x4⟩,hm,?_⟩
   rw[p2]
   exact(r.vtep _ _ p7).1 ⟨_,Ba p3,q_,p6⟩
  ·rw[peersT,if_neg hc]at hk;cases hk
 ·rintro ⟨hk,hw,hkw,A,a,h7,ham,h5⟩
  have hid:=B2 r hr (Ba hi)
  have hkd:=B2 r hr (Ba hk)
  have ei:=Me r hid
  have ek:=Me r hkd
  have hi0:0≤Ap n (dn n (nth n.domains i).dev):=by rw[ei];have:=place_iff.1 hid;omega
  have hk0:0≤Ap n (dn n (nth n.domains k).dev):=by rw[ek];have:=place_iff.1 hkd;omega
  have hl:=(Yh r hr hi0 (nth n.domains i).vni).2 (Ce h7 fun x hx=>⟨hx.1,hx.2.1⟩)
  rw[ei]at hl
  obtain ⟨c1,c2,c3⟩:=L4 r hr v hl
  obtain ⟨z,hz,z1,z2,z3,z4⟩:=h7
  obtain ⟨u,hu,u1,u2,u3,u4⟩:=Jb r hr v (Ba c1)
  have ezu:=Amx v hz hu (by simp[Dv,z1,u1,z2,u2,c2,z3,u3,c3])
  have eA:(nth n.floods (C4 n (nth n.domains i).dev (nth n.domains i).vni)).addrs=A:=by rw[← u4,← ezu,z4]
  obtain ⟨w1,hw1,w2,w3,w4⟩:=h5
  have ha0:a≠0:=by rw[← w4];exact J7 (v.right w1 hw1) w2
  have hvt:=(Ic r hr hk0 ha0).2 ⟨w1,hw1,w2,w3,w4⟩
  rw[ek]at hvt
  have hown:=Aj0 r hr v hkd (by rw[hvt];exact ha0)
  rw[hvt]at hown
  rw[peersT,if_pos ⟨hw,hl⟩,eA]
  refine List.mem_map.2 ⟨a,ham,?_⟩
  rw[hown,← hkw]
  exact Ajf r hr v hk (by rw[hkw];exact hw)
end
def phi (n m:Net) (i:Int):Int:=Bj n (Ap n (dn m (nth m.domains i).dev)) (nth m.domains i).vlan
section
variable {n m:Net} {p:List LineM} (r:Rep n p) (hr:NetR n) (s:Rep m p) (hs:NetR m)
include r hr s hs
theorem Tq {i i':Int} (hi':Af i' n.domains.length=true) (h1:dn n (nth n.domains i').dev=dn m (nth m.domains i).dev) (h2:(nth n.domains i').vlan=(nth m.domains i).vlan):phi n m i=i':=by
 rw[phi,← h1,← h2,Me r (B2 r hr (Ba hi')),Je r hr hi']
theorem M7 {i:Int} (hi:Af i m.domains.length=true):Af (phi n m i) n.domains.length=true∧dn n (nth n.domains (phi n m i)).dev=dn m (nth m.domains i).dev∧(nth n.domains (phi n m i)).vlan=(nth m.domains i).vlan:=by
 obtain ⟨d,hd,e1,e2⟩:=(r.dom _ _).2 ((s.dom _ _).1 ⟨_,Ba hi,rfl,rfl⟩)
 obtain ⟨j,hj,rfl⟩:=Co hd
 rw[Tq r hr s hs (Cf hj) e1 e2]
 exact⟨Cf hj,e1,e2⟩
theorem Aqe {i j:Int} (hi:Af i m.domains.length=true) (hj:Af j m.domains.length=true) (h:phi n m i=phi n m j):i=j:=by
 obtain ⟨_,a1,a2⟩:=M7 r hr s hs hi
 obtain ⟨_,b1,b2⟩:=M7 r hr s hs hj
 rw[h]at a1 a2
 have e1:=s.nm _ _ (B2 s hs (Ba hi)) (B2 s hs (Ba hj)) (a1.symm.trans b1)
 rw[← Je s hs hi,← Je s hs hj,e1,← a2,b2]
theorem Ajy {i:Int} (hi:Af i m.domains.length=true) (hw:(nth m.domains i).vni≠0):(nth n.domains (phi n m i)).vni=(nth m.domains i).vni:=by
 obtain ⟨d,hd,e1,e2,e3⟩:=(r.vni _ _ _ hw).2 ((s.vni _ _ _ hw).1 ⟨_,Ba hi,rfl,rfl,rfl⟩)
 obtain ⟨j,hj,rfl⟩:=Co hd
 rw[Tq r hr s hs (Cf hj) e1 e2]
 exact e3
theorem Ale {i k:Int} (hi:Af i m.domains.length=true) (h:Xz m p i k):Xz n p (phi n m i) (phi n m k):=by
 obtain ⟨hk,hw,hkw,A,a,h7,ham,h5⟩:=h
 have e1:=Ajy r hr s hs hi hw
 have e2:=Ajy r hr s hs hk (by rw[hkw];exact hw)
 obtain ⟨_,i1,_⟩:=M7 r hr s hs hi
 obtain ⟨k0,k1,_⟩:=M7 r hr s hs hk
 exact⟨k0,by rw[e1];exact hw,by rw[e1,e2];exact hkw,A,a,by rw[i1,e1];exact h7,ham,by rw[k1];exact h5⟩
def SameP (n m:Net) (q' q:Int):Prop:=Af q' n.ports.length=true∧dn n (nth n.ports q').dev=dn m (nth m.ports q).dev∧(nth n.ports q').name=(nth m.ports q).name∧(nth n.ports q').native=(nth m.ports q).native∧(nth n.ports q').tagged=(nth m.ports q).tagged
theorem Ajj {q:Int} (hq:Af q m.ports.length=true):∃ q',SameP n m q' q:=by
 obtain ⟨d,hd,e⟩:=(r.port _ _ _ _).2 ((s.port _ _ _ _).1 ⟨_,Ba hq,rfl,rfl,rfl,rfl⟩)
 obtain ⟨j,hj,rfl⟩:=Co hd
 exact⟨j,Cf hj,e⟩
theorem Tg {q q' t:Int} (h:SameP n m q' q) (ht:Af t n.ports.length=true) (h1:dn n (nth n.ports t).dev=dn m (nth m.ports q).dev) (h2:(nth n.ports t).name=(nth m.ports q).name):t=q':=by
 obtain ⟨a,b,c,_⟩:=h
 exact r.pnm _ _ ht a (r.nm _ _ (Df r hr (Ba ht)) (Df r hr (Ba a)) (h1.trans b.symm)) (h2.trans c.symm)
theorem Ah5 {q q' t':Int} (hq:SameP n m q' q) (h0:0≤Dc m q) (ht:SameP n m t' (Dc m q)) (hqp:Af q m.ports.length=true):Dc n q'=t':=by
 have hrb:=netR_iff.2 hr
 have hc:(0≤q∧q<m.ports.length)∧0≤(nth m.ports q).link∧Ah m=true:=by
  rw[Dc]at h0
  split at h0
  ·assumption
  ·omega
 have ho:Dc m q=if (nth m.links (nth m.ports q).link).a=q then (nth m.links (nth m.ports q).link).b else (nth m.links (nth m.ports q).link).a:=by rw[Dc,if_pos hc]
 obtain ⟨j,rfl,hj⟩:=D4 hqp
 have hpl:=(portB_iff.1 (hs.port j hj)).2.2.2.2.2.2.2
 have hpl:Af (nth m.ports (j:Int)).link m.links.length=true∧((nth m.links (nth m.ports (j:Int)).link).a=(j:Int)∨(nth m.links (nth m.ports (j:Int)).link).b=(j:Int)):=by
  rcases hpl with h | h
  ·have:=hc.2.1;omega
  ·exact h
 obtain ⟨hl,hab⟩:=hpl
 generalize (nth m.ports (j:Int)).link=k at *
 obtain ⟨L,hL,e1,e2,e3,e4⟩:=(r.link _ _ _ _).2 ((s.link _ _ _ _).1 ⟨_,Ba hl,rfl,rfl,rfl,rfl⟩)
 obtain ⟨k',hk',rfl⟩:=Co hL
 obtain ⟨f1,f2,f3,f4,f5⟩:=linkB_iff.1 (hr.link k' hk')
 have q1:=place_iff.1 hq.1
 have other:∀ {x:Int},(nth n.ports x).link=(k':Int)→Af x n.ports.length=true→Dc n x=if (nth n.links (k':Int)).a=x then (nth n.links (k':Int)).b else (nth n.links (k':Int)).a:=fun {x} hx hp=>by
  have:=place_iff.1 hp
  rw[Dc,if_pos ⟨by omega,by rw[hx];omega,hrb⟩,hx]
 by_cases ha:(nth m.links k).a=(j:Int)
 ·rw[if_pos ha]at ho
  rw[ho]at ht
  have g1:=Tg r hr s hs hq f1 (by rw[e1,ha]) (by rw[e2,ha])
  have g2:=Tg r hr s hs ht f2 e3 e4
  rw[← g1,other f4 f1,if_pos rfl,g2]
 ·rw[if_neg ha]at ho
  rw[ho]at ht
  have hb:=hab.resolve_left ha
  have g1:=Tg r hr s hs ht f1 e1 e2
  have g2:=Tg r hr s hs hq f2 (by rw[e3,hb]) (by rw[e4,hb])
  rw[← g2,other f5 f2,if_neg (fun e=>f3 (by rw[e])),g1]
theorem Alx {a b:Int} (h:Abe m a b):Abe n (phi n m a) (phi n m b):=by
 have hrb:=netR_iff.2 hr
 have hsb:=netR_iff.2 hs
 obtain ⟨q,hq,v,hv,hok,rfl,rfl⟩:=h
 have hc:(crossT m (q:Int) v).2.2=true:=by
  cases hcc:(crossT m (q:Int) v).2.2
  ·rw[linkDomT,if_neg (by rw[hcc];decide)]at hok;cases hok
  ·rfl
 have hcr:0≤Dc m (q:Int)∧Ck (nth m.ports (q:Int)) v=true∧Hw m (q:Int) v≠0:=by
  rw[crossT]at hc
  split at hc
  ·assumption
  ·cases hc
 have hbe:(linkDomT m (q:Int) v).1=Bj m (nth m.ports (Dc m (q:Int))).dev (Hw m (q:Int) v):=by
  rw[linkDomT,if_pos hc,crossT,if_pos hcr]
  dsimp only
  rw[Md,if_pos hsb]
 have hbin:=E7 hok
 have hto:=Kc hcr.1
 obtain ⟨q',sq⟩:=Ajj r hr s hs (Cf hq)
 have htp:Af (Dc m (q:Int)) m.ports.length=true:=place_iff.2 (by have:=hcr.1;omega)
 obtain ⟨t',st⟩:=Ajj r hr s hs htp
 have ho:=Ah5 r hr s hs sq hcr.1 st (Cf hq)
 obtain ⟨q1,q2,q3,q4,q5⟩:=sq
 obtain ⟨t1,t2,t3,t4,t5⟩:=st
 have hct:Hw n q' v=Hw m (q:Int) v:=by rw[Hw,Hw,ho,q4,t4,t5]
 have hmem:Ck (nth n.ports q') v=true:=by
  have:=hcr.2.1
  rw[Ck]at this ⊢
  rw[q4,q5];exact this
 have ht0:=place_iff.1 t1
 have hcn:0≤Dc n q'∧Ck (nth n.ports q') v=true∧Hw n q' v≠0:=⟨by rw[ho];omega,hmem,by rw[hct];exact hcr.2.2⟩
 have hln:linkDomT n q' v=(Bj n (nth n.ports t').dev (Hw m (q:Int) v),true):=by
  rw[linkDomT,crossT,if_pos hcn,if_pos rfl]
  dsimp only
  rw[Md,if_pos hrb,ho,hct]
 obtain ⟨j,rfl,hj⟩:=D4 q1
 have hokn:(linkDomT n (j:Int) v).2=true:=by rw[hln]
 have hin:=E7 hokn
 rw[hln]at hin
 dsimp only at hin
 refine⟨j,hj,v,by rw[q4,q5];exact hv,hokn,?_,?_⟩
 ·have e1:nth m.ports (q:Int)=m.ports[q]:=(Cc _ _ hq).symm
  have e2:nth n.ports (j:Int)=n.ports[j]:=(Cc _ _ hj).symm
  have d1:=Kv hsb hq (v:=v) (by rw[← e1];exact hcr.2.1)
  have d2:=Kv hrb hj (v:=v) (by rw[← e2];exact hmem)
  rw[← e1]at d1
  rw[← e2]at d2
  obtain ⟨a1,a2,a3⟩:=Lg s hs d1.1
  obtain ⟨b1,b2,b3⟩:=Lg r hr d2.1
  exact Tq r hr s hs b1 (by rw[b2,a2];exact q2) (by rw[b3,a3])
 ·rw[hbe]at hbin ⊢
  rw[hln]
  obtain ⟨a1,a2,a3⟩:=Lg s hs hbin.1
  obtain ⟨b1,b2,b3⟩:=Lg r hr hin.1
  exact Tq r hr s hs b1 (by rw[b2,a2];exact t2) (by rw[b3,a3])
end
end Go.Sy.YtdkfcckkkfghgaaGreatDoor
namespace Go.Sy.YtdkfcckkkfghgaaGreatDoor
open Go.Proofs
theorem Tz:∀ (l:List Int) (m z:Int),z=m∨z∈l→H2 m l≤z
 | [],m,z,h=>by
  rcases h with rfl | h
  ·exact Int.le_refl _
  ·cases h
 | x::l,m,z,h=>by
  rw[H2]
  rcases h with rfl | h
  ·exact Int.le_trans (Tz l _ (min z x) (.inl q_)) (Int.min_le_left ..)
  ·rcases List.mem_cons.1 h with rfl | h
   ·exact Int.le_trans (Tz l _ (min m z) (.inl q_)) (Int.min_le_right ..)
   ·exact Tz l _ z (.inr h)
theorem Aln {l k:List Int} {i j:Int} (h:∀ z,z=i∨z∈l↔z=j∨z∈k):H2 i l=H2 j k:=by
 have a:H2 i l=i∨H2 i l∈l:=T0 l i
 have b:H2 j k=j∨H2 j k∈k:=T0 k j
 exact Int.le_antisymm (Tz l i _ ((h _).2 b)) (Tz k j _ ((h _).1 a))
theorem Ama {n m:Net} {p:List LineM} (r:Rep n p) (hr:NetR n) (s:Rep m p) (hs:NetR m) (v:Valid p) (hn:∀ f∈n.floods,agreesB n f=true) (hm:∀ f∈m.floods,agreesB m f=true) (h:Apz (Al n)):Apz (Al m):=by
 have rN:=Aeb r hr v
 have rM:=Aeb s hs v
 have hN:=Sm r hr v hn
 have hM:=Sm s hs v hm
 have ln:(Al n).domains.length=n.domains.length:=List.length_map _
 have lm:(Al m).domains.length=m.domains.length:=List.length_map _
 have pn:∀ {i:Int},Af i (Al n).domains.length=true→(nth (Al n).domains i).peers=peersT n (nth n.domains i):=fun hi=>by rw[E4 r hr v (by rw[← ln];exact hi)]
 have pm:∀ {i:Int},Af i (Al m).domains.length=true→(nth (Al m).domains i).peers=peersT m (nth m.domains i):=fun hi=>by rw[E4 s hs v (by rw[← lm];exact hi)]
 have pP:∀ {i k:Int},Af i (Al n).domains.length=true→Xz (Al n) p i k→k∈(nth (Al n).domains i).peers:=fun {i k} hi hk=>by
  rw[pn hi,Aen r hr v hn (by rw[← ln];exact hi)]
  have e1:=E4 r hr v (by rw[← ln];exact hi)
  have e2:=E4 r hr v (by rw[← ln];exact hk.1)
  rw[Xz,e1,e2]at hk
  rw[ln]at hk
  exact hk
 have pM:∀ {i k:Int},Af i (Al m).domains.length=true→k∈(nth (Al m).domains i).peers→Xz (Al m) p i k:=fun {i k} hi hk=>by
  rw[pm hi,Aen s hs v hm (by rw[← lm];exact hi)]at hk
  have e1:=E4 s hs v (by rw[← lm];exact hi)
  have e2:=E4 s hs v hk.1
  rw[Xz,e1,e2,lm]
  exact hk
 have hphi:∀ {i k:Int},Af i (Al m).domains.length=true→k∈(nth (Al m).domains i).peers→phi (Al n) (Al m) k∈(nth (Al n).domains (phi (Al n) (Al m) i)).peers:=fun hi hk =>
  pP (M7 rN hN rM hM hi).1 (Ale rN hN rM hM hi (pM hi hk))
 have hmz:∀ {x y:Int},Af x (Al n).domains.length=true→y∈(nth (Al n).domains x).peers→Hh (Al n) y=Hh (Al n) x:=fun {x y} hx hy=>by
  rw[pn hx]at hy
  obtain ⟨hyp,hsub⟩:=V5 r hr v hn (by rw[← ln];exact hx) hy
  by_cases exy:x=y
  ·rw[exy]
  ·have hxy:x∈peersT n (nth n.domains y):=(hsub x (.inl rfl)).resolve_left exy
   obtain ⟨_,hsub2⟩:=V5 r hr v hn hyp hxy
   rw[Hh,Hh,pn hx,pn (by rw[ln];exact hyp)]
   congr 1
   exact Aln fun z=>⟨hsub2 z,hsub z⟩
 intro i hi hpe hc
 have hii:=M7 rN hN rM hM hi
 have hpe2:∀ {j:Int},Af j (Al m).domains.length=true→(nth (Al m).domains j).peers≠[]→(nth (Al n).domains (phi (Al n) (Al m) j)).peers≠[]:=fun {j} hj hp e=>by
  cases hk:(nth (Al m).domains j).peers with
  | nil=>exact hp hk
  | cons k t =>
   have:=hphi hj (k:=k) (by rw[hk];simp)
   rw[e]at this;cases this
 have hmin:∀ {j:Int},Af j (Al m).domains.length=true→H2 j (nth (Al m).domains j).peers=j∨H2 j (nth (Al m).domains j).peers∈(nth (Al m).domains j).peers:=fun {j} _=>T0 _ j
 have hminp:∀ {j:Int},Af j (Al m).domains.length=true→Af (H2 j (nth (Al m).domains j).peers) (Al m).domains.length=true:=fun {j} hj=>by
  rcases hmin hj with e | e
  ·rw[e];exact hj
  ·exact(pM hj e).1
 refine h (phi (Al n) (Al m) i) hii.1 (hpe2 hi hpe) ?_
 let psi:Int→Int:=fun a=>if a<((Al m).domains.length:Int) then phi (Al n) (Al m) a else Hh (Al n) (phi (Al n) (Al m) (a-((Al m).domains.length:Int)))
 have psi1:∀ {j:Int},Af j (Al m).domains.length=true→psi j=phi (Al n) (Al m) j:=fun hj=>if_pos (place_iff.1 hj).2
 have psi2:∀ {j:Int},Af j (Al m).domains.length=true→psi (Hh (Al m) j)=Hh (Al n) (phi (Al n) (Al m) j):=fun {j} hj=>by
  have:=place_iff.1 (hminp hj)
  show (if Hh (Al m) j<_ then _ else _)=_
  rw[if_neg (by rw[Hh];omega),show Hh (Al m) j-((Al m).domains.length:Int)=H2 j (nth (Al m).domains j).peers by rw[Hh];omega]
  rcases hmin hj with e | e
  ·rw[e]
  ·exact hmz (M7 rN hN rM hM hj).1 (hphi hj e)
 have hlift:=Conn.lift (R:=fun a b=>Conn (EN (Al n) fun j=>j≠phi (Al n) (Al m) i) (psi a) (psi b)) (fun a=>.refl _) (fun _ _ h=>h.symm) (fun _ _ _ h1 h2=>h1.trans h2) (fun a b he=>by
  rcases he with he | ⟨j,h1,h2,h3,rfl,rfl⟩
  ·obtain ⟨d1,d2⟩:=Afe (netR_iff.2 hM) he
   rw[psi1 (place_iff.2 ⟨d1.1,by have:=d1.1;have:=d1.2;omega⟩),psi1 (place_iff.2 ⟨d2.1,by have:=d2.1;have:=d2.2;omega⟩)]
   exact .edge (.inl (Alx rN hN rM hM he))
  ·rw[psi1 h1,psi2 h1]
   exact .edge (.inr ⟨_,(M7 rN hN rM hM h1).1,fun e=>h2 (Aqe rN hN rM hM h1 hi e),hpe2 h1 h3,q_,q_⟩)) hc
 rw[psi1 hi,psi2 hi]at hlift
 exact hlift
theorem Afw {n m:Net} {p:List LineM} (r:Rep n p) (hr:NetR n) (s:Rep m p) (hs:NetR m) (v:Valid p) (h:(finishT n).2.2=0):finishT n=(Al n,0,0)∧finishT m=(Al m,0,0):=by
 rw[finishT]at h ⊢
 split at h
 ·rename_i h1;exact absurd h h1
 rename_i h1
 have h0:(meshNT n).2.2=0:=by omega
 rw[if_neg h1]
 split at h
 ·simp at h
 rename_i h2
 rw[if_neg h2]
 obtain ⟨e1,e2,e3,e4⟩:=Acl h0
 obtain ⟨a1,a2,a3⟩:=Alo r hr s hs v h0
 have hn:∀ f∈n.floods,agreesB n f=true:=fun f hf=>by
  have:=List.find?_eq_none.1 e4 f hf
  simpa using this
 obtain ⟨_,_,_,b4⟩:=Acl a1
 have hm:∀ f∈m.floods,agreesB m f=true:=fun f hf=>by
  have:=List.find?_eq_none.1 b4 f hf
  simpa using this
 rw[e1]at h2 ⊢
 have hf:=Ama r hr s hs v hn hm ((Aap e3).1 (by simpa using h2))
 have hl:=(Aap (netR_iff.2 a3)).2 hf
 refine⟨q_,?_⟩
 rw[finishT,if_neg j_,a2,if_neg (by rw[hl];decide)]
theorem Ah6 {l:List LineM} (h:(Ca l).2.2=0):(Ca (A6 l)).2.2=0∧(Ca (A6 l)).2.1=0∧Akj (Ca l).1 (Ca (A6 l)).1:=by
 obtain ⟨n,h1,h2⟩:=Zc l emptyN h
 obtain ⟨m,h3,v,r,s,hr,hs,hl⟩:=Ak0 h1
 have e1:Ca l=finishT n:=h2
 have e2:Ca (A6 l)=finishT m:=Xw _ _ _ h3
 rw[e1]at h
 obtain ⟨f1,f2⟩:=Afw r hr s hs v h
 rw[e1,e2,f1,f2]
 obtain ⟨g1,g2,g3,g4,g5,g6,g7,g8⟩:=hl
 have ln:(Al n).domains.length=n.domains.length:=List.length_map _
 have lm:(Al m).domains.length=m.domains.length:=List.length_map _
 exact⟨q_,q_,g1,g2,g3,by rw[ln,lm];exact g4,g5,g6,g7,g8⟩
end Go.Sy.YtdkfcckkkfghgaaGreatDoor
namespace Go.Sy.YtdkfcckkkfghgaaGreatDoor
open Go.Proofs
attribute [local irreducible] Go.Sy.G Go.Sy.DR
set_option maxRecDepth 100000
set_option maxHeartbeats 4000000
theorem Afg {x y:LineM} (h:LineW x) (e:Ek x=Ek y):LineW y:=by
 have k:∀ {β:Type} (f:LineM→β),(∀ z,f (Ek z)=f z)→f y=f x:=fun f hf=>by rw[← hf y,← e,hf]
 have e1:=k LineM.tagged fun _=>rfl
 have e2:=k LineM.imports fun _=>rfl
 have e3:=k LineM.exports fun _=>rfl
 have e4:=k LineM.addrs fun _=>rfl
 have e5:=k LineM.mac fun _=>rfl
 have e6:=k LineM.addr fun _=>rfl
 have e7:=k LineM.dev fun _=>rfl
 have e8:=k LineM.port fun _=>rfl
 have e9:=k LineM.peer fun _=>rfl
 have e10:=k LineM.far fun _=>rfl
 have e11:=k LineM.name fun _=>rfl
 obtain ⟨⟨a1,a2,a3,a4⟩,⟨b1,b2,b3⟩,c1,c2,c3,c4,c5⟩:=h
 rw[← e1]at a1
 rw[← e2]at a2
 rw[← e3]at a3
 rw[← e4]at a4 b3
 rw[← e5]at b1
 rw[← e6]at b2
 rw[← e7]at c1
 rw[← e8]at c2
 rw[← e9]at c3
 rw[← e10]at c4
 rw[← e11]at c5
 exact⟨⟨a1,a2,a3,a4⟩,⟨b1,b2,b3⟩,c1,c2,c3,c4,c5⟩
theorem Acu {l:List LineM} (h:∀ z∈l,LineW z):∀ z∈A6 l,LineW z:=fun z hz=>by
 obtain ⟨x,hx,e⟩:=Vm (Xp l) hz
 exact Afg (h x hx) e
theorem Ahi (l:List LineM):(A6 l).length=l.length:=by rw[A6,I7,D2]
theorem Zt (M:List LineM) (hM:∀ z∈M,LineOK z):Sy.Spec Tryz.prog 3 [.sl 17 Ad M] [] (Ab true) []:=cT F3 Tryz.ntmps3 fun F hF=>by
 have qw:=Amt
 by_cases c0:100<M.length
 ·have f0:decide ((M.length:Int)>100)=true:=decide_eq_true j_
  refine T ?_
  refine C qw F4 ?_
  exact D
 have f0:decide ((M.length:Int)>100)=false:=decide_eq_false j_
 have qg:=Aff M j_
 cases hg:linesGreat M with
 | true =>
  rw[hg]at qg
  refine T ?_
  refine C qw F4 ?_
  refine C qg F5 ?_
  exact D
 | false =>
 rw[hg]at qg
 have wM:∀ z∈M,LineW z:=fun z hz=>Aqs hg z hz (hM z hz)
 have q1:=Aal M wM j_
 have q0:=X1 M (fun z hz=>(wM z hz).fin) j_
 have q2:=Aal (A6 M) (Acu wM) (by rw[Ahi];omega)
 have hlaw:=Ah6 (l:=M)
 generalize Ca M=r at *
 generalize Ca (A6 M)=r2 at *
 generalize A6 M=K at *
 clear hg hM wM
 obtain ⟨n,row,e⟩:=r
 obtain ⟨m,row2,f⟩:=r2
 dsimp only at hlaw q1 q2
 refine T ?_
 refine C qw F4 ?_
 refine C qg F5 ?_
 refine C q1 F6 ?_
 by_cases e0:e=0
 ·subst e0
  obtain ⟨rfl,rfl,l1,l2,l3,l4,l5,l6,l7,l8⟩:=hlaw rfl
  have g1:((m.devices.length:Int) == (n.devices.length:Int))=true:=beq_iff_eq.2 j_
  have g2:((m.ports.length:Int) == (n.ports.length:Int))=true:=beq_iff_eq.2 j_
  have g3:((m.links.length:Int) == (n.links.length:Int))=true:=beq_iff_eq.2 j_
  have g4:((m.domains.length:Int) == (n.domains.length:Int))=true:=beq_iff_eq.2 j_
  have g5:((m.statics.length:Int) == (n.statics.length:Int))=true:=beq_iff_eq.2 j_
  have g6:((m.floods.length:Int) == (n.floods.length:Int))=true:=beq_iff_eq.2 j_
  have g7:((m.vrfs.length:Int) == (n.vrfs.length:Int))=true:=beq_iff_eq.2 j_
  have g8:((m.irbs.length:Int) == (n.irbs.length:Int))=true:=beq_iff_eq.2 j_
  refine T ?_
  refine C q0 F7 ?_
  refine C q2 F6 ?_
  refine T ?_
  exact Aw q_ (.cons .tmp .nil) (congrArg Ab g8.symm) q_
 ·have g0:(e != 0)=true:=by simpa using e0
  refine T ?_
  exact D
end Go.Sy.YtdkfcckkkfghgaaGreatDoor
