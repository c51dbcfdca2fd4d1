/-
  K37 K38 K39 K40 Z2 Sy36 Sy37 Sy38 Z3 Z4 K41 K42 K8 K9 K10 K11 K15 K16 K17 K18 K19 K20 K21 K22 K23 K12 K13 K14 K24 K43 K44 Z5 Z6: parts of a proof, joined by program.
-/
import Derived.Test.YteinjapglfkamaaGreatXA7
import Derived.Test.YteinjapglfkamaaGreatXA5
import Derived.Test.YteinjapglfkamaaGreatXA6
import Derived.Laws.LoneSync
import Derived.Test.YteinjapglfkamaaGreatXA4
import Derived.Test.YteinjapglfkamaaGreatXA3
namespace Go.Sy.YteinjapglfkamaaGreat
open Go.Proofs
attribute [local irreducible] Go.Sy.G Go.Sy.DR
set_option maxRecDepth 100000
set_option maxHeartbeats 4000000
theorem endsC1 (dst:Int) (d:Device):Sy.Spec Tryz.prog 360 [Bm d,.ref 1 (Bj dst) 0] [] (Ad (decide (d.vtep=dst))) []:=Ab Γ hm 100 F360 Tryz.ntmps360 rfl fun F hF=>by
 conv=>whnf
 refine Ac E (.cons .tmp .nil) (congrArg Ad ?_) E
 rw[Bool.eq_iff_iff]
 simp
theorem endsC2 (dev vni:Int) (d:Domain):Sy.Spec Tryz.prog 361 [At d,.ref 1 (Aa dev) 0,.ref 1 (Aa vni) 0] [] (Ad (decide (d.dev=dev) && decide (d.vni=vni))) []:=Ab Γ hm 100 F361 Tryz.ntmps361 rfl fun F hF=>by
 conv=>whnf
 refine⟨fun h=>?_,fun h=>?_⟩
 ·have h1:d.dev=dev:=by simpa using h
  refine rg ?_;conv=>whnf
  refine Ac E (.cons .tmp .nil) (congrArg Ad ?_) E
  rw[decide_eq_true h1,Bool.true_and,Bool.eq_iff_iff]
  simp
 ·have h1:¬ d.dev=dev:=by simpa using h
  refine rg ?_;conv=>whnf
  refine Ac E (.cons .tmp .nil) (congrArg Ad ?_) E
  rw[decide_eq_false h1,Bool.false_and]
theorem endsC3 (n:Net) (hb:Ae n=true) (src:Int) (k:Int) (hk:DomIn n k):Sy.Spec Tryz.prog 363 [Aa k,.ref 8 (Al n) 0,.ref 1 (Bj src) 0] [] (Ad (decide (Ir n k=src))) []:=Ab Γ hm 100 F363 Tryz.ntmps363 rfl fun F hF=>by
 have q:=Qs n hb k hk
 conv=>whnf
 refine Aq q F304 E E E qq E ?_
 refine rd qq ?_;conv=>whnf
 refine⟨qq,?_⟩
 conv=>whnf
 refine Ac E (.cons .tmp .nil) (congrArg Ad ?_) E
 rw[Bool.eq_iff_iff]
 simp
theorem endsS (n:Net) (hn:n.Fin) (hb:Ae n=true) (src dst:Nat) (vni:Int) :
  Sy.Spec Tryz.prog 309 [Al n,Bj src,Bj dst,Aa vni] [] (.tup [Aa (endsT n src dst vni).1,Aa (endsT n src dst vni).2]) []:=Ab Γ hm 100 F309 Tryz.ntmps309 rfl fun F hF=>by
 have hres:=endsT.eq_1 n src dst vni
 dsimp only at hres
 generalize endsT n src dst vni=res at *
 have q1:=S8 n.devices (fun d=>decide (d.vtep=(dst:Int))) 360 [] [.ref 1 (Bj dst) 0] rfl (fun d _=>⟨⟨_,_,F360⟩,endsC1 dst d⟩) hn.devices
 generalize Ct (fun d:Device=>decide (d.vtep=(dst:Int))) n.devices=dev at *
 have q2:=Hu n.domains (fun d=>decide (d.dev=dev) && decide (d.vni=vni)) 361 [] [.ref 1 (Aa dev) 0,.ref 1 (Aa vni) 0] rfl (fun d _=>⟨⟨_,_,F361⟩,endsC2 dev vni d⟩) hn.domains
 have hlt:=E9 (fun d:Domain=>decide (d.dev=dev) && decide (d.vni=vni)) n.domains
 generalize Ct (fun d:Domain=>decide (d.dev=dev) && decide (d.vni=vni)) n.domains=dom at *
 conv=>whnf
 refine A3 4 8 (Al n) E E E ?_
 refine A3 5 1 (Bj src) E E E ?_
 refine A3 6 1 (Bj dst) E E E ?_
 refine A3 7 1 (Aa vni) E E E ?_
 refine rg ?_;conv=>whnf
 refine Ag q1 F359 E E E E E ?_
 refine rg ?_;conv=>whnf
 refine A3 10 1 (Aa dev) E E E ?_
 refine rg ?_;conv=>whnf
 refine Ag q2 F201 E E E E E ?_
 refine rg ?_;conv=>whnf
 refine⟨fun h=>?_,fun h=>?_⟩
 ·rw[if_pos (.inl (of_decide_eq_true h))]at hres
  subst hres
  (refine rg ?_;(conv=>whnf);refine aT ?_;refine rg ?_;conv=>whnf)
  exact Ac E (.cons .tmp (.cons .tmp .nil)) E E
 have h1:=of_decide_eq_false h
 clear h
 refine rg ?_;conv=>whnf
 refine⟨fun h=>?_,fun h=>?_⟩
 ·rw[if_pos (.inr (of_decide_eq_true h))]at hres
  subst hres
  refine rg ?_;conv=>whnf
  exact Ac E (.cons .tmp (.cons .tmp .nil)) E E
 have h2:=of_decide_eq_false h
 clear h
 rw[if_neg (fun h=>h.elim h1 h2)]at hres
 have hd0:0≤dom:=by omega
 have hkd:dom.toNat<n.domains.length:=by omega
 have e2:nth n.domains dom=n.domains[dom.toNat]:=Ah hkd
 have hpe:=hn.peers _ (List.getElem_mem hkd)
 have hpin:∀ k∈(n.domains[dom.toNat]'hkd).peers,DomIn n k:=fun k hk=>Ade hb hkd hk
 obtain ⟨d,hdd⟩:∃ d,n.domains[dom.toNat]'hkd=d:=⟨_,rfl⟩
 rw[hdd]at e2 hpe hpin
 rw[e2]at hres
 have q3:=Ji d.peers (fun k=>decide (Ir n k=(src:Int))) 363 [] [.ref 8 (Al n) 0,.ref 1 (Bj src) 0] rfl (fun k hk=>⟨⟨_,_,F363⟩,endsC3 n hb src k (hpin k hk)⟩) hpe
 have hlt2:=E9 (fun k:Int=>decide (Ir n k=(src:Int))) d.peers
 generalize Ct (fun k:Int=>decide (Ir n k=(src:Int))) d.peers=i at *
 refine rg ?_;conv=>whnf
 refine⟨E,hd0,hkd,?_⟩
 rw[hdd]
 conv=>whnf
 refine Ag q3 F362 E E E E E ?_
 refine rg ?_;conv=>whnf
 refine⟨fun h=>?_,fun h=>?_⟩
 ·rw[if_pos (of_decide_eq_true h)]at hres
  subst hres
  refine rg ?_;conv=>whnf
  exact Ac E (.cons .tmp (.cons .tmp .nil)) E E
 have h3:=of_decide_eq_false h
 clear h
 rw[if_neg h3]at hres
 have hki:i.toNat<d.peers.length:=by omega
 rw[Ah hki]at hres
 subst hres
 refine rg ?_;conv=>whnf
 refine⟨E,by omega,hki,?_⟩
 conv=>whnf
 exact Ac E (.cons .tmp (.cons .tmp .nil)) E E
theorem Agd (n:Net) (hn:n.Fin) (b:List UInt8) (hb:b.length<100000) :
  Sy.Spec Tryz.prog 242 [Al n,.sl 1 Ao b] [] (.tup [Aa (comeT n b).1,Aa (comeT n b).2.1,B9 (comeT n b).2.2.1,Aa (comeT n b).2.2.2]) []:=Ab Γ hm 100 F242 Tryz.ntmps242 rfl fun F hF=>by
 have hres:=comeT.eq_1 n b
 generalize comeT n b=res at *
 have hr:=Be n hn
 conv=>whnf
 refine A3 2 8 (Al n) E E E ?_
 refine rg ?_;conv=>whnf
 refine Ag hr F23 E E E E E ?_
 cases hbn:Ae n
 ·rw[if_pos hbn]at hres
  subst hres
  (refine rg ?_;(conv=>whnf);refine aT ?_;refine rg ?_;conv=>whnf)
  refine Bc 6 zF E (.cons (.refl _) (.cons (.refl _) (.cons (.refl _) (.cons .nil .nil)))) ?_
  exact Ac E (.cons .tmp (.cons .tmp (.cons (.cell E E E E) (.cons .tmp .nil)))) E E
 rw[if_neg (by rw[hbn];decide)]at hres
 have q1:=Aik b hb
 have huo:=Wl b
 generalize Bv b=u at *
 obtain ⟨src,dst,vni,f,e⟩:=u
 dsimp only at hres q1 huo
 have hsrc:=huo.2.2.2.src
 (refine rg ?_;(conv=>whnf);refine aF ?_;refine rg ?_;conv=>whnf)
 refine Ag q1 F308 E E E E E ?_
 refine rg ?_;conv=>whnf
 refine⟨fun h=>?_,fun h=>?_⟩
 ·rw[if_pos (by simpa using h)]at hres
  subst hres
  refine rg ?_;conv=>whnf
  refine Bc 6 zF E (.cons (.refl _) (.cons (.refl _) (.cons (.refl _) (.cons .nil .nil)))) ?_
  exact Ac E (.cons .tmp (.cons .tmp (.cons (.cell E E E E) (.cons .tmp .nil)))) E E
 rw[if_neg (by simpa using h)]at hres
 clear h
 have q2:=endsS n hn hbn src dst vni
 generalize endsT n src dst vni=en at *
 obtain ⟨fr,dom⟩:=en
 dsimp only at hres q2
 refine rg ?_;conv=>whnf
 refine Ag q2 F309 E E E E E ?_
 refine rg ?_;conv=>whnf
 refine⟨fun h=>?_,fun h=>?_⟩
 ·rw[if_pos (of_decide_eq_true h)]at hres
  subst hres
  refine rg ?_;conv=>whnf
  refine Bc 6 zF E (.cons (.refl _) (.cons (.refl _) (.cons (.refl _) (.cons .nil .nil)))) ?_
  exact Ac E (.cons .tmp (.cons .tmp (.cons (.cell E E E E) (.cons .tmp .nil)))) E E
 rw[if_neg (of_decide_eq_false h)]at hres
 clear h
 have qg:=Kn f.src qn
 refine rg ?_;conv=>whnf
 refine Ag qg F226 E E E E E ?_
 cases hg:H7 f.src
 rotate_left
 ·rw[if_pos hg]at hres
  subst hres
  (refine rg ?_;(conv=>whnf);refine aT ?_;refine rg ?_;conv=>whnf)
  refine Bc 6 zF E (.cons (.refl _) (.cons (.refl _) (.cons (.refl _) (.cons .nil .nil)))) ?_
  exact Ac E (.cons .tmp (.cons .tmp (.cons (.cell E E E E) (.cons .tmp .nil)))) E E
 rw[if_neg (by rw[hg];decide)]at hres
 subst hres
 (refine rg ?_;(conv=>whnf);refine aF ?_;refine rg ?_;conv=>whnf)
 refine⟨qq,?_⟩
 conv=>whnf
 exact Ac E (.cons .tmp (.cons .tmp (.cons (.cell E E E E) (.cons .tmp .nil)))) E E
theorem Ao7 {n:Net} (hb:Ae n=true) {d:Int} (hd:DomIn n d) (hi:0≤(n.domains[d.toNat]'hd.2).irb) :
  ∃ h:(n.domains[d.toNat]'hd.2).irb.toNat<n.irbs.length,(n.irbs[(n.domains[d.toNat]'hd.2).irb.toNat]'h).domain=d:=by
 simp only[Ae,Bool.and_eq_true]at hb
 have:=allB_iff.1 hb.1.1.1.1.1.1.1.2 _ hd.2
 simp only[Hy,Bool.and_eq_true,Bool.or_eq_true,beq_iff_eq]at this
 have h2:=this.1.2
 rcases h2 with h2 | ⟨h2,h3⟩
 ·omega
 ·have h4:=B3 h2
  have h5:(n.domains[d.toNat]'hd.2).irb.toNat<n.irbs.length:=by omega
  rw[Ah h5]at h3
  have:=hd.1
  exact⟨h5,by omega⟩
theorem Ab5 (n:Net) (hn:n.Fin) (hm0:n.Num) (dom:Int) (m:Nat) :
  Sy.Spec Tryz.prog 232 [Al n,Aa dom,Bf m] [] (.tup [Aa (routerT n dom m).1,Ad (routerT n dom m).2]) []:=Ab Γ hm 100 F232 Tryz.ntmps232 rfl fun F hF=>by
 have hres:=routerT.eq_1 n dom m
 generalize routerT n dom m=res at *
 have hr:=Be n hn
 conv=>whnf
 refine⟨fun h=>?_,fun h=>?_⟩
 ·have hp:Aj dom n.domains.length=false:=by
   cases hx:Aj dom n.domains.length
   ·rfl
   ·have:=B3 hx;have:=of_decide_eq_true h;omega
  rw[if_pos (.inl hp)]at hres
  subst hres
  (refine rg ?_;(conv=>whnf);refine aT ?_;refine rg ?_;(conv=>whnf);refine aT ?_;refine rg ?_;conv=>whnf)
  exact Ac E (.cons .tmp (.cons .tmp .nil)) E E
 have h0:0≤dom:=by have:=of_decide_eq_false h;omega
 clear h
 refine rg ?_;conv=>whnf
 refine⟨fun h=>?_,fun h=>?_⟩
 ·have hp:Aj dom n.domains.length=false:=by
   cases hx:Aj dom n.domains.length
   ·rfl
   ·have:=B3 hx;have:=of_decide_eq_true h;omega
  rw[if_pos (.inl hp)]at hres
  subst hres
  (refine rg ?_;(conv=>whnf);refine aT ?_;refine rg ?_;conv=>whnf)
  exact Ac E (.cons .tmp (.cons .tmp .nil)) E E
 have h1:dom<n.domains.length:=by have:=of_decide_eq_false h;omega
 clear h
 have hpl:Aj dom n.domains.length=true:=Cd ⟨h0,h1⟩
 refine rg ?_;conv=>whnf
 refine Ag hr F23 E E E E E ?_
 cases hbn:Ae n
 ·rw[if_pos (.inr hbn)]at hres
  subst hres
  (refine rg ?_;(conv=>whnf);refine aT ?_;refine rg ?_;conv=>whnf)
  exact Ac E (.cons .tmp (.cons .tmp .nil)) E E
 rw[if_neg (by simp[hbn,hpl])]at hres
 have hd:=Jd hpl
 have e2:nth n.domains dom=n.domains[dom.toNat]'hd.2:=Ah hd.2
 have hir:=Ao7 hbn hd
 obtain ⟨d,hdd⟩:∃ d,n.domains[dom.toNat]'hd.2=d:=⟨_,rfl⟩
 simp only[hdd]at e2 hir
 rw[e2]at hres
 (refine rg ?_;(conv=>whnf);refine aF ?_;refine rg ?_;conv=>whnf)
 refine⟨E,hd.1,hd.2,?_⟩
 rw[hdd]
 conv=>whnf
 refine⟨fun h=>?_,fun h=>?_⟩
 ·rw[if_pos (.inl (of_decide_eq_true h))]at hres
  subst hres
  (refine rg ?_;(conv=>whnf);refine aT ?_;refine rg ?_;conv=>whnf)
  exact Ac E (.cons .tmp (.cons .tmp .nil)) E E
 have hi0:0≤d.irb:=by have:=of_decide_eq_false h;omega
 clear h
 obtain ⟨hi1,hi2⟩:=hir hi0
 have ha:=hm0.addr _ (List.getElem_mem hi1)
 rw[Ah hi1]at hres
 obtain ⟨x,hx⟩:∃ x,n.irbs[d.irb.toNat]'hi1=x:=⟨_,rfl⟩
 rw[hx]at ha hres
 obtain ⟨a,hae⟩:=Int.eq_ofNat_of_zero_le ha.1
 have qh:=Zu a qn
 rw[← hae]at qh
 refine rg ?_;conv=>whnf
 refine⟨E,hi0,hi1,?_⟩
 rw[hx]
 conv=>whnf
 refine Ag qh F44 E E E E E ?_
 refine rg ?_;conv=>whnf
 refine⟨fun h=>?_,fun h=>?_⟩
 ·have hne:Ii x.addr≠m:=fun e=>by
   rw[e]at h
   simp at h
  rw[if_pos (.inr hne)]at hres
  subst hres
  refine rg ?_;conv=>whnf
  exact Ac E (.cons .tmp (.cons .tmp .nil)) E E
 ·have heq:Ii x.addr=m:=by
   have:(Ii x.addr:Int)=(m:Int):=by simpa using h
   omega
  rw[if_neg (fun h=>h.elim qn (fun h2=>h2 heq))]at hres
  subst hres
  refine rg ?_;conv=>whnf
  exact Ac E (.cons .tmp (.cons .tmp .nil)) E E
theorem Yr {n:Net} {i:Int} (h:Aj i n.irbs.length=true):InIrbs n i:=by
 have:=B3 h
 exact⟨this.1,by omega⟩
theorem Aoz {p:PacketM} (h:PacketOK p):PacketOK (Agl p):=⟨h.tos,h.id,by have:=h.ttl;show p.ttl-1≤255;omega,h.proto,h.src,h.dst⟩
theorem Agh (p:PacketM):ipPutT (Agl p)=if 1480<p.body.length then ([],14) else (Vu (Agl p),0):=rfl
theorem Ai6 (n:Net) (hn:n.Fin) (hm0:n.Num) (irb:Int) (f:FrameM) (hf:FrameOK f) :
  Sy.Spec Tryz.prog 233 [Al n,Aa irb,B9 f] [] (.tup [Aa (hopT n irb f).1,B9 (hopT n irb f).2.1,Aa (hopT n irb f).2.2]) []:=Ab Γ hm 100 F233 Tryz.ntmps233 rfl fun F hF=>by
 have hres:=hopT.eq_1 n irb f
 generalize hopT n irb f=res at *
 have hr:=Be n hn
 have hb:=hf.body
 conv=>whnf
 refine⟨fun h=>?_,fun h=>?_⟩
 ·have hp:Aj irb n.irbs.length=false:=by
   cases hx:Aj irb n.irbs.length
   ·rfl
   ·have:=B3 hx;have:=of_decide_eq_true h;omega
  rw[if_pos (.inl hp)]at hres
  subst hres
  (refine rg ?_;(conv=>whnf);refine aT ?_;refine rg ?_;(conv=>whnf);refine aT ?_;refine rg ?_;conv=>whnf)
  refine Bc 7 zF E (.cons (.refl _) (.cons (.refl _) (.cons (.refl _) (.cons .nil .nil)))) ?_
  exact Ac E (.cons .tmp (.cons (.cell E E E E) (.cons .tmp .nil))) E E
 have h0:0≤irb:=by have:=of_decide_eq_false h;omega
 clear h
 refine rg ?_;conv=>whnf
 refine⟨fun h=>?_,fun h=>?_⟩
 ·have hp:Aj irb n.irbs.length=false:=by
   cases hx:Aj irb n.irbs.length
   ·rfl
   ·have:=B3 hx;have:=of_decide_eq_true h;omega
  rw[if_pos (.inl hp)]at hres
  subst hres
  (refine rg ?_;(conv=>whnf);refine aT ?_;refine rg ?_;conv=>whnf)
  refine Bc 7 zF E (.cons (.refl _) (.cons (.refl _) (.cons (.refl _) (.cons .nil .nil)))) ?_
  exact Ac E (.cons .tmp (.cons (.cell E E E E) (.cons .tmp .nil))) E E
 have h1:irb<n.irbs.length:=by have:=of_decide_eq_false h;omega
 clear h
 have hpl:Aj irb n.irbs.length=true:=Cd ⟨h0,h1⟩
 refine rg ?_;conv=>whnf
 refine Ag hr F23 E E E E E ?_
 cases hbn:Ae n
 ·rw[if_pos (.inr hbn)]at hres
  subst hres
  (refine rg ?_;(conv=>whnf);refine aT ?_;refine rg ?_;conv=>whnf)
  refine Bc 7 zF E (.cons (.refl _) (.cons (.refl _) (.cons (.refl _) (.cons .nil .nil)))) ?_
  exact Ac E (.cons .tmp (.cons (.cell E E E E) (.cons .tmp .nil))) E E
 rw[if_neg (by simp[hbn,hpl])]at hres
 refine A3 3 8 (Al n) E E E ?_
 refine A3 5 4 (B9 f) E E E ?_
 (refine rg ?_;(conv=>whnf);refine aF ?_;refine rg ?_;conv=>whnf)
 refine⟨fun h=>?_,fun h=>?_⟩
 ·rw[if_pos (by have:¬ (f.typ:Int)=2048:=(by simpa using h);omega)]at hres
  subst hres
  refine rg ?_;conv=>whnf
  refine Bc 7 zF E (.cons (.refl _) (.cons (.refl _) (.cons (.refl _) (.cons .nil .nil)))) ?_
  exact Ac E (.cons .tmp (.cons (.cell E E E E) (.cons .tmp .nil))) E E
 rw[if_neg (by have:(f.typ:Int)=2048:=(by simpa using h);omega)]at hres
 clear h
 have q1:=Ah2 f.body qn
 have hok:=@Xo f.body
 generalize ipTakeT f.body=tk at *
 obtain ⟨p,e⟩:=tk
 dsimp only at hres q1 hok
 refine rg ?_;conv=>whnf
 refine Ag q1 F297 E E E E E ?_
 refine rg ?_;conv=>whnf
 by_cases he:e=0
 rotate_left
 ·rw[if_pos he]at hres
  subst hres
  refine⟨fun h=>absurd (show e=0 by simpa using h) he,fun _=>?_⟩
  refine rg ?_;conv=>whnf
  refine⟨fun _=>?_,fun h=>absurd (show e=0 by simpa using h) he⟩
  refine rg ?_;conv=>whnf
  refine Bc 7 zF E (.cons (.refl _) (.cons (.refl _) (.cons (.refl _) (.cons .nil .nil)))) ?_
  exact Ac E (.cons .tmp (.cons (.cell E E E E) (.cons .tmp .nil))) E E
 subst he
 rw[if_neg qy]at hres
 obtain ⟨hpo,hpb⟩:=hok rfl
 have hpt:=hpo.ttl
 have hpd:=hpo.dst
 have q2:=ipHopS p qn hpt
 (refine⟨fun _=>?_,fun h=>False.elim (absurd h qx)⟩;refine rg ?_;conv=>whnf)
 by_cases ht:p.ttl≤1
 ·rw[if_pos ht]at hres
  subst hres
  rw[hop1,if_pos ht]at q2
  refine Ag q2 F298 E E E E E ?_
  (refine rg ?_;(conv=>whnf);refine aT ?_;refine rg ?_;conv=>whnf)
  refine Bc 7 zF E (.cons (.refl _) (.cons (.refl _) (.cons (.refl _) (.cons .nil .nil)))) ?_
  exact Ac E (.cons .tmp (.cons (.cell E E E E) (.cons .tmp .nil))) E E
 rw[if_neg ht]at hres
 rw[hop1,if_neg ht]at q2
 refine Ag q2 F298 E E E E E ?_
 have q3:=Ah0 n hn hbn irb p.dst (Yr hpl)
 have hth:=fun h=>@Mj n irb p.dst h
 generalize lookT n irb p.dst=lk at *
 obtain ⟨to,ok⟩:=lk
 dsimp only at hres q3 hth
 (refine rg ?_;(conv=>whnf);refine aF ?_;refine rg ?_;conv=>whnf)
 refine Ag q3 F271 E E E E E ?_
 cases ok
 ·rw[if_pos rfl]at hres
  subst hres
  (refine rg ?_;(conv=>whnf);refine aT ?_;refine rg ?_;conv=>whnf)
  refine Bc 7 zF E (.cons (.refl _) (.cons (.refl _) (.cons (.refl _) (.cons .nil .nil)))) ?_
  exact Ac E (.cons .tmp (.cons (.cell E E E E) (.cons .tmp .nil))) E E
 rw[if_neg qx]at hres
 have hto:=hth rfl
 have hpp:=Agh p
 have q4:=Aa9 (Agl p) (Aoz hpo) (by show p.body.length<100000;omega)
 rw[hpp]at q4
 clear hpp
 by_cases hl:1480<p.body.length
 ·rw[if_pos hl]at hres q4
  subst hres
  (refine rg ?_;(conv=>whnf);refine aF ?_;refine rg ?_;conv=>whnf)
  refine Ag q4 F43 E E E E E ?_
  (refine rg ?_;(conv=>whnf);refine aT ?_;refine rg ?_;conv=>whnf)
  refine Bc 7 zF E (.cons (.refl _) (.cons (.refl _) (.cons (.refl _) (.cons .nil .nil)))) ?_
  exact Ac E (.cons .tmp (.cons (.cell E E E E) (.cons .tmp .nil))) E E
 rw[if_neg hl]at hres q4
 have ha:=hm0.addr _ (List.getElem_mem hto.2)
 rw[Ah hto.2]at hres
 obtain ⟨x,hx⟩:∃ x,n.irbs[to.toNat]'hto.2=x:=⟨_,rfl⟩
 rw[hx]at ha hres
 obtain ⟨a,hae⟩:=Int.eq_ofNat_of_zero_le ha.1
 have qh:=Zu a qn
 rw[← hae]at qh
 have qd:=Zu p.dst hpd
 subst hres
 (refine rg ?_;(conv=>whnf);refine aF ?_;refine rg ?_;conv=>whnf)
 refine Ag q4 F43 E E E E E ?_
 (refine rg ?_;(conv=>whnf);refine aF ?_;refine rg ?_;conv=>whnf)
 refine⟨E,hto.1,hto.2,?_⟩
 rw[hx]
 conv=>whnf
 refine Aq qd F44 E E E qq E ?_
 refine rd qq ?_;conv=>whnf
 refine⟨E,hto.1,hto.2,?_⟩
 rw[hx]
 conv=>whnf
 refine Aq qh F44 E E E qq E ?_
 refine rd qq ?_;conv=>whnf
 refine⟨qq,?_⟩
 conv=>whnf
 exact Ac E (.cons .tmp (.cons (.cell E E E E) (.cons .tmp .nil))) E E
end Go.Sy.YteinjapglfkamaaGreat
namespace Go.Sy.YteinjapglfkamaaGreat
open Go.Proofs
structure TabOK (t:List EntryM):Prop where
 short:An t
 mac:∀ e∈t,e.mac<18446744073709551616
 wh:∀ e∈t,I64 e.where_
structure QueuedOK (q:QueuedM):Prop where
 frame:FrameOK q.frame
 from_:-2≤q.from_∧q.from_<1099511627776
 peer:0≤q.peer∧q.peer<1099511627776
def Hb (l:List QueuedM):Prop:=l.length≤64∧∀ q∈l,QueuedOK q
structure MacOK (n:Net) (m:MacM) (J D:Int):Prop where
 up:m.up.length=n.links.length
 tabs:m.tables.length=n.domains.length
 ques:m.queues.length=n.domains.length
 tab:∀ t∈m.tables,TabOK t
 que:∀ l∈m.queues,Hb l
 now:0≤m.now∧m.now≤1099511627776
 inj:0≤m.injected∧m.injected≤J
 drp:∀ i,0≤m.drops i∧m.drops i≤D
theorem Hf {f:FrameM} (hf:FrameOK f) {a b:Int} (c:Int) (h1:-2≤a∧a<1099511627776) (h2:0≤b∧b<1099511627776):QueuedOK ⟨a,b,c,f⟩:=⟨hf,h1,h2⟩
theorem Amc:QueuedOK noQ:=⟨C4,by decide,by decide⟩
theorem Ui:TabOK []:=⟨by unfold An;decide,fun _ h=>(by cases h),fun _ h=>(by cases h)⟩
theorem U8:Hb []:=⟨by decide,fun _ h=>(by cases h)⟩
theorem Aa4 {α:Type} {l:List α} {i:Nat} {x y:α} (h:y∈l.set i x):y=x∨y∈l:=by
 rcases List.mem_or_eq_of_mem_set h with h | h
 ·exact .inr h
 ·exact .inl h
theorem Xx {α:Type} {l:List α} {i:Nat} {d:α} (h:i<l.length):(l[i]?).getD d∈l:=by
 rw[List.getElem?_eq_getElem h]
 exact List.getElem_mem h
theorem Eo {n:Net} {m:MacM} {J D:Int} (h:MacOK n m J D) (dom:Int):Hb (queueL m dom):=by
 unfold queueL
 by_cases hd:dom.toNat<m.queues.length
 ·exact h.que _ (Xx hd)
 ·rw[List.getElem?_eq_none qn];exact U8
theorem T8 {n:Net} {m:MacM} {J D:Int} (h:MacOK n m J D) (dom:Int):TabOK (tableL m dom):=by
 unfold tableL
 by_cases hd:dom.toNat<m.tables.length
 ·exact h.tab _ (Xx hd)
 ·rw[List.getElem?_eq_none qn];exact Ui
theorem MacOK.mono {n:Net} {m:MacM} {J D J' D':Int} (h:MacOK n m J D) (h1:J≤J') (h2:D≤D'):MacOK n m J' D' :=
 ⟨h.up,h.tabs,h.ques,h.tab,h.que,h.now,⟨h.inj.1,by have:=h.inj.2;omega⟩,fun i=>⟨(h.drp i).1,by have:=(h.drp i).2;omega⟩⟩
theorem Mw {n:Net} {m:MacM} {J D:Int} (h:MacOK n m J D) (hD:0≤D) (e:Int):MacOK n (Ca m e) J (D+1):=by
 refine⟨h.up,h.tabs,h.ques,h.tab,h.que,h.now,h.inj,fun i=>?_⟩
 have:=h.drp i
 show 0≤(if i=e.toNat then m.drops i+1 else m.drops i)∧(if i=e.toNat then m.drops i+1 else m.drops i)≤D+1
 split<;>omega
theorem Ahp {n:Net} {m:MacM} {J D:Int} (h:MacOK n m J D) (dom:Int) {l:List QueuedM} (hl:Hb l):MacOK n (Aiz m dom l) J D:=by
 refine⟨h.up,h.tabs,by rw[Aiz];simp[h.ques],h.tab,fun x hx=>?_,h.now,h.inj,h.drp⟩
 rcases Aa4 hx with rfl | hx
 ·exact hl
 ·exact h.que x hx
theorem Aho {n:Net} {m:MacM} {J D:Int} (h:MacOK n m J D) (dom:Int) {l:List EntryM} (hl:TabOK l):MacOK n (Et m dom l) J D:=by
 refine⟨h.up,by rw[Et];simp[h.tabs],h.ques,fun x hx=>?_,h.que,h.now,h.inj,h.drp⟩
 rcases Aa4 hx with rfl | hx
 ·exact hl
 ·exact h.tab x hx
theorem Al0 {l:List QueuedM} (hl:Hb l) {q:QueuedM} (hq:QueuedOK q):Hb (pushT l q).1:=by
 unfold pushT
 split
 ·exact hl
 ·refine⟨by simp;omega,fun x hx=>?_⟩
  rcases List.mem_append.1 hx with hx | hx
  ·exact hl.2 x hx
  ·rw[List.mem_singleton.1 hx];exact hq
theorem Alb {l:List QueuedM} (hl:Hb l) (at_:Int):QueuedOK (takeT l at_).1∧Hb (takeT l at_).2.1:=by
 unfold takeT
 split
 ·exact⟨Amc,hl⟩
 ·rename_i h
  refine⟨hl.2 _ (Xx qn),?_,fun x hx=>hl.2 x (List.mem_of_mem_eraseIdx hx)⟩
  have:=List.length_eraseIdx_le l at_.toNat
  have:=hl.1
  show (l.eraseIdx at_.toNat).length≤64
  omega
theorem Tq {n:Net} {m:MacM} {J D:Int} (h:MacOK n m J D) (hD:0≤D) (dom:Int) {q:QueuedM} (hq:QueuedOK q) (e:Int):MacOK n (comeM m dom q e) J (D+1):=by
 unfold comeM
 split
 ·exact Mw h hD e
 split
 ·exact(Ahp h dom (Al0 (Eo h dom) hq)).mono (Int.le_refl _) qn
 ·exact Mw h hD 3
theorem Wm {n:Net} {m:MacM} {J D:Int} (h:MacOK n m J D) (dom at_:Int):MacOK n (takeM m dom at_).1 J D∧QueuedOK (takeM m dom at_).2.1:=by
 unfold takeM
 split
 ·exact⟨h,Amc⟩
 ·have:=Alb (Eo h dom) at_
  exact⟨Ahp h dom this.2,this.1⟩
theorem Agk {n:Net} (hn:n.Fin) {m:MacM} {J D:Int} (h:MacOK n m J D) (hJ:0≤J) (hD:0≤D) (port:Int) (b:List UInt8):MacOK n (injectT n m port b) (J+1) (D+1):=by
 unfold injectT
 split
 ·exact h.mono qn qn
 ·rename_i hc
  have hp:Aj port n.ports.length=true:=by cases hx:Aj port n.ports.length;exact absurd (.inl hx) hc;rfl
  have hpi:=B3 hp
  have hs:=hn.ports
  unfold An at hs
  have h1:=h.inj
  have hm:MacOK n ⟨m.up,m.tables,m.queues,m.now,m.injected+1,m.drops⟩ (J+1) D:=⟨h.up,h.tabs,h.ques,h.tab,h.que,h.now,(by show 0≤m.injected+1∧m.injected+1≤J+1;omega),h.drp⟩
  exact Tq hm hD _ (Hf (Uu _ _ _) _ qn qn) _
structure OutOK (n:Net) (o:OutM):Prop where
 kind:1≤o.kind∧o.kind≤5
 bytes:o.bytes.length≤1518
 frame:o.kind=4→FrameOK o.frame∧DomIn n o.domain
 err:o.kind=5→Bp o.error
theorem Ajo {n:Net} (hn:n.Fin) (port:Int):-1≤Cn n port∧Cn n port<2147483648:=by
 unfold Cn
 split
 ·rename_i h
  obtain ⟨⟨h1,h2⟩,h3,hb⟩:=h
  have hk:port.toNat<n.ports.length:=by omega
  rw[Ah hk]at h3 ⊢
  have hl:=(Hl hb hk h3).1
  rw[Ah hl]
  simp only[Ae,Bool.and_eq_true]at hb
  have hlb:=allB_iff.1 hb.1.1.1.1.2 _ hl
  simp only[Jh,Bool.and_eq_true]at hlb
  have ha:=B3 hlb.1.1.1.1
  have hb2:=B3 hlb.1.1.1.2
  have hs:=hn.ports
  unfold An at hs
  split<;>omega
 ·omega
theorem Adu {n:Net} (hn:n.Fin) (port:Int) (b:List UInt8):0≤(linkT n port b).1∧(linkT n port b).1<1099511627776:=by
 have:=Ajo hn port
 unfold linkT
 split<;>dsimp only<;>omega
theorem Yc {n:Net} (hn:n.Fin) (b:List UInt8):0≤(comeT n b).1∧(comeT n b).1<1099511627776:=by
 by_cases h:(comeT n b).2.2.2=0
 ·have:=(Z8 h).1
  have hs:=hn.domains
  unfold An at hs
  unfold DomIn at this
  omega
 ·unfold comeT at h ⊢
  split
  ·decide
  rename_i h1
  rw[if_neg h1]at h
  split
  ·exact⟨Int.le_refl _,by dsimp only;omega⟩
  rename_i h1
  rw[if_neg h1]at h
  split
  ·decide
  rename_i h1
  rw[if_neg h1]at h
  split
  ·decide
  rename_i h1
  rw[if_neg h1]at h
  exact absurd E h
theorem Am3 {n:Net} (hn:n.Fin) {m:MacM} {J D:Int} (h:MacOK n m J D) (hD:0≤D) {o:OutM} (ho:OutOK n o) (origin:Int):MacOK n (goesM n m o origin).1 J (D+1):=by
 unfold goesM
 split
 ·exact h.mono (Int.le_refl _) qn
 split
 ·have:=Adu hn o.port o.bytes
  exact Tq h hD _ (Hf (Adv _ _ _) _ qn qn) _
 split
 ·exact Tq h hD _ (Hf (Aen _ _) _ qn (Yc hn o.bytes)) _
 split
 ·rename_i h4
  exact Tq h hD o.domain (Hf (a:=-2) (b:=0) (ho.frame h4).1 origin qx qx) 0
 ·exact Mw h hD _
theorem Mt {n:Net} (hn:n.Fin) (origin:Int):∀ (l:List OutM) {m:MacM} {J D:Int},MacOK n m J D→0≤D→(∀ o∈l,OutOK n o)→MacOK n (Bt n m origin l).1 J (D+l.length)
 | [],m,J,D,h,_,_=>by
  rw[Bt]
  exact h.mono (Int.le_refl _) qy
 | o::l,m,J,D,h,hD,ho=>by
  rw[Bt]
  have:=Mt hn origin l (Am3 hn h hD (ho o qy) origin) qn (fun x hx=>ho x (by simp[hx]))
  exact this.mono (Int.le_refl _) (by simp only[List.length_cons];omega)
theorem Adr {n:Net} {o:OutM} {r:List UInt8 × Int} (hk:1≤o.kind∧o.kind≤3) (hr:r.1.length≤1518) (he:Bp r.2):OutOK n (S2 o r):=by
 unfold S2
 split
 ·exact⟨⟨by dsimp only;omega,by dsimp only;omega⟩,by simp,fun h=>absurd h (by dsimp only;omega),fun _=>he⟩
 ·exact⟨⟨hk.1,by have:=hk.2;dsimp only;omega⟩,hr,fun h=>by have:=hk.2;dsimp only at h;omega,fun h=>by have:=hk.2;dsimp only at h;omega⟩
theorem Aj0 {t:List EntryM} (h:TabOK t) {m:Nat} (hm:m<18446744073709551616) {wh:Int} (hw:I64 wh) (now:Int):TabOK (learnT t m wh now):=by
 have hs:=h.short
 unfold An at hs
 have key:∀ e:EntryM,e∈learnT t m wh now→e∈t∨e=⟨m,wh,now⟩:=fun e he=>by
  unfold learnT at he
  split at he
  ·exact .inl he
  split at he
  ·rcases Aa4 he with h | h
   ·exact .inr h
   ·exact .inl h
  ·rcases List.mem_append.1 he with h | h
   ·split at h
    ·exact .inl (List.mem_of_mem_eraseIdx h)
    ·exact .inl h
   ·exact .inr (List.mem_singleton.1 h)
 refine⟨?_,fun e he=>?_,fun e he=>?_⟩
 ·unfold learnT
  split
  ·exact h.short
  rename_i hb
  have h8:t.length≤8:=by
   have:tableB t=true:=by cases hx:tableB t;exact absurd (.inl hx) hb;rfl
   simp only[tableB,Bool.and_eq_true,decide_eq_true_eq]at this
   exact this.1
  split
  ·unfold An;simp;omega
  ·unfold An
   split
   ·have:=List.length_eraseIdx_le t (oldestU t t.length)
    simp only[List.length_append,List.length_cons,List.length_nil]
    omega
   ·simp only[List.length_append,List.length_cons,List.length_nil]
    omega
 ·rcases key e he with h1 | rfl
  ·exact h.mac e h1
  ·exact hm
 ·rcases key e he with h1 | rfl
  ·exact h.wh e h1
  ·exact hw
theorem Oh {t:List EntryM} (h:TabOK t) {q:QueuedM} (hq:QueuedOK q) (now:Int):TabOK (learnQ t q now):=by
 unfold learnQ
 split
 ·exact h
 ·have hs:=hq.frame.src
  refine Aj0 h qn ?_ now
  have h1:=hq.from_
  have h2:=hq.peer
  unfold I64
  split<;>omega
theorem Apg {t:List EntryM} (h:TabOK t) (now:Int):TabOK (ageT t now):=by
 unfold ageT
 split
 ·exact h
 ·have hs:=h.short
  unfold An at hs
  refine⟨?_,fun e he=>h.mac e (List.mem_filter.1 he).1,fun e he=>h.wh e (List.mem_filter.1 he).1⟩
  unfold An
  exact Nat.lt_of_le_of_lt (List.length_filter_le _ _) hs
theorem Adm (n:Net) (dom:Int):(A4 n dom).length≤n.ports.length:=by
 rw[A4]
 have:=D1 (It n (nth n.domains dom)) n.ports.length
 exact this
end Go.Sy.YteinjapglfkamaaGreat
namespace Go.Sy
theorem VwL.get {s:SS} {V:List Nat}:∀ {l m:List SV} (_:VwL s V l m) {i:Nat} {y:SV},Ee m i=some y→∃ x,Ee l i=some x∧Vw s V x y
 | _,_,.nil,i,y,h=>by cases i<;>simp[Ee]at h
 | _,_,.cons (x:=x) h0 hs,0,y,h=>by
  simp only[Ee,Option.some.injEq]at h
  subst h
  exact⟨x,E,h0⟩
 | _,_,.cons h0 hs,i+1,y,h=>VwL.get hs (i:=i) h
theorem VwL.len {s:SS} {V:List Nat}:∀ {l m:List SV} (_:VwL s V l m),m.length=l.length
 | _,_,.nil=>rfl
 | _,_,.cons _ hs=>by simp[VwL.len hs]
theorem Z6:∀ {l:List SV} {i:Nat} {x:SV},Kv l=true→Ee l i=some x→x.data=true
 | [],i,x,_,h=>by cases i<;>simp[Ee]at h
 | y::l,0,x,hd,h=>by
  simp only[Ee,Option.some.injEq]at h
  subst h
  simp only[Kv,Bool.and_eq_true]at hd
  exact hd.1
 | y::l,i+1,x,hd,h=>by
  simp only[Kv,Bool.and_eq_true]at hd
  exact Z6 hd.2 (i:=i) h
theorem Ab0 {C:Cx} {k:List KI} {s:SS} (d:Nat) {sz:Nat} {svs:List SV} (svs':List SV) (h:s.h d=.lit sz svs) (hv:VwL s [] svs svs') (hd:Kv svs'=true) (hg:G C k ⟨s.σ,upd s.h d (.lit sz svs')⟩):G C k s:=fun κ a w hs=>by
 refine hg κ a w ⟨hs.defers,hs.size,hs.inv,hs.ctx,hs.slot,fun j=>?_⟩
 show ObOK κ w j (upd s.h d (.lit sz svs') j)
 by_cases hj:j=d
 ·subst hj
  rw[Bi]
  have hob:=hs.obj j
  rw[h]at hob
  have hlen:=hv.len
  obtain ⟨b,cap,cs,T,fr,e1,e2,e3,e4,e5,e6⟩:=hob
  refine⟨b,cap,cs,T,fr,by rw[hlen];exact e1,e2,e3,e4,by omega,fun i x hx=>?_⟩
  obtain ⟨y,hy,hvw⟩:=hv.get hx
  obtain ⟨f1,u,f2,f3⟩:=e6 i y hy
  exact⟨by omega,u,Rd.data _ _ (Z6 hd hx) (hvw.rd hs.inv (fun n hn=>by cases hn) f2.toRd),f3⟩
 ·rw[B0 _ _ hj];exact hs.obj j
theorem RdL.setI {κ:Ka} {w:World} {x:SV} {v:Value} (hx:Rd κ w x v):∀ {l:List SV} {cs:List Value} (i:Nat),RdL κ w l cs→RdL κ w (l.set i x) (cs.set i v)
 | [],cs,i,h=>by simp only[RdL]at h;subst h;simp[RdL]
 | y::l,cs,0,h=>by
  simp only[RdL]at h
  obtain ⟨u,r,rfl,h1,h2⟩:=h
  simp only[List.set_cons_zero,RdL]
  exact⟨v,r,E,hx,h2⟩
 | y::l,cs,i+1,h=>by
  simp only[RdL]at h
  obtain ⟨u,r,rfl,h1,h2⟩:=h
  simp only[List.set_cons_succ,RdL]
  exact⟨u,_,E,h1,h2.setI hx i⟩
theorem Ik {κ:Ka} {w:World} {k:Nat} {l:List SV} (hi:Inv κ w) (h:ObOK κ w k (.box l)) {off:Nat} {x:SV} {v:Value} (hx:x.plain=true) (hv:∀ κ w,Rd κ w x v) (h1:v.oneCell'=true) :
  ∃ b,κ k=.blk b∧(∀ j y,Ee l j=some y→∃ u,w.cell? ⟨b,j,none⟩=some u∧Rd κ w y u)∧(∀ j,j<l.length→w.frozen? ⟨b,j,none⟩=false) ∧
   Step (·=k) κ w κ (w.setCell ⟨b,off,none⟩ v)∧Inv κ (w.setCell ⟨b,off,none⟩ v)∧ObOK κ (w.setCell ⟨b,off,none⟩ v) k (.box (l.set off x)):=by
 obtain ⟨b,cs,T,fr,e1,e2,e3,e4,e5⟩:=h
 have hsame:(w.setCell ⟨b,off,none⟩ v).heap[b]? = some (.cells (cs.set off v).toArray T fr):=by
  simp[World.setCell,Array.getElem?_modify,e2]
 have hoth:∀ j,j≠b→(w.setCell ⟨b,off,none⟩ v).heap[j]? = w.heap[j]?:=fun j hj=>heap_setCell_other w ⟨b,off,none⟩ j v hj
 obtain ⟨st,inv⟩:=K5 (w':=w.setCell ⟨b,off,none⟩ v) hi (k:=k) (b:=b) (by rw[e1];rfl) rfl rfl rfl qy hoth
 have hlen:=e5.length
 refine⟨b,e1,fun j y hy=>?_,fun j hj=>?_,st,inv,b,_,T,fr,e1,hsame,by rw[List.length_set];exact e3,?_,(RdL.step st _ _ e5).setI (hv _ _) off⟩
 ·obtain ⟨u,hu,hr⟩:=e5.get hy
  exact⟨u,by rw[cell_of_row w b j cs.toArray T fr e2,List.getElem?_toArray];exact hu,hr⟩
 ·obtain ⟨lo,hi'⟩:=fr
  simp only[World.frozen?,e2]
  rcases e3 with h | h
  ·simp only at h;subst h;simp
  ·simp only at h;simp;omega
 ·intro c hc
  rcases List.mem_or_eq_of_mem_set hc with h | h
  ·exact e4 c h
  ·rw[h];exact h1
theorem Y2 {P:Program} {o:Oper} {s:SS} {f:FuncId} {ik:IntKind} {ts:Array TypeId} {x:Operand} {k off:Nat} {l:List SV} {v:Int}
  (hf:∀ (a:Addr) (x:Int) (w:World),w.cell? a=some (.int ik x)→(callFunc f #[.pointer (some a)]).run P w=.ok (.value (.int ik x)) w)
  (h:o.op=.call ⟨.value (.func f),#[x],ts⟩) (hx:ev s x=.ptr k off) (hk:s.h k=.box l) (hy:Ee l off=some (.val (.int ik v))):Good P o s ⟨.val (.int ik v),[k],[]⟩ :=
 Good.pure fun κ a w hi hr ho=>by
  have h1:=hr x (by simp[h,Op.operands,Call.operands])
  rw[hx]at h1
  have h2:=ho k qy
  rw[hk]at h2
  obtain ⟨b,cs,T,fr,e1,e2,e3,e4,e5⟩:=h2
  simp only[Rd,e1]at h1
  obtain ⟨u,hu,hr2⟩:=e5.get hy
  have hc:w.cell? ⟨b,off,none⟩=some (.int ik v):=by rw[cell_of_row w b off cs.toArray T fr e2,List.getElem?_toArray,hu,hr2.val]
  have hrun:=hf ⟨b,off,none⟩ v w hc
  refine⟨.int ik v,?_,by simp only[Rd]⟩
  have hev:a.eval (.func f)=.func (.func f) #[] #[]:=rfl
  simp[execOp,h,resolve,hev,Deferred.ofValue,invoke,h1,hrun]
theorem Abb {P:Program} {o:Oper} {s:SS} {f:FuncId} {ts:Array TypeId} {x y:Operand} {k off:Nat} {l:List SV} {v d:Int}
  (hf:∀ (a:Addr) (x y:Int) (w:World),w.cell? a=some (.int .i64 x)→w.frozen? a=false→(callFunc f #[.pointer (some a),.int .i64 y]).run P w=.ok (.value (.int .i64 (IntKind.i64.wrap (x+y)))) (w.setCell a (.int .i64 (IntKind.i64.wrap (x+y)))))
  (h:o.op=.call ⟨.value (.func f),#[x,y],ts⟩) (hx:ev s x=.ptr k off) (hy:ev s y=.val (.int .i64 d)) (hk:s.h k=.box l) (hl:Ee l off=some (.val (.int .i64 v))) (hv:IntKind.i64.wrap (v+d)=v+d) :
  Good P o s ⟨.val (.int .i64 (v+d)),[],[(k,.box (l.set off (.val (.int .i64 (v+d)))))]⟩:=by
 intro κ a w hi hr ho N Q hN
 have h1:=hr x (by simp[h,Op.operands,Call.operands])
 have h2:=hr y (by simp[h,Op.operands,Call.operands])
 rw[hx]at h1
 rw[hy]at h2
 have h3:=ho k (.inr (by simp[Up.ws]))
 rw[hk]at h3
 obtain ⟨b,e1,c1,c2,st,inv,ob⟩:=Ik (off:=off) (x:=.val (.int .i64 (v+d))) (v:=.int .i64 (v+d)) hi h3 rfl (fun _ _=>by simp only[Rd]) rfl
 simp only[Rd,e1]at h1
 obtain ⟨u,hu,hr2⟩:=c1 off _ hl
 rw[hr2.val]at hu
 have hrun:=hf ⟨b,off,none⟩ v d w hu (c2 off (Wa hl))
 rw[hv]at hrun
 have hrun2:(execOp a.eval o).run P w=.ok (.value (.int .i64 (v+d))) (w.setCell ⟨b,off,none⟩ (.int .i64 (v+d))):=by
  have hev:a.eval (.func f)=.func (.func f) #[] #[]:=rfl
  simp[execOp,h,resolve,hev,Deferred.ofValue,invoke,h1,h2.val,hrun]
 simp only[Oper.wp,hrun2,Oper.upon]
 refine hN _ κ _ (st.weaken (by simp[Up.ws])) inv (by simp only[Rd]) (fun p hp=>?_)
 simp only[List.mem_singleton]at hp
 subst hp
 exact ob
theorem Y3 {P:Program} (Γ:Ty P) {o:Oper} {s:SS} (q:Nat) {t:TypeId} {ti:TI} {et:TypeId} {eb b n cap lo k c1 c2:Nat} {ez:List Value} {x y:Operand} {α:Type} {e:α→SV} {l:List α} {B B2:Option Addr}
  (h:o.op=.call ⟨.builtin .copy,#[x,y],#[t,t]⟩) (ht:Γ.get t=some ti) (hk:ti.k=.slice et 1 eb ez) (hx:ev s x=.val (.slice B (n-lo) c1)) (hB:B=some ⟨b,lo,none⟩) (hy:ev s y=.val (.slice B2 k c2)) (hB2:B2=some ⟨b,0,none⟩)
  (hq:s.h q=.pin b n cap 1 e l) (hl:l.length=n) (hk2:k≤n) (hpos:0<min k (n-lo)) :
  Good P o s ⟨.val (.int .i64 (min k (n-lo):Nat)),[],[(q,.pin b n cap 1 e (l.take lo++l.take (min k (n-lo))++l.drop (lo+min k (n-lo))))]⟩:=by
 intro κ a w hinv hr ho N Q hN
 have r1:=hr x (by simp[h,Op.operands,Call.operands])
 have r2:=hr y (by simp[h,Op.operands,Call.operands])
 rw[hx]at r1
 rw[hy]at r2
 subst hB
 subst hB2
 have hob:=ho q (.inr (by simp[Up.ws]))
 rw[hq]at hob
 obtain ⟨e0,b',cap',cs,T,fr,e1,e2,e3,e4,e5,e6⟩:=hob
 rw[e0]at e1
 cases e1
 obtain ⟨hu,ii,zv,q1,q2,q3,q4,q5⟩:=B1 Γ ht hk
 obtain ⟨mn,hmn⟩:∃ mn,min k (n-lo)=mn:=⟨_,rfl⟩
 rw[hmn]at hpos hN
 have hnc:n≤cs.length:=by omega
 have hall:∀ i,i<n→∃ u:Value,u.cells.size=1∧Ones u.cells.toList∧∀ j,j<1→cs[i * 1+j]? = u.cells[j]?:=fun i hi=>by
  obtain ⟨_,u,_,u2⟩:=e6 i (e l[i]) ⟨by omega,rfl⟩
  exact⟨u,u2⟩
 obtain ⟨news,hnews⟩:∃ news,news=cs.take mn:=⟨_,rfl⟩
 have hnl:news.length=mn:=by rw[hnews,List.length_take];omega
 have hget:∀ p,p<mn→news[p]? = cs[p]?:=fun p hp=>by rw[hnews,List.getElem?_take,if_pos hp]
 have hones:Ones news:=fun v hv=>by
  obtain ⟨p,hp,he⟩:=List.getElem_of_mem hv
  have h1:news[p]? = some v:=by rw[List.getElem?_eq_getElem hp,he]
  rw[hnl]at hp
  rw[hget p hp]at h1
  exact Aco (n:=n) hall qn h1
 obtain ⟨w',f1,f2,f3,f4,f5,f6,f7⟩:=Cf P b lo T fr news 0 cs w e2 e3 qn hones
 obtain ⟨st,inv⟩:=L5 hinv e0 f3 f4 f5 f6 f7
 have hcell:∀ p v,cs[p]? = some v→w.cell? ⟨b,p,none⟩=some v:=fun p v hp=>by simp[World.cell?,e2,hp]
 have hc:=Z7 (P:=P) w w' t t o.type et ⟨b,lo,none⟩ ⟨b,0,none⟩ (n-lo) c1 k c2 news hu q1 q2 (by rw[hnl,hmn]) (fun j v hv=>by
  rw[Addr.add_lit]
  have hlt:j<mn:=by rw[← hnl];exact(List.getElem?_eq_some_iff.1 hv).1
  rw[hget j hlt]at hv
  rw[Nat.zero_add]
  exact hcell _ _ hv) f1
 rw[hnl]at hc
 have hrun:(execOp a.eval o).run P w=.ok (.value (.int .i64 (mn:Nat))) w':=by
  simp[execOp,h,resolve,invoke,builtin,r1.val,r2.val,hc]
 simp only[Oper.wp,hrun,Oper.upon]
 refine hN _ κ w' (st.weaken (fun k hk=>by subst hk;simp[Up.ws])) inv (by simp only[Rd]) (fun p hp=>?_)
 simp only[List.mem_singleton]at hp
 subst hp
 refine⟨e0,b,cap,_,T,fr,e0,f2,by rw[Bs];exact e3,by rw[Bs];exact e4,e5,?_⟩
 rintro i z ⟨hi0,rfl⟩
 have hset:=I5 cs news (lo+0)
 have hlen:(l.take lo++l.take mn++l.drop (lo+mn)).length=n:=by
  simp only[List.length_append,List.length_take,List.length_drop];omega
 rw[hlen]at hi0
 have src:∀ j (hj:j<l.length),∃ u:Value,RdD (Own κ) w (e l[j]) u∧u.cells.size=1∧Ones u.cells.toList∧∀ p,p<1→cs[j * 1+p]? = u.cells[p]?:=fun j hj=>(e6 j (e l[j]) ⟨hj,rfl⟩).2
 by_cases hi1:i<lo
 ·obtain ⟨u,u1,u2,u3,u4⟩:=src i qn
  refine⟨hi0,u,?_,u2,u3,fun p hp=>?_⟩
  ·have:(l.take lo++l.take mn++l.drop (lo+mn))[i]'(by rw[hlen];exact hi0)=l[i]'qn:=by
    rw[List.getElem_append_left (by simp only[List.length_append,List.length_take];omega),List.getElem_append_left (by simp only[List.length_take];omega),List.getElem_take]
   rw[this]
   exact RdD.keep st.keeps _ _ u1
  ·rw[hset _ qn,if_neg qn,u4 p hp]
 ·by_cases hi2:i<lo+mn
  ·obtain ⟨u,u1,u2,u3,u4⟩:=src (i-lo) qn
   refine⟨hi0,u,?_,u2,u3,fun p hp=>?_⟩
   ·have:(l.take lo++l.take mn++l.drop (lo+mn))[i]'(by rw[hlen];exact hi0)=l[i-lo]'qn:=by
     rw[List.getElem_append_left (by simp only[List.length_append,List.length_take];omega),List.getElem_append_right (by simp only[List.length_take];omega),List.getElem_take]
     congr 1
     simp only[List.length_take];omega
    rw[this]
    exact RdD.keep st.keeps _ _ u1
   ·rw[hset _ qn,if_pos qn,hget _ qn,← u4 p hp]
    congr 1
    omega
  ·obtain ⟨u,u1,u2,u3,u4⟩:=src i qn
   refine⟨hi0,u,?_,u2,u3,fun p hp=>?_⟩
   ·have:(l.take lo++l.take mn++l.drop (lo+mn))[i]'(by rw[hlen];exact hi0)=l[i]'qn:=by
     rw[List.getElem_append_right (by simp only[List.length_append,List.length_take];omega),List.getElem_drop]
     congr 1
     simp only[List.length_append,List.length_take];omega
    rw[this]
    exact RdD.keep st.keeps _ _ u1
   ·rw[hset _ qn,if_neg qn,u4 p hp]
end Go.Sy
namespace Go.Sy.YteinjapglfkamaaGreat
open Go.Proofs
attribute [local irreducible] Go.Sy.G Go.Sy.DR
set_option maxRecDepth 100000
set_option maxHeartbeats 4000000
theorem Yg (m:Nat) (h:m<4294967296):bits .and .u64 (m:Int) 4294967295=(m:Int):=by
 have:=bits_and_u64_nat m 4294967295 qn qx
 rw[show ((4294967295:Nat):Int)=4294967295 from rfl]at this
 rw[this]
 have h2:=Nat.and_two_pow_sub_one_eq_mod m 32
 rw[show 2 ^ 32-1=4294967295 from rfl,show 2 ^ 32=4294967296 from rfl]at h2
 rw[h2,Nat.mod_eq_of_lt h]
theorem Afi (m:Nat) (h:m<4294967296):(m:Int).fdiv (2 ^ (min (Int.toNat 32) IntKind.u64.bits))=0:=by
 show (m:Int).fdiv 4294967296=0
 rw[Int.fdiv_eq_ediv_of_nonneg _ qx]
 omega
theorem mul64S (m:Nat) (h:m<4294967296):Sy.Spec Tryz.prog 218 [Bf 1,Bf m] [] (.tup [Bf 0,Bf m]) []:=Ab Γ hm 100 F218 Tryz.ntmps218 rfl fun F hF=>by
 have e0:bits .and .u64 1 4294967295=1:=Yg 1 qx
 have e1:(1:Int).fdiv (2 ^ (min (Int.toNat 32) IntKind.u64.bits))=0:=Afi 1 qx
 have e2:=Yg m h
 have e3:=Afi m h
 have w1:IntKind.u64.wrap (1 * (m:Int))=m:=by rw[IntKind.wrap_u64];omega
 have w0:IntKind.u64.wrap (0 * (m:Int))=0:=by rw[IntKind.wrap_u64];omega
 have z0:IntKind.u64.wrap (0+0)=0:=rfl
 have a0:bits .and .u64 0 4294967295=0:=Yg 0 qx
 have s0:(0:Int).fdiv (2 ^ (min (Int.toNat 32) IntKind.u64.bits))=0:=Afi 0 qx
 conv=>whnf
 rw[e0]
 refine⟨by decide,?_⟩
 rw[e1]
 conv=>whnf
 rw[e2]
 refine⟨by decide,?_⟩
 rw[e3]
 conv=>whnf
 rw[w1,w0]
 refine⟨by decide,?_⟩
 rw[e3]
 conv=>whnf
 rw[z0,a0]
 refine⟨by decide,?_⟩
 rw[s0]
 conv=>whnf
 refine⟨by decide,?_⟩
 conv=>whnf
 refine Ac E (.cons .tmp (.cons .tmp .nil)) ?_ E
 refine congrArg (fun z:Int=>SV.tup [Bf 0,Bf z]) ?_
 exact w1.symm
theorem mulS (m:Nat) (h:m<4294967296):Sy.Spec Tryz.prog 159 [Bf 1,Bf m] [] (.tup [Bf 0,Bf m]) []:=Ab Γ hm 100 F159 Tryz.ntmps159 rfl fun F hF=>by
 ((conv=>whnf);refine aF ?_;refine rg ?_;conv=>whnf)
 refine Ag (mul64S m h) F218 E E E E E ?_
 refine rg ?_;conv=>whnf
 exact Ac E (.cons .tmp (.cons .tmp .nil)) E E
def I8 (m k:Nat):List Bool:=List.replicate k true++List.replicate (m-k) false
theorem Mb (m k:Nat) (h:k≤m):(I8 m k).length=m:=by simp[I8];omega
theorem Alx (m:Nat):I8 m m=List.replicate m true:=by simp[I8]
theorem Ajb (m k c:Nat) (h:k≤m) (hc:c=min k (m-k)):(I8 m k).take k++(I8 m k).take c++(I8 m k).drop (k+c)=I8 m (k+c):=by
 have e1:(I8 m k).take k=List.replicate k true:=by
  rw[I8,List.take_append_of_le_length qy];simp
 have e2:(I8 m k).take c=List.replicate c true:=by
  rw[I8,List.take_append_of_le_length (by simp;omega)];simp;omega
 have e3:(I8 m k).drop (k+c)=List.replicate (m-(k+c)) false:=by
  rw[I8,List.drop_append,List.drop_eq_nil_of_le qy,List.nil_append]
  simp
  omega
 rw[e1,e2,e3,I8,List.replicate_append_replicate]
theorem Aht (m:Nat) (h:m<2147483648):Sy.Spec Tryz.prog 111 [.sl 1 Ad [true],Aa m] [] (.sl 1 Ad (List.replicate m true)) []:=Ab Γ hm 100 F111 Tryz.ntmps111 rfl fun F hF=>by
 have hw:IntKind.u64.wrap (m:Int)=m:=by rw[IntKind.wrap_u64];omega
 have hw2:IntKind.i64.wrap (m:Int)=m:=by rw[IntKind.wrap_i64];omega
 have q:=mulS m qn
 rw[← hw]at q
 ((conv=>whnf);refine aF ?_;refine rg ?_;conv=>whnf)
 refine Ag q F159 E E E E E ?_
 rw[hw]
 (refine rg ?_;(conv=>whnf);refine aF ?_;refine rg ?_;conv=>whnf)
 refine⟨fun h1=>absurd (of_decide_eq_true h1) qn,fun _=>?_⟩
 refine rg ?_;conv=>whnf
 rw[hw2]
 refine Ai (Br Γ.toTy (d:=30) (n:=m) Ad false E E E E E E E E qn qn E E E) E E ?_
 refine rg ?_;conv=>whnf
 refine Ai (Un Γ.toTy (l:=List.replicate m false) (m:=[true]) E E E E E .sl) E E ?_
 have e0:[true].take (List.replicate m false).length++(List.replicate m false).drop [true].length=I8 m (min 1 m):=by
  cases m with
  | zero=>rfl
  | succ m=>simp[I8,Nat.min_eq_left,List.replicate_succ]
 have e1:min [true].length (List.replicate m false).length=min 1 m:=by simp
 rw[e0,e1]
 refine rg ?_;conv=>whnf
 refine Oo (fun k:Nat=>min 1 m≤k∧k≤m) (fun k=>[(7,.osl 30),(8,Aa k)]) (fun k=>[(30,.row 1 Ad (I8 m k))]) (fun k=>m-k) (min 1 m) [] qn ⟨⟨E,E,E,E,Y⟩,⟨.inl E,E,Y⟩,E,E⟩ ?_
 intro k hk
 have hl:=Mb m k hk.2
 refine rg ?_;conv=>whnf
 refine⟨fun h1=>?_,fun h1=>?_⟩
 ·have hlt:k<m:=by have:=of_decide_eq_true h1;rw[hl]at this;omega
  clear h1
  have hk1:1≤k:=by omega
  have hne:I8 m k≠[]:=fun e=>by rw[e]at hl;simp at hl;omega
  refine Aii 30 [7] E hne (fun i hi=>by simp at hi;subst hi;rfl) ?_
  intro b cap hc
  rw[hl]at hc ⊢
  have hcl:¬ cap=k:=by omega
  have hcp:=Ajb m k (min k (m-k)) hk.2 rfl
  refine rg ?_;conv=>whnf
  refine Bn (Cz (lo:=k) (hi:=m) Γ.toTy E E E E (.inr ⟨_,_,E,E⟩) (.inl ⟨E,E⟩) qn qn) qq E ?_
  refine rd qq ?_;conv=>whnf
  refine Bn (Cz (lo:=0) (hi:=k) Γ.toTy E E E E (.inl ⟨E,E⟩) (.inr ⟨_,_,E,E⟩) qn qn) qq E ?_
  refine rd qq ?_;conv=>whnf
  refine Bn (Y3 Γ.toTy 30 (lo:=k) (k:=k) E E E E (by rw[if_neg hcl,Nat.mul_one]) E (by rw[if_neg qn,Nat.zero_mul]) E hl qn qn) qq E ?_
  refine rd qq ?_;conv=>whnf
  refine⟨by unfold I64;omega,?_⟩
  conv=>whnf
  refine⟨qq,?_⟩
  conv=>whnf
  refine We 30 31 [7] m E E (by rw[hcp,Mb m _ qn];exact Nat.le_refl _) (fun i hi=>by simp at hi;subst hi;rfl) ?_
  have hfin:((I8 m k).take k++(I8 m k).take (min k (m-k))++(I8 m k).drop (k+min k (m-k))).take m=I8 m (k+min k (m-k)):=by
   rw[hcp,List.take_of_length_le (by rw[Mb m _ qn];exact Nat.le_refl _)]
  exact Ds (k+min k (m-k)) [(30,31)] qn qn ⟨⟨E,E,E,E,Y⟩,⟨.inl (congrArg (Ob.row 1 Ad) hfin.symm),E,Y⟩,E,E⟩
 ·have hkm:k=m:=by have:=of_decide_eq_false h1;rw[hl]at this;omega
  subst hkm
  rw[Alx]
  refine rg ?_;conv=>whnf
  refine Au 30 E ?_
  exact Ac E (.cons .tmp .nil) E E
def Kd (t:List EntryM):SV:=.sl 3 A0 t
def Lw (l:List QueuedM):SV:=.sl 7 Bo l
def L7 (n:Net) (k:Nat) (now inj:Int) (d:Nat→Int):List SV :=
 [.sl 5 Bm n.devices,.sl 7 A5 n.ports,.sl 3 Ch n.links,.sl 6 At n.domains,.sl 4 Bk n.statics,.sl 4 Bw n.floods,.sl 5 Cv n.vrfs,.sl 5 Cg n.irbs,.ptr k 0,.osl 2,.osl 3,.val (.int .i64 now),.val (.int .i64 inj),
 .val (.int .i64 (d 0)),.val (.int .i64 (d 1)),.val (.int .i64 (d 2)),.val (.int .i64 (d 3)),.val (.int .i64 (d 4)),.val (.int .i64 (d 5)),.val (.int .i64 (d 6)),.val (.int .i64 (d 7)),.val (.int .i64 (d 8)),.val (.int .i64 (d 9)),.val (.int .i64 (d 10)),.val (.int .i64 (d 11)),.val (.int .i64 (d 12)),.val (.int .i64 (d 13)),.val (.int .i64 (d 14)),.val (.int .i64 (d 15)),.val (.int .i64 (d 16)),.val (.int .i64 (d 17)),.val (.int .i64 (d 18)),.val (.int .i64 (d 19)),.val (.int .i64 (d 20)),.val (.int .i64 (d 21)),.val (.int .i64 (d 22)),.val (.int .i64 (d 23)),.val (.int .i64 (d 24)),.val (.int .i64 (d 25)),.val (.int .i64 (d 26)),.val (.int .i64 (d 27)),.val (.int .i64 (d 28)),.val (.int .i64 (d 29)),.val (.int .i64 (d 30)),.val (.int .i64 (d 31)),.val (.int .i64 (d 32)),.val (.int .i64 (d 33)),.val (.int .i64 (d 34)),.val (.int .i64 (d 35)),.val (.int .i64 (d 36)),.val (.int .i64 (d 37)),.val (.int .i64 (d 38)),.val (.int .i64 (d 39)),.val (.int .i64 (d 40)),.val (.int .i64 (d 41)),.val (.int .i64 (d 42)),.val (.int .i64 (d 43)),.val (.int .i64 (d 44)),.val (.int .i64 (d 45)),.val (.int .i64 (d 46)),.val (.int .i64 (d 47)),.val (.int .i64 (d 48)),.val (.int .i64 (d 49)),.val (.int .i64 (d 50)),.val (.int .i64 (d 51)),.val (.int .i64 (d 52)),.val (.int .i64 (d 53)),.val (.int .i64 (d 54)),.val (.int .i64 (d 55)),.val (.int .i64 (d 56)),.val (.int .i64 (d 57)),.val (.int .i64 (d 58)),.val (.int .i64 (d 59)),.val (.int .i64 (d 60)),.val (.int .i64 (d 61)),.val (.int .i64 (d 62)),.val (.int .i64 (d 63))]
def onceL (up:List Bool) (done:Int) (fw:List Bool):List SV:=[.sl 1 Ad up,.val (.int .u32 done),.val (.int .i32 0),.val (.int .u32 0),.sl 1 Ad fw]
def Ih (n:Net) (up:List Bool) (d:Bool):List SV:=onceL up (if d then 1 else 0) (if d then Ks n up else [])
def C0 (n:Net) (m:MacM) (d:Bool):Obs:=[(0,.box (L7 n 1 m.now m.injected m.drops)),(1,.box (Ih n m.up d)),(2,.row 1 Kd m.tables),(3,.row 1 Lw m.queues)]
theorem getI_map (f:Nat→SV):∀ (k a n:Nat),k<n→Ee ((List.range' a n).map f) k=some (f (a+k))
 | 0,a,n+1,_=>rfl
 | k+1,a,n+1,h=>by
  show Ee ((List.range' (a+1) n).map f) k=_
  rw[getI_map f k (a+1) n qn]
  congr 2;omega
theorem Ahn (f:Nat→SV) (x:SV):∀ (k a n:Nat),((List.range' a n).map f).set k x=(List.range' a n).map (fun i=>if i=a+k then x else f i)
 | _,_,0=>rfl
 | 0,a,n+1=>by
  show x::(List.range' (a+1) n).map f=(if a=a+0 then x else f a)::(List.range' (a+1) n).map _
  rw[if_pos qn]
  congr 1
  apply List.map_congr_left
  intro i hi
  have:=(List.mem_range'_1.1 hi).1
  rw[if_neg qn]
 | k+1,a,n+1=>by
  show f a::((List.range' (a+1) n).map f).set k x=(if a=a+(k+1) then x else f a)::(List.range' (a+1) n).map _
  rw[if_neg qn,Ahn f x k (a+1) n]
  congr 1
  apply List.map_congr_left
  intro i _
  rw[show a+1+k=a+(k+1) by omega]
theorem Qn (n:Net) (k:Nat) (now inj:Int) (d:Nat→Int):L7 n k now inj d =
  .sl 5 Bm n.devices::.sl 7 A5 n.ports::.sl 3 Ch n.links::.sl 6 At n.domains::.sl 4 Bk n.statics::.sl 4 Bw n.floods::.sl 5 Cv n.vrfs::.sl 5 Cg n.irbs::.ptr k 0::.osl 2::.osl 3::.val (.int .i64 now)::.val (.int .i64 inj) ::
   (List.range' 0 64).map (fun i=>.val (.int .i64 (d i))):=rfl
theorem Alp (n:Net) (k:Nat) (now inj:Int) (d:Nat→Int) (e:Nat) (he:e<64):Ee (L7 n k now inj d) (13+e)=some (.val (.int .i64 (d e))):=by
 rw[Qn,Nat.add_comm]
 show Ee ((List.range' 0 64).map (fun i=>SV.val (.int .i64 (d i)))) e=_
 rw[getI_map _ e 0 64 he,Nat.zero_add]
theorem Alo (n:Net) (k:Nat) (now inj:Int) (d:Nat→Int) (e:Nat) (v:Int):(L7 n k now inj d).set (13+e) (.val (.int .i64 v))=L7 n k now inj (fun i=>if i=e then v else d i):=by
 rw[Qn,Qn,Nat.add_comm]
 have h:=Ahn (fun i=>SV.val (.int .i64 (d i))) (.val (.int .i64 v)) e 0 64
 have h2:(fun i=>if i=0+e then SV.val (.int .i64 v) else SV.val (.int .i64 (d i)))=(fun i=>SV.val (.int .i64 (if i=e then v else d i))):=by
  funext i
  rw[Nat.zero_add]
  split<;>rfl
 rw[h2]at h
 rw[← h]
 rfl
theorem add64 (a:Addr) (x y:Int) (w:World) (hc:w.cell? a=some (.int .i64 x)) (hz:w.frozen? a=false):(callFunc 307 #[.pointer (some a),.int .i64 y]).run Tryz.prog w=.ok (.value (.int .i64 (IntKind.i64.wrap (x+y)))) (w.setCell a (.int .i64 (IntKind.i64.wrap (x+y)))) :=
 run_call_add Tryz.func307 qq qq qq .i64 qq hc hz rfl
theorem Aiy (n:Net) (k:Nat) (m:MacM) (e:Int):L7 n k m.now m.injected (Ca m e).drops=(L7 n k m.now m.injected m.drops).set (13+e.toNat) (.val (.int .i64 (m.drops e.toNat+1))):=by
 rw[Alo]
 congr 1
 funext i
 show (if i=e.toNat then m.drops i+1 else m.drops i)=_
 split
 ·rename_i h;rw[h]
 ·rfl
theorem Agy {x:Int} (h:0≤x∧x≤1000000000000):IntKind.i64.wrap (x+1)=x+1:=by
 rw[IntKind.wrap_i64];omega
theorem Aha (n:Net) (m:MacM) (d:Bool) (e:Int) (h0:0≤e) (h1:e<64) (hb:IntKind.i64.wrap (m.drops e.toNat+1)=m.drops e.toNat+1) :
  Sy.Spec Tryz.prog 240 [.ptr 0 (13+e.toNat),Aa 1] (C0 n m d) (Aa (m.drops e.toNat+1)) (C0 n (Ca m e) d):=Ab Γ hm 100 F240 Tryz.ntmps240 rfl fun F hF=>by
 have hg:=Alp n 1 m.now m.injected m.drops e.toNat qn
 have hs:=Aiy n 1 m e
 have hlt:=Wa hg
 ((conv=>whnf);repeat((first|refine aF ?_|refine aT ?_);(first|refine rG Γ hm ?_|refine rD Γ hm qq ?_);conv=>whnf))
 refine Ai (Abb add64 E E E E hg hb) E E ?_
 ((first|refine rG Γ hm ?_|refine rD Γ hm qq ?_);(conv=>whnf);repeat((first|refine aF ?_|refine aT ?_);(first|refine rG Γ hm ?_|refine rD Γ hm qq ?_);conv=>whnf))
 exact done E (.cons .tmp .nil) [] (C0 n (Ca m e) d) (fun _ h=>h) E E ⟨Y,⟨.inl (congrArg Ob.box hs),E,.inl E,E,.inl E,E,.inl E,E,Y⟩,E,E⟩
theorem Aej (n:Net) (m:MacM) (d:Bool) (e:Int) (h0:0≤e) (h1:e<64) (hb:0≤m.drops e.toNat∧m.drops e.toNat≤1000000000000) :
  Sy.Spec Tryz.prog 176 [.ptr 0 0,Aa e] (C0 n m d) (.tup []) (C0 n (Ca m e) d):=Ab Γ hm 100 F176 Tryz.ntmps176 rfl fun F hF=>by
 ((conv=>whnf);repeat((first|refine aF ?_|refine aT ?_);(first|refine rG Γ hm ?_|refine rD Γ hm qq ?_);conv=>whnf))
 refine⟨h0,by omega,?_⟩
 ((first|refine rG Γ hm ?_|refine rD Γ hm qq ?_);(conv=>whnf);repeat((first|refine aF ?_|refine aT ?_);(first|refine rG Γ hm ?_|refine rD Γ hm qq ?_);conv=>whnf))
 refine Ai (Ak [] E F240 (Aha n m d e h0 h1 (Agy hb)) (congrArg (fun z=>[SV.ptr 0 z,Aa 1]) (show 13+e.toNat=0+13+e.toNat * 1 by omega)) ⟨E,E,E,E,Y⟩ E ⟨.inl E,.inl E,.inl E,.inl E,Y⟩) E E ?_
 ((first|refine rG Γ hm ?_|refine rD Γ hm qq ?_);(conv=>whnf);repeat((first|refine aF ?_|refine aT ?_);(first|refine rG Γ hm ?_|refine rD Γ hm qq ?_);conv=>whnf))
 exact Ba E .nil [] (C0 n (Ca m e) d) (fun _ h=>h) E E ⟨Y,⟨.inl E,E,.inl E,E,.inl E,E,.inl E,E,Y⟩,E,E⟩
theorem Ahl (n:Net) (m:MacM) (d:Bool) (dom:Int) :
  Sy.Spec Tryz.prog 119 [.ptr 0 0,Aa dom] (C0 n m d) (Ad (Aj dom m.queues.length)) (C0 n m d):=Ab Γ hm 100 F119 Tryz.ntmps119 rfl fun F hF=>by
 have hres:Aj dom m.queues.length=(decide (0≤dom) && decide (dom<m.queues.length)):=rfl
 generalize Aj dom m.queues.length=res at *
 ((conv=>whnf);repeat((first|refine aF ?_|refine aT ?_);(first|refine rG Γ hm ?_|refine rD Γ hm qq ?_);conv=>whnf))
 refine⟨fun h=>?_,fun h=>?_⟩
 ·((first|refine rG Γ hm ?_|refine rD Γ hm qq ?_);(conv=>whnf);repeat((first|refine aF ?_|refine aT ?_);(first|refine rG Γ hm ?_|refine rD Γ hm qq ?_);conv=>whnf))
  (repeat (first | (refine⟨fun h=>False.elim (by first | (exact absurd h qx) | (simp at h;done) | (simp at h;omega)),fun _=>?_⟩;((first|refine rG Γ hm ?_|refine rD Γ hm qq ?_);(conv=>whnf);repeat((first|refine aF ?_|refine aT ?_);(first|refine rG Γ hm ?_|refine rD Γ hm qq ?_);conv=>whnf))) | (refine⟨fun _=>?_,fun h=>False.elim (by first | (exact absurd h qx) | (simp at h;done) | (simp at h;omega))⟩;((first|refine rG Γ hm ?_|refine rD Γ hm qq ?_);(conv=>whnf);repeat((first|refine aF ?_|refine aT ?_);(first|refine rG Γ hm ?_|refine rD Γ hm qq ?_);conv=>whnf)))))
  refine done E (.cons .tmp .nil) [] (C0 n m d) (fun _ h=>h) ?_ E ⟨Y,⟨.inl E,E,.inl E,E,.inl E,E,.inl E,E,Y⟩,E,E⟩
  rw[hres,h]
  rfl
 ·((first|refine rG Γ hm ?_|refine rD Γ hm qq ?_);(conv=>whnf);repeat((first|refine aF ?_|refine aT ?_);(first|refine rG Γ hm ?_|refine rD Γ hm qq ?_);conv=>whnf))
  (repeat (first | (refine⟨fun h=>False.elim (by first | (exact absurd h qx) | (simp at h;done) | (simp at h;omega)),fun _=>?_⟩;((first|refine rG Γ hm ?_|refine rD Γ hm qq ?_);(conv=>whnf);repeat((first|refine aF ?_|refine aT ?_);(first|refine rG Γ hm ?_|refine rD Γ hm qq ?_);conv=>whnf))) | (refine⟨fun _=>?_,fun h=>False.elim (by first | (exact absurd h qx) | (simp at h;done) | (simp at h;omega))⟩;((first|refine rG Γ hm ?_|refine rD Γ hm qq ?_);(conv=>whnf);repeat((first|refine aF ?_|refine aT ?_);(first|refine rG Γ hm ?_|refine rD Γ hm qq ?_);conv=>whnf)))))
  refine done E (.cons .tmp .nil) [] (C0 n m d) (fun _ h=>h) ?_ E ⟨Y,⟨.inl E,E,.inl E,E,.inl E,E,.inl E,E,Y⟩,E,E⟩
  rw[hres,h]
  rfl
theorem Agv (f:FrameM) (hb:f.body.length<100000):Sy.Spec Tryz.prog 247 [B9 f] [] (B9 f) []:=Ab Γ hm 100 F247 Tryz.ntmps247 rfl fun F hF=>by
 conv=>whnf
 refine Ai (Br Γ.toTy (d:=7) (n:=f.body.length) Ao 0 E E E E E E E E qn qn E E E) E E ?_
 refine rg ?_;conv=>whnf
 refine Ai (Un Γ.toTy (l:=List.replicate f.body.length 0) (m:=f.body) E E E E E .sl) E E ?_
 refine rg ?_;conv=>whnf
 refine Au 7 E ?_
 refine rg ?_;conv=>whnf
 refine Ac E (.cons (.cell E E E E) .nil) ?_ E
 show SV.agg [_,_,_,.sl 1 Ao f.body]=SV.agg [_,_,_,.sl 1 Ao (f.body.take (List.replicate f.body.length (0:UInt8)).length++(List.replicate f.body.length (0:UInt8)).drop f.body.length)]
 have e:f.body.take (List.replicate f.body.length (0:UInt8)).length++(List.replicate f.body.length (0:UInt8)).drop f.body.length=f.body:=by
  rw[List.length_replicate,List.take_length,List.drop_eq_nil_of_le qy,List.append_nil]
 rw[e]
 rfl
theorem Abr (q:QueuedM) (hb:q.frame.body.length<100000):Sy.Spec Tryz.prog 180 [Bo q] [] (Bo q) []:=Ab Γ hm 100 F180 Tryz.ntmps180 rfl fun F hF=>by
 have qc:=Agv q.frame hb
 conv=>whnf
 refine Ag qc F247 E E E E E ?_
 refine rg ?_;conv=>whnf
 exact Ac E (.cons (.cell E E E E) .nil) E E
def M7 (l:List QueuedM):Prop:=∀ q∈l,q.frame.body.length<100000
theorem Apf (l:List QueuedM) (hl:l.length<1000000) (hb:M7 l):Sy.Spec Tryz.prog 179 [.sl 7 Bo l] [] (.osl 0) [(0,.row 7 Bo l)]:=Ab Γ hm 100 F179 Tryz.ntmps179 rfl fun F hF=>by
 conv=>whnf
 refine B7 3 1000 7 Bo E E ?_
 refine Aw l.length (fun j=>[(3,.osl 1000),(6,.sl 7 Bo l),(7,Aa l.length),(8,Aa j)]) (fun j=>[(1000,.row 7 Bo (l.take j))]) [] ⟨⟨E,E,E,E,E,E,E,E,Y⟩,⟨.inl E,E,Y⟩,E,E⟩ ?_
 intro j hj
 refine rg ?_;conv=>whnf
 refine⟨fun h=>?_,fun h=>?_⟩
 ·have hlt:j<l.length:=by have:=of_decide_eq_true h;omega
  have hj0:((j:Nat):Int).toNat<l.length:=by simpa using hlt
  obtain ⟨q,hq⟩:∃ q,l[j]=q:=⟨_,rfl⟩
  have e1:l[((j:Nat):Int).toNat]'hj0=q:=hq
  have hs:l.take (j+1)=l.take j++[q]:=by rw[List.take_succ_eq_append_getElem hlt,hq]
  have hqb:=hb q (by rw[← hq];exact List.getElem_mem hlt)
  have hll:(l.take j).length=j:=by rw[List.length_take];omega
  clear h
  refine rg ?_;conv=>whnf
  refine⟨E,by omega,hj0,?_⟩
  rw[e1]
  conv=>whnf
  refine Ag (Abr q hqb) F180 E E E E E ?_
  refine rg ?_;conv=>whnf
  refine Ai (Am Γ.toTy 16 E E E E E (.row E) (.lit (e:=Bo) (l:=[q]) E E) qy (by rw[hll];simp;omega) (by rw[hll];simp;omega)) E E ?_
  refine rg ?_;conv=>whnf
  refine⟨by unfold I64;omega,?_⟩
  conv=>whnf
  exact Ar [(1000,16)] hlt ⟨⟨E,E,E,E,E,E,E,E,Y⟩,⟨.inl (congrArg (Ob.row 7 Bo) hs),E,Y⟩,E,E⟩
 ·have hjj:j=l.length:=by have:=of_decide_eq_false h;omega
  subst hjj
  rw[List.take_length]
  refine rg ?_;conv=>whnf
  exact done E (.cons .tmp .nil) [(0,1000)] [(0,.row 7 Bo l)] (fun _ h=>h) E E ⟨Y,⟨.inl E,E,Y⟩,E,E⟩
theorem Ac8 (l:List QueuedM) (q:QueuedM) (hl:l.length<1000000) (hb:M7 l) (hqb:q.frame.body.length<100000) :
  Sy.Spec Tryz.prog 228 [.sl 7 Bo l,Bo q] [] (.tup [.sl 7 Bo (pushT l q).1,Ad (pushT l q).2]) []:=Ab Γ hm 100 F228 Tryz.ntmps228 rfl fun F hF=>by
 have hres:=pushT.eq_1 l q
 generalize pushT l q=res at *
 conv=>whnf
 refine Ai (Ak [(0,55)] E F179 (Apf l hl hb) E Y E ⟨.inr E,Y⟩) E E ?_
 refine rg ?_;conv=>whnf
 refine⟨fun h=>?_,fun h=>?_⟩
 ·rw[if_pos (by have:=of_decide_eq_true h;omega)]at hres
  subst hres
  refine rg ?_;conv=>whnf
  refine Au 55 E ?_
  exact Ac E (.cons .tmp (.cons .tmp .nil)) E E
 ·rw[if_neg (by have:=of_decide_eq_false h;omega)]at hres
  subst hres
  refine rg ?_;conv=>whnf
  refine Ag (Abr q hqb) F180 E E E E E ?_
  refine rg ?_;conv=>whnf
  refine Ai (Am Γ.toTy 17 E E E E E (.row E) (.lit (e:=Bo) (l:=[q]) E E) qx (by simp;omega) (by simp;omega)) E E ?_
  refine Au 17 E ?_
  refine rg ?_;conv=>whnf
  exact Ac E (.cons .tmp (.cons .tmp .nil)) E E
theorem W8 (l:List QueuedM) (at_:Int) (hl:l.length<1000000) (hb:M7 l) :
  Sy.Spec Tryz.prog 120 [.sl 7 Bo l,Aa at_] [] (.tup [Bo (takeT l at_).1,.sl 7 Bo (takeT l at_).2.1,Ad (takeT l at_).2.2]) []:=Ab Γ hm 100 F120 Tryz.ntmps120 rfl fun F hF=>by
 have hres:=takeT.eq_1 l at_
 generalize takeT l at_=res at *
 conv=>whnf
 refine⟨fun h=>?_,fun h=>?_⟩
 ·rw[if_pos (.inl (of_decide_eq_true h))]at hres
  subst hres
  (refine rg ?_;(conv=>whnf);refine aT ?_;refine rg ?_;conv=>whnf)
  refine Ai (Ak [(0,55)] E F179 (Apf l hl hb) E Y E ⟨.inr E,Y⟩) E E ?_
  refine Au 55 E ?_
  refine rg ?_;conv=>whnf
  refine Bc 4 [Aa 0,Aa 0,Aa 0,Bf 0,Bf 0,Aa 0,.sl 1 Ao []] E (.cons (.refl _) (.cons (.refl _) (.cons (.refl _) (.cons (.refl _) (.cons (.refl _) (.cons (.refl _) (.cons .nil .nil))))))) ?_
  exact Ac E (.cons (.cell E E E E) (.cons .tmp (.cons .tmp .nil))) E E
 have h0:0≤at_:=by have:=of_decide_eq_false h;omega
 clear h
 refine rg ?_;conv=>whnf
 refine⟨fun h=>?_,fun h=>?_⟩
 ·rw[if_pos (.inr (of_decide_eq_true h))]at hres
  subst hres
  refine rg ?_;conv=>whnf
  refine Ai (Ak [(0,55)] E F179 (Apf l hl hb) E Y E ⟨.inr E,Y⟩) E E ?_
  refine Au 55 E ?_
  refine rg ?_;conv=>whnf
  refine Bc 4 [Aa 0,Aa 0,Aa 0,Bf 0,Bf 0,Aa 0,.sl 1 Ao []] E (.cons (.refl _) (.cons (.refl _) (.cons (.refl _) (.cons (.refl _) (.cons (.refl _) (.cons (.refl _) (.cons .nil .nil))))))) ?_
  exact Ac E (.cons (.cell E E E E) (.cons .tmp (.cons .tmp .nil))) E E
 have h1:at_<l.length:=by have:=of_decide_eq_false h;omega
 clear h
 have hk:at_.toNat<l.length:=by omega
 have hne:l≠[]:=fun e=>by rw[e]at hk;simp at hk
 have hkk:((at_.toNat:Nat):Int)=at_:=by omega
 rw[if_neg qn,List.getElem?_eq_getElem hk,Option.getD_some]at hres
 obtain ⟨q,hq⟩:∃ q,l[at_.toNat]'hk=q:=⟨_,rfl⟩
 rw[hq]at hres
 have hqb:=hb q (by rw[← hq];exact List.getElem_mem hk)
 refine G_dat 0 90 E hne ?_
 intro B off cap hcap
 refine run Γ hm 3 ?_
 conv=>whnf
 refine Bn (Ve 90 (.inl E) E E) qq E ?_
 refine rd qq ?_;conv=>whnf
 refine⟨E,h0,hk,?_⟩
 rw[hq]
 conv=>whnf
 refine Aq (Abr q hqb) F180 E E E qq E ?_
 refine rd qq ?_;conv=>whnf
 refine Bn (Yy (hi:=at_.toNat) Γ.toTy E E E E (congrArg (fun z=>SV.val (.int .i64 z)) hkk.symm) (congrArg (fun z=>SV.val (.int .i64 z)) hkk.symm) qn) qq E ?_
 refine Bn (Ve 90 (.inl E) E E) qq E ?_
 refine rd qq ?_;conv=>whnf
 refine⟨by unfold I64;omega,?_⟩
 conv=>whnf
 refine Bn (Cm (lo:=at_.toNat+1) (hi:=l.length) Γ.toTy E E E E (.inr ⟨_,_,E,congrArg (fun z=>SV.val (.int .i64 z)) qn⟩) (.inl ⟨E,E⟩) qn (Nat.le_refl _)) qq E ?_
 have hll:((l.take l.length).drop (at_.toNat+1)).length=l.length-(at_.toNat+1):=by rw[List.length_drop,List.length_take];omega
 refine Bn (Y4 Γ.toTy 90 E E E E E E (Nat.le_of_lt hk) E (by rw[hll];omega) (by rw[hll];omega)) qq E ?_
 have he:l.take at_.toNat++(l.take l.length).drop (at_.toNat+1)=l.eraseIdx at_.toNat:=by rw[List.take_length,List.eraseIdx_eq_take_drop_succ]
 have hel:(l.take at_.toNat++(l.take l.length).drop (at_.toNat+1)).length<1000000:=by rw[he,List.length_eraseIdx];split<;>omega
 have heb:M7 (l.take at_.toNat++(l.take l.length).drop (at_.toNat+1)):=by rw[he];exact fun x hx=>hb x (List.mem_of_mem_eraseIdx hx)
 refine rd qq ?_;conv=>whnf
 refine Bn (Ak [(0,55)] E F179 (Apf _ hel heb) E Y E ⟨.inr E,Y⟩) qq E ?_
 refine rd qq ?_;conv=>whnf
 refine⟨qq,?_⟩
 conv=>whnf
 refine Au 55 E ?_
 refine Ac E (.cons (.cell E E E E) (.cons .tmp (.cons .tmp .nil))) ?_ E
 subst hres
 show SV.tup [_,.sl 7 Bo (l.eraseIdx at_.toNat),_]=SV.tup [_,.sl 7 Bo (l.take at_.toNat++(l.take l.length).drop (at_.toNat+1)),_]
 rw[he]
 rfl
def Ep {α:Type} (q:α→Bool) (l:List α):Nat→Nat
 | 0=>0
 | j+1=>match l[j]? with
  | some x=>if q x=true then Ep q l j+1 else Ep q l j
  | none=>Ep q l j
def dfC {α:Type} (q:α→Bool) (l:List α):Nat→List α
 | 0=>l
 | j+1=>match l[j]? with
  | some x=>if q x=true then (dfC q l j).set (Ep q l j) x else dfC q l j
  | none=>dfC q l j
theorem Wd {α:Type} (q:α→Bool) (l:List α) (j:Nat):Ep q l j≤j:=by
 induction j with
 | zero=>exact Nat.le_refl _
 | succ j ih =>
  simp only[Ep]
  split
  ·split<;>omega
  ·omega
theorem Q0 {α:Type} (q:α→Bool) (l:List α) (j:Nat):(dfC q l j).length=l.length:=by
 induction j with
 | zero=>rfl
 | succ j ih =>
  simp only[dfC]
  split
  ·split
   ·rw[List.length_set];exact ih
   ·exact ih
  ·exact ih
theorem Aia {α:Type} (q:α→Bool) (l:List α) (j k:Nat) (h:j≤k):(dfC q l j)[k]? = l[k]?:=by
 induction j with
 | zero=>rfl
 | succ j ih =>
  simp only[dfC]
  split
  ·split
   ·rw[List.getElem?_set_ne (by have:=Wd q l j;omega)];exact ih qn
   ·exact ih qn
  ·exact ih qn
theorem Aek {α:Type} (q:α→Bool) (l:List α) (j:Nat) (h:j≤l.length):(dfC q l j).take (Ep q l j)=(l.take j).filter q:=by
 induction j with
 | zero=>rfl
 | succ j ih =>
  have hj:j<l.length:=by omega
  have ih:=ih qn
  have hc:=Wd q l j
  simp only[dfC,Ep,List.getElem?_eq_getElem hj]
  rw[List.take_add_one,List.getElem?_eq_getElem hj,List.filter_append]
  by_cases hq:q l[j]=true
  ·rw[if_pos hq,if_pos hq]
   have hlt:Ep q l j<((dfC q l j).set (Ep q l j) l[j]).length:=by rw[List.length_set,Q0];omega
   rw[List.take_add_one,List.getElem?_eq_getElem hlt,List.getElem_set_self]
   rw[List.take_set_of_le (Nat.le_refl _),ih]
   simp[hq]
  ·rw[if_neg hq,if_neg hq,ih]
   simp[hq]
theorem Z5 {α:Type} (q:α→Bool) (l:List α) (i:Nat) (hi:i≤l.length) (h:∀ k (hk:k<l.length),k<i→q l[k]=true):dfC q l i=l∧Ep q l i=i:=by
 induction i with
 | zero=>exact⟨rfl,rfl⟩
 | succ i ih =>
  obtain ⟨h1,h2⟩:=ih qn (fun k hk hki=>h k hk qn)
  have hil:i<l.length:=by omega
  simp only[dfC,Ep,List.getElem?_eq_getElem hil]
  rw[if_pos (h i hil qn),if_pos (h i hil qn),h1,h2]
  exact⟨List.set_getElem_self hil,E⟩
theorem Ll {α:Type} (p:α→Bool) (l:List α):(Ct p l=-1∧∀ x∈l,p x=false)∨∃ (i:Nat) (hi:i<l.length),Ct p l=i∧p l[i]=true∧∀ k (hk:k<l.length),k<i→p l[k]=false:=by
 unfold Ct
 cases h:l.findIdx? p with
 | none=>exact .inl ⟨rfl,by simpa using h⟩
 | some i =>
  rw[List.findIdx?_eq_some_iff_getElem]at h
  obtain ⟨hi,h1,h2⟩:=h
  exact .inr ⟨i,hi,E,h1,fun k hk hki=>by simpa using h2 k hki⟩
theorem My (l:List EntryM) (hl:l.length<2147483648):Sy.Spec Tryz.prog 243 [.sl 3 A0 l] [] (.osl 0) [(0,.row 3 A0 l)]:=Ab Γ hm 100 F243 Tryz.ntmps243 rfl fun F hF=>by
 conv=>whnf
 refine Eg E (.inl E) E E E .sl E E ?_
 intro b hb
 cases b
 ·(refine rg ?_;(conv=>whnf);refine aF ?_;refine rg ?_;conv=>whnf)
  refine Ai (Am Γ.toTy 7 E E E E E (.lit (e:=A0) (l:=[]) E E) .sl qy (by simp;omega) (by simp;omega)) E E ?_
  refine rg ?_;conv=>whnf
  exact done E (.cons .tmp .nil) [(0,7)] [(0,.row 3 A0 l)] (fun _ h=>h) E E ⟨Y,⟨.inl E,E,Y⟩,E,E⟩
 ·have h0:l=[]:=List.eq_nil_of_length_eq_zero (hb rfl)
  subst h0
  (refine rg ?_;(conv=>whnf);refine aT ?_;refine rg ?_;conv=>whnf)
  refine B7 2 1000 3 A0 E E ?_
  exact done E (.cons .tmp .nil) [(0,1000)] [(0,.row 3 A0 [])] (fun _ h=>h) E E ⟨Y,⟨.inl E,E,Y⟩,E,E⟩
theorem Kp (l:List EntryM) (p:EntryM→Bool) (f:FuncId) (first cap:List SV) (hc:(SV.clo (.func f) first cap).inn []=true) (hf:∀ x∈l,Hz Tryz.prog f (first++[A0 x]++cap) (Ad (p x))) (hl:An l) :
  Sy.Spec Tryz.prog 310 [.sl 3 A0 l,.clo (.func f) first cap] [] (Aa (Ct p l)) []:=Ab Γ hm 100 F310 Tryz.ntmps310 rfl fun F hF=>by
 unfold An at hl
 have hin:∀ x:EntryM,B8 [] (first++[A0 x]++cap)=true:=fun x=>Cr hc rfl
 conv=>whnf
 refine Ay l.length (fun j=>Dk (fun _ x=>!(p x)) l j) (fun j=>[(0,.sl 3 A0 l),(1,.clo (.func f) first cap),(7,Aa l.length),(8,Aa j)]) (fun _=>[]) [] (A2 _ _) ⟨⟨E,E,Bb _,hc,E,E,E,E,Y⟩,Y,E,E⟩ ?_
 intro j hj hI
 refine rg ?_;conv=>whnf
 refine⟨fun h=>?_,fun h=>?_⟩
 ·have h:=of_decide_eq_true h
  have hj2:j<l.length:=by omega
  refine rg ?_;conv=>whnf
  refine⟨E,by omega,by omega,?_⟩
  conv=>whnf
  refine D7 (hf l[j] (List.getElem_mem hj2)) E E E (by simp only[hin];rfl) E E ?_
  refine rg ?_;conv=>whnf
  refine⟨fun h2=>?_,fun h2=>?_⟩
  ·refine rg ?_;conv=>whnf
   refine Ac E (.cons .tmp .nil) (congrArg Aa ?_) E
   exact Dh hj2 (fun i hi hij=>by simpa using hI i hi hij) h2
  ·refine rg ?_;conv=>whnf
   refine⟨by unfold I64;omega,?_⟩
   conv=>whnf
   exact Av [] hI hj2 (Ax hI hj2 (by simp[h2])) ⟨⟨E,E,Bb _,hc,E,E,E,E,Y⟩,Y,E,E⟩
 ·have h:=of_decide_eq_false h
  refine rg ?_;conv=>whnf
  refine Ac E (.cons .tmp .nil) (congrArg Aa ?_) E
  exact Ea (fun i hi=>by simpa using hI i hi qn)
theorem Tn (l:List EntryM) (p:EntryM→Bool) (f:FuncId) (first cap:List SV) (hc:(SV.clo (.func f) first cap).inn []=true) (hc0:(SV.clo (.func f) first cap).inn [0]=true) (hf:∀ x∈l,Hz Tryz.prog f (first++[A0 x]++cap) (Ad (p x))) (hl:An l) :
  Sy.Spec Tryz.prog 245 [.osl 0,.clo (.func f) first cap] [(0,.row 3 A0 l)] (.osl 1) [(0,.non),(1,.row 3 A0 (l.filter fun x=>!(p x)))]:=Ab Γ hm 100 F245 Tryz.ntmps245 rfl fun F hF=>by
 have qi:=Kp l p f first cap hc hf hl
 unfold An at hl
 have hin:∀ x:EntryM,B8 [] (first++[A0 x]++cap)=true:=fun x=>Cr hc rfl
 conv=>whnf
 refine Aes [0] qi F310 E (.cons (.row E E) (.cons (.refl _) .nil)) (by simp only[B8,hc,Bool.and_true];rfl) E E ?_
 rcases Ll p l with ⟨h1,h2⟩ | ⟨i,hi,h1,h2,h3⟩
 ·rw[h1]
  have e1:(l.filter fun x=>!(p x))=l:=List.filter_eq_self.2 (fun x hx=>by simp[h2 x hx])
  rw[e1]
  (refine rg ?_;(conv=>whnf);refine aT ?_;refine rg ?_;conv=>whnf)
  refine Ahg 0 1000 [0,4] E E qx (by simp;exact⟨E,E⟩) ?_
  exact done E (.cons .tmp .nil) [(0,0),(1,1000)] _ (fun _ h=>h) E E ⟨Y,⟨.inl E,E,.inl E,E,Y⟩,E,E⟩
 obtain ⟨f1,f2⟩:=Z5 (fun x=>!(p x)) l i qn (fun k hk hki=>by simp[h3 k hk hki])
 have g1:dfC (fun x=>!(p x)) l (i+1+0)=l:=by
  show dfC (fun x=>!(p x)) l (i+1)=l
  simp only[dfC,List.getElem?_eq_getElem hi]
  rw[if_neg (by simp[h2]),f1]
 have g2:Ep (fun x=>!(p x)) l (i+1+0)=i:=by
  show Ep (fun x=>!(p x)) l (i+1)=i
  simp only[Ep,List.getElem?_eq_getElem hi]
  rw[if_neg (by simp[h2]),f2]
 rw[h1]
 (refine rg ?_;(conv=>whnf);refine aF ?_;refine rg ?_;conv=>whnf)
 refine⟨by unfold I64;omega,?_⟩
 conv=>whnf
 refine Aw (l.length-(i+1)) (fun j=>[(0,.osl 0),(1,.clo (.func f) first cap),(5,Aa (Ep (fun x=>!(p x)) l (i+1+j))),(6,Aa ((i+1+j:Nat)))]) (fun j=>[(0,.row 3 A0 (dfC (fun x=>!(p x)) l (i+1+j)))]) []
  ⟨⟨rfl,rfl,Bb _,hc0,congrArg Aa (congrArg Int.ofNat g2),rfl,congrArg (fun z=>SV.val (.int .i64 z)) qn,rfl,trivial⟩,⟨.inl (congrArg (Ob.row 3 A0) g1),rfl,trivial⟩,rfl,rfl⟩ ?_
 intro j hj
 have hcl:=Wd (fun x=>!(p x)) l (i+1+j)
 have hdl:=Q0 (fun x=>!(p x)) l (i+1+j)
 have hget:=Aia (fun x=>!(p x)) l (i+1+j) (i+1+j) (Nat.le_refl _)
 have s1:∀ h:i+1+j<l.length,Ep (fun x=>!(p x)) l (i+1+(j+1))=if (!(p l[i+1+j]))=true then Ep (fun x=>!(p x)) l (i+1+j)+1 else Ep (fun x=>!(p x)) l (i+1+j):=fun hlt=>by
  show Ep (fun x=>!(p x)) l (i+1+j+1)=_
  simp only[Ep,List.getElem?_eq_getElem hlt]
 have s2:∀ h:i+1+j<l.length,dfC (fun x=>!(p x)) l (i+1+(j+1))=if (!(p l[i+1+j]))=true then (dfC (fun x=>!(p x)) l (i+1+j)).set (Ep (fun x=>!(p x)) l (i+1+j)) l[i+1+j] else dfC (fun x=>!(p x)) l (i+1+j):=fun hlt=>by
  show dfC (fun x=>!(p x)) l (i+1+j+1)=_
  simp only[dfC,List.getElem?_eq_getElem hlt]
 have htk:=fun h=>Aek (fun x=>!(p x)) l (i+1+j) h
 obtain ⟨D,hD⟩:∃ D,dfC (fun x=>!(p x)) l (i+1+j)=D:=⟨_,rfl⟩
 obtain ⟨K,hK⟩:∃ K,Ep (fun x=>!(p x)) l (i+1+j)=K:=⟨_,rfl⟩
 rw[hD]at hdl hget s2 htk ⊢
 rw[hK]at hcl s1 s2 htk ⊢
 refine rg ?_;conv=>whnf
 refine⟨fun h=>?_,fun h=>?_⟩
 ·have hlt:i+1+j<l.length:=by have:=of_decide_eq_true h;omega
  have hfx:=hf l[i+1+j] (List.getElem_mem hlt)
  have s1:=s1 hlt
  have s2:=s2 hlt
  rw[List.getElem?_eq_getElem hlt,List.getElem?_eq_getElem qn]at hget
  have hget:=Option.some.inj hget
  obtain ⟨x,hx⟩:∃ x,l[i+1+j]=x:=⟨_,rfl⟩
  rw[hx]at hfx s1 s2 hget
  refine rg ?_;conv=>whnf
  refine⟨by omega,by simp;omega,?_⟩
  conv=>whnf
  refine⟨E,by omega,?_⟩
  rw[show D[((i+1+j:Nat):Int).toNat]'qn=x from hget]
  conv=>whnf
  refine D7 hfx E E E (by simp only[hin];rfl) E E ?_
  cases hpx:p x
  ·rw[hpx]at s1 s2
   (refine rg ?_;(conv=>whnf);refine aT ?_;refine rg ?_;conv=>whnf)
   refine⟨by omega,by simp;omega,?_⟩
   conv=>whnf
   refine⟨E,by omega,x,E,E,?_⟩
   conv=>whnf
   refine⟨by unfold I64;omega,?_⟩
   conv=>whnf
   refine⟨by unfold I64;omega,?_⟩
   conv=>whnf
   exact Ar [] qn ⟨⟨E,E,Bb _,hc0,congrArg Aa (congrArg Int.ofNat s1),E,congrArg (fun z=>SV.val (.int .i64 z)) qn,E,Y⟩,⟨.inl (congrArg (Ob.row 3 A0) s2),E,Y⟩,E,E⟩
  ·rw[hpx]at s1 s2
   (refine rg ?_;(conv=>whnf);refine aF ?_;refine rg ?_;conv=>whnf)
   refine⟨by unfold I64;omega,?_⟩
   conv=>whnf
   exact Ar [] qn ⟨⟨E,E,Bb _,hc0,congrArg Aa (congrArg Int.ofNat s1),E,congrArg (fun z=>SV.val (.int .i64 z)) qn,E,Y⟩,⟨.inl (congrArg (Ob.row 3 A0) s2),E,Y⟩,E,E⟩
 ·have hend:i+1+j=l.length:=by have:=of_decide_eq_false h;omega
  have hne:D≠[]:=fun h=>by rw[h]at hdl;simp at hdl;omega
  have htk:=htk qn
  rw[show l.take (i+1+j)=l from List.take_of_length_le qn]at htk
  refine Aii 0 [0] E hne (by simp;rfl) ?_
  intro b cap' hcap
  refine rg ?_;conv=>whnf
  refine Ai (Cz Γ.toTy E E E E (.inr ⟨_,_,E,E⟩) (.inl ⟨E,E⟩) qn qn) E E ?_
  refine rg ?_;conv=>whnf
  refine Ai (Jj Γ.toTy 0 (k:=K) E E E E qx E E E qn qn) E E ?_
  refine rg ?_;conv=>whnf
  refine Ai (Cz Γ.toTy E E E E (.inl ⟨E,E⟩) (.inr ⟨_,_,E,E⟩) qn qn) E E ?_
  refine rg ?_;conv=>whnf
  refine We 0 1000 [4] K E E (by rw[List.length_take];omega) (fun i hi=>?_) ?_
  ·rw[List.mem_singleton]at hi
   subst hi
   show SV.val (.slice (some (if cap'=0 then ⟨b,0,none⟩ else ⟨b,0 * 3,none⟩)) (K-0) (cap'-0))=_
   split<;>simp
  refine done E (.cons .tmp .nil) [(0,0),(1,1000)] _ (fun _ h=>h) E E ⟨Y,⟨.inl E,E,.inl ?_,E,Y⟩,E,E⟩
  rw[← htk]
  exact congrArg (Ob.row 3 A0) (by rw[List.take_take,Nat.min_self])
theorem Y5 (l:List EntryM) (i:Nat) (hi:i<l.length) (hl:An l) :
  Sy.Spec Tryz.prog 344 [.osl 0,Aa i,Aa ((i+1:Nat):Int)] [(0,.row 3 A0 l)] (.osl 1) [(0,.non),(1,.row 3 A0 (l.take i++l.drop (i+1)))]:=Ab Γ hm 100 F344 Tryz.ntmps344 rfl fun F hF=>by
 unfold An at hl
 have hne:l≠[]:=fun h=>by rw[h]at hi;simp at hi
 conv=>whnf
 refine Aii 0 [0,8] E hne (by simp;exact⟨E,E⟩) ?_
 intro b cap hcap
 refine rg ?_;conv=>whnf
 refine Ai (Yx Γ.toTy E E E E E E E qn qn hcap) E E ?_
 refine rg ?_;conv=>whnf
 refine⟨fun h=>absurd h (by simp;omega),fun _=>?_⟩
 refine rg ?_;conv=>whnf
 refine Bn (Cz Γ.toTy E E E E (.inl ⟨E,E⟩) (.inr ⟨_,_,E,E⟩) qn qn) qq E ?_
 refine rd qq ?_;conv=>whnf
 refine Bn (Cz (hi:=l.length) Γ.toTy E E E E (.inr ⟨_,_,E,E⟩) (.inl ⟨E,E⟩) qn qn) qq E ?_
 refine rd qq ?_;conv=>whnf
 have hif:(if cap=0 then (⟨b,0,none⟩:Addr) else ⟨b,0 * 3,none⟩)=⟨b,0,none⟩:=by split<;>simp
 refine Bn (V0 Γ.toTy 0 (n:=l.length) (i:=i) (j:=i+1) E E E (congrArg (fun z=>SV.val (.slice (some z) i cap)) hif) E E E E qn qn) qq E ?_
 refine rd qq ?_;conv=>whnf
 refine⟨qq,?_⟩
 conv=>whnf
 refine Ai (Cz (lo:=i+(l.length-(i+1))) (hi:=l.length) Γ.toTy E E E E (.inr ⟨_,_,E,E⟩) (.inr ⟨_,_,E,E⟩) qn qn) E E ?_
 refine rg ?_;conv=>whnf
 have hll:(l.take i++l.drop (i+1)).length=i+(l.length-(i+1)):=by rw[List.length_append,List.length_take,List.length_drop];omega
 refine Ai (Jj Γ.toTy 0 (k:=i+(l.length-(i+1))) E E E E qx E E E qn qn) E E ?_
 refine rg ?_;conv=>whnf
 refine We 0 1000 [6] (i+(l.length-(i+1))) E E (by rw[List.length_take];omega) (by simp;rfl) ?_
 refine done E (.cons .tmp .nil) [(0,0),(1,1000)] _ (fun _ h=>h) E E ⟨Y,⟨.inl E,E,.inl ?_,E,Y⟩,E,E⟩
 exact congrArg (Ob.row 3 A0) (by rw[List.take_take,Nat.min_self];exact(List.take_of_length_le qn).symm)
theorem Uw (m:Nat) (h:m<18446744073709551616):Sy.Spec Tryz.prog 294 [Bf m] [] (Ad (Ie m)) []:=Ab Γ hm 100 F294 Tryz.ntmps294 rfl fun F hF=>by
 have q:=Kn m h
 conv=>whnf
 refine⟨fun h1=>?_,fun h1=>?_⟩
 ·have h2:m≤281474976710655:=by simp at h1;omega
  refine rg ?_;conv=>whnf
  refine Ag q F226 E E E E E ?_
  refine rg ?_;conv=>whnf
  exact Ac E (.cons .tmp .nil) (congrArg Ad (by rw[Ie,decide_eq_true h2,Bool.true_and])) E
 ·have h2:¬ m≤281474976710655:=by simp at h1;omega
  refine rg ?_;conv=>whnf
  exact Ac E (.cons .tmp .nil) (congrArg Ad (by rw[Ie,decide_eq_false h2,Bool.false_and])) E
theorem Ql (i:Int):Sy.Spec Tryz.prog 244 [Aa i] [] (Ad (Hn i)) []:=Ab Γ hm 100 F244 Tryz.ntmps244 rfl fun F hF=>by
 conv=>whnf
 (repeat' (first | (refine⟨fun h=>?_,fun h=>?_⟩<;>(repeat (first | simp only[decide_eq_true_eq]at h | simp only[decide_eq_false_iff_not]at h))<;>((refine rg ?_);(conv=>whnf))) | (refine Ac rfl (.cons .tmp .nil) ?_ rfl)))
 all_goals (refine congrArg Ad ?_)
 all_goals grind [Hn]
theorem Aip (m:Nat) (e:EntryM):Sy.Spec Tryz.prog 342 [A0 e,.ref 1 (Bf m) 0] [] (Ad (decide (e.mac=m))) []:=Ab Γ hm 100 F342 Tryz.ntmps342 rfl fun F hF=>by
 conv=>whnf
 refine Ac E (.cons .tmp .nil) ?_ E
 refine congrArg Ad ?_
 rw[Bool.eq_iff_iff];simp;omega
theorem Ua (t:List EntryM) (m:Nat) (hl:An t):Sy.Spec Tryz.prog 295 [.sl 3 A0 t,Bf m] [] (Aa (El t m)) []:=Ab Γ hm 100 F295 Tryz.ntmps295 rfl fun F hF=>by
 have q:=Kp t (fun e=>decide (e.mac=m)) 342 [] [.ref 1 (Bf m) 0] rfl (fun x _=>⟨⟨_,_,F342⟩,Aip m x⟩) hl
 conv=>whnf
 refine A3 3 1 (Bf m) E E E ?_
 refine rg ?_;conv=>whnf
 refine Ag q F310 E E E E E ?_
 refine rg ?_;conv=>whnf
 exact Ac E (.cons .tmp .nil) E E
theorem Alf (t:List EntryM) (m:Nat) (hl:An t):Sy.Spec Tryz.prog 349 [.sl 3 A0 t,Bf m] [] (.tup [Aa (findE t m).1,Ad (findE t m).2]) []:=Ab Γ hm 100 F349 Tryz.ntmps349 rfl fun F hF=>by
 have q:=Ua t m hl
 have hlt:El t m<t.length:=E9 _ _
 have hres:=findE.eq_1 t m
 generalize findE t m=res at *
 generalize El t m=i at *
 conv=>whnf
 refine Ag q F295 E E E E E ?_
 refine rg ?_;conv=>whnf
 refine⟨fun h=>?_,fun h=>?_⟩
 ·rw[if_pos (by simpa using h)]at hres
  subst hres
  refine rg ?_;conv=>whnf
  exact Ac E (.cons .tmp (.cons .tmp .nil)) E E
 ·have h0:¬ i<0:=by simpa using h
  have hi:i.toNat<t.length:=by omega
  rw[if_neg h0,List.getElem?_eq_getElem hi]at hres
  subst hres
  refine rg ?_;conv=>whnf
  refine⟨E,by omega,by omega,?_⟩
  conv=>whnf
  exact Ac E (.cons .tmp (.cons .tmp .nil)) E E
theorem T9 (t:List EntryM) (hl:An t) (hmac:∀ e∈t,e.mac<18446744073709551616):Sy.Spec Tryz.prog 230 [.sl 3 A0 t] [] (Ad (tableB t)) []:=Ab Γ hm 100 F230 Tryz.ntmps230 rfl fun F hF=>by
 unfold An at hl
 have hres:=tableB.eq_1 t
 generalize tableB t=res at *
 conv=>whnf
 refine⟨fun h=>?_,fun h=>?_⟩
 ·have h8:¬ t.length≤8:=by simp at h;omega
  rw[decide_eq_false h8,Bool.false_and]at hres
  subst hres
  refine rg ?_;conv=>whnf
  exact Ac E (.cons .tmp .nil) E E
 have h8:t.length≤8:=by simp at h;omega
 rw[decide_eq_true h8,Bool.true_and]at hres
 refine rg ?_;conv=>whnf
 refine Ay t.length (fun j=>Dk (Ut t) t j) (fun j=>[(0,.sl 3 A0 t),(8,.sl 3 A0 t),(9,Aa t.length),(10,Aa j)]) (fun _=>[]) [] (A2 _ _) ⟨⟨E,E,E,E,E,E,E,E,Y⟩,Y,E,E⟩ ?_
 intro j hj hI
 refine rg ?_;conv=>whnf
 refine⟨fun h=>?_,fun h=>?_⟩
 ·have hlt:j<t.length:=by have:=of_decide_eq_true h;omega
  have q1:=Uw t[j].mac (hmac _ (List.getElem_mem hlt))
  have q2:=Ql t[j].seen
  have q3:=Ua t t[j].mac hl
  have hent:Ut t j t[j]=(Ie t[j].mac && Hn t[j].seen && decide (El t t[j].mac=j)):=rfl
  have hbad:Ut t j t[j]=false→res=false:=fun hf=>by rw[hres];exact A8 hlt hf
  have hgood:Ut t j t[j]=true→Dk (Ut t) t (j+1):=fun ht=>Ax hI hlt ht
  refine rg ?_;conv=>whnf
  refine⟨E,by omega,by omega,?_⟩
  rw[show t[((j:Nat):Int).toNat]'qn=t[j] from rfl]
  generalize t[j]=x at *
  conv=>whnf
  refine Ag q1 F294 E E E E E ?_
  cases h1:Ie x.mac
  ·rw[hbad (by rw[hent,h1];rfl)]
   (refine rg ?_;(conv=>whnf);refine aT ?_;refine rg ?_;(conv=>whnf);refine aT ?_;refine rg ?_;(conv=>whnf);refine aT ?_;refine rg ?_;conv=>whnf)
   exact Ac E (.cons .tmp .nil) E E
  (refine rg ?_;(conv=>whnf);refine aF ?_;refine rg ?_;conv=>whnf)
  refine Ag q2 F244 E E E E E ?_
  cases h2:Hn x.seen
  ·rw[hbad (by rw[hent,h1,h2];rfl)]
   (refine rg ?_;(conv=>whnf);refine aT ?_;refine rg ?_;(conv=>whnf);refine aT ?_;refine rg ?_;conv=>whnf)
   exact Ac E (.cons .tmp .nil) E E
  (refine rg ?_;(conv=>whnf);refine aF ?_;refine rg ?_;conv=>whnf)
  refine Ag q3 F295 E E E E E ?_
  refine rg ?_;conv=>whnf
  refine⟨fun h3=>?_,fun h3=>?_⟩
  ·rw[hbad (by rw[hent,h1,h2,decide_eq_false (by simpa using h3)];rfl)]
   refine rg ?_;conv=>whnf
   exact Ac E (.cons .tmp .nil) E E
  ·have h4:=hgood (by rw[hent,h1,h2,decide_eq_true (by simpa using h3)];rfl)
   refine rg ?_;conv=>whnf
   refine⟨by unfold I64;omega,?_⟩
   conv=>whnf
   exact Av [] hI qn h4 ⟨⟨E,E,E,E,E,E,E,E,Y⟩,Y,E,E⟩
 ·have hend:j=t.length:=by have:=of_decide_eq_false h;omega
  subst hend
  rw[hres.trans (B6 hI (Nat.le_refl _))]
  refine rg ?_;conv=>whnf
  exact Ac E (.cons .tmp .nil) E E
theorem Aob (now:Int) (hn:Hn now=true) (e:EntryM):Sy.Spec Tryz.prog 246 [A0 e,.ref 1 (Aa now) 0] [] (Ad (decide (e.seen<now-4))) []:=Ab Γ hm 100 F246 Tryz.ntmps246 rfl fun F hF=>by
 have hn2:0≤now∧now≤1099511627776:=by simpa [Hn] using hn
 conv=>whnf
 refine⟨by unfold I64;omega,?_⟩
 conv=>whnf
 exact Ac E (.cons .tmp .nil) E E
theorem Aoa (t:List EntryM) (now:Int) (hl:An t) (hmac:∀ e∈t,e.mac<18446744073709551616):Sy.Spec Tryz.prog 178 [.sl 3 A0 t,Aa now] [] (.sl 3 A0 (ageT t now)) []:=Ab Γ hm 100 F178 Tryz.ntmps178 rfl fun F hF=>by
 have hl2:=hl
 unfold An at hl2
 have hres:=ageT.eq_1 t now
 generalize ageT t now=res at *
 have q1:=T9 t hl hmac
 have q2:=Ql now
 conv=>whnf
 refine Ai (Ak [(0,55)] E F243 (My t hl2) E Y E ⟨.inr E,Y⟩) E E ?_
 refine rg ?_;conv=>whnf
 refine Ag q1 F230 E E E E E ?_
 cases h1:tableB t
 ·rw[if_pos (.inl h1)]at hres
  subst hres
  (refine rg ?_;(conv=>whnf);refine aT ?_;refine rg ?_;(conv=>whnf);refine aT ?_;refine rg ?_;conv=>whnf)
  refine Au 55 E ?_
  exact Ac E (.cons .tmp .nil) E E
 (refine rg ?_;(conv=>whnf);refine aF ?_;refine rg ?_;conv=>whnf)
 refine Ag q2 F244 E E E E E ?_
 cases h2:Hn now
 ·rw[if_pos (.inr h2)]at hres
  subst hres
  (refine rg ?_;(conv=>whnf);refine aT ?_;refine rg ?_;conv=>whnf)
  refine Au 55 E ?_
  exact Ac E (.cons .tmp .nil) E E
 rw[if_neg (by simp[h1,h2])]at hres
 (refine rg ?_;(conv=>whnf);refine aF ?_;refine rg ?_;conv=>whnf)
 refine A3 3 1 (Aa now) E E E ?_
 refine rg ?_;conv=>whnf
 have q3:=Tn t (fun e=>decide (e.seen<now-4)) 246 [] [.ref 1 (Aa now) 0] rfl rfl (fun x _=>⟨⟨_,_,F246⟩,Aob now h2 x⟩) hl
 refine Ai (Ak [(0,55),(1,56)] E F245 q3 E ⟨E,Y⟩ E ⟨.inl E,.inr E,Y⟩) E E ?_
 refine rg ?_;conv=>whnf
 refine Au 56 E ?_
 refine Ac E (.cons .tmp .nil) ?_ E
 subst hres
 refine congrArg (SV.sl 3 A0) (List.filter_congr fun e _=>?_)
 rw[Bool.eq_iff_iff];simp
theorem Xh (t:List EntryM) (j:Nat) (h:0<t.length) (hj:j≤t.length):oldestU t j<t.length:=by
 induction j with
 | zero=>exact h
 | succ j ih =>
  rw[oldestU]
  split
  ·omega
  ·exact ih qn
theorem Afc (t:List EntryM) (hl:An t) (h0:0<t.length):Sy.Spec Tryz.prog 343 [.sl 3 A0 t] [] (Aa (oldestU t t.length:Nat)) []:=Ab Γ hm 100 F343 Tryz.ntmps343 rfl fun F hF=>by
 unfold An at hl
 conv=>whnf
 refine Aw t.length (fun j=>[(0,.sl 3 A0 t),(3,Aa (oldestU t j:Nat)),(6,.sl 3 A0 t),(7,Aa t.length),(8,Aa j)]) (fun _=>[]) [] ⟨⟨E,E,E,E,E,E,E,E,E,E,Y⟩,Y,E,E⟩ ?_
 intro j hj
 refine rg ?_;conv=>whnf
 refine⟨fun h=>?_,fun h=>?_⟩
 ·have hlt:j<t.length:=by have:=of_decide_eq_true h;omega
  have hol:=Xh t j h0 qn
  have hs:=oldestU.eq_2 t j
  rw[List.getElem?_eq_getElem hlt,List.getElem?_eq_getElem hol]at hs
  obtain ⟨o,ho⟩:∃ o,oldestU t j=o:=⟨_,rfl⟩
  simp only[ho]at hs hol ⊢
  have hs2:oldestU t (j+1)=if t[j].seen<t[o].seen then j else o:=hs
  refine rg ?_;conv=>whnf
  refine⟨E,by omega,by omega,?_⟩
  rw[show t[((j:Nat):Int).toNat]'qn=t[j] from rfl]
  conv=>whnf
  refine⟨E,by omega,by omega,?_⟩
  rw[show t[((o:Nat):Int).toNat]'qn=t[o] from rfl]
  conv=>whnf
  refine⟨qq,?_⟩
  conv=>whnf
  refine⟨fun h2=>?_,fun h2=>?_⟩
  ·rw[if_pos (of_decide_eq_true h2)]at hs2
   refine rg ?_;conv=>whnf
   refine⟨by unfold I64;omega,?_⟩
   conv=>whnf
   exact Ar [] qn ⟨⟨E,E,congrArg (fun z:Nat=>Aa z) hs2,E,E,E,E,E,E,E,Y⟩,Y,E,E⟩
  ·rw[if_neg (of_decide_eq_false h2)]at hs2
   refine rg ?_;conv=>whnf
   refine⟨by unfold I64;omega,?_⟩
   conv=>whnf
   exact Ar [] qn ⟨⟨E,E,congrArg (fun z:Nat=>Aa z) hs2,E,E,E,E,E,E,E,Y⟩,Y,E,E⟩
 ·have:j=t.length:=by have:=of_decide_eq_false h;omega
  subst this
  refine rg ?_;conv=>whnf
  exact Ac E (.cons .tmp .nil) E E
theorem Zd (t:List EntryM) (m:Nat) (wh now:Int) (hl:An t) (hmac:∀ e∈t,e.mac<18446744073709551616) (hm64:m<18446744073709551616) :
  Sy.Spec Tryz.prog 296 [.sl 3 A0 t,Bf m,Aa wh,Aa now] [] (.sl 3 A0 (learnT t m wh now)) []:=Ab Γ hm 100 F296 Tryz.ntmps296 rfl fun F hF=>by
 have hl2:=hl
 unfold An at hl2
 have hres:=learnT.eq_1 t m wh now
 generalize learnT t m wh now=res at *
 have q1:=T9 t hl hmac
 have q2:=Uw m hm64
 have q3:=Ql now
 have q4:=Ua t m hl
 conv=>whnf
 refine Ai (Ak [(0,55)] E F243 (My t hl2) E Y E ⟨.inr E,Y⟩) E E ?_
 refine rg ?_;conv=>whnf
 refine Ag q1 F230 E E E E E ?_
 cases h1:tableB t
 ·rw[if_pos (.inl h1)]at hres
  subst hres
  (refine rg ?_;(conv=>whnf);refine aT ?_;refine rg ?_;(conv=>whnf);refine aT ?_;refine rg ?_;(conv=>whnf);refine aT ?_;refine rg ?_;conv=>whnf)
  refine Au 55 E ?_
  exact Ac E (.cons .tmp .nil) E E
 (refine rg ?_;(conv=>whnf);refine aF ?_;refine rg ?_;conv=>whnf)
 refine Ag q2 F294 E E E E E ?_
 cases h2:Ie m
 ·rw[if_pos (.inr (.inl h2))]at hres
  subst hres
  (refine rg ?_;(conv=>whnf);refine aT ?_;refine rg ?_;(conv=>whnf);refine aT ?_;refine rg ?_;conv=>whnf)
  refine Au 55 E ?_
  exact Ac E (.cons .tmp .nil) E E
 (refine rg ?_;(conv=>whnf);refine aF ?_;refine rg ?_;conv=>whnf)
 refine Ag q3 F244 E E E E E ?_
 cases h3:Hn now
 ·rw[if_pos (.inr (.inr h3))]at hres
  subst hres
  (refine rg ?_;(conv=>whnf);refine aT ?_;refine rg ?_;conv=>whnf)
  refine Au 55 E ?_
  exact Ac E (.cons .tmp .nil) E E
 rw[if_neg (by simp[h1,h2,h3])]at hres
 have ht8:t.length≤8:=by simp only[tableB,Bool.and_eq_true,decide_eq_true_eq]at h1;exact h1.1
 have hfound:∀ hi:0≤El t m,∃ h:(El t m).toNat<t.length,t[(El t m).toNat].mac=m:=fun hi=>by
  rcases Ll (fun e=>decide (EntryM.mac e=m)) t with ⟨h,_⟩ | ⟨k,hk,h,h2,_⟩
  ·rw[El,h]at hi
   exact absurd hi qx
  ·have e1:El t m=k:=h
   simp only[e1,Int.toNat_natCast]
   exact⟨hk,of_decide_eq_true h2⟩
 generalize El t m=i at *
 (refine rg ?_;(conv=>whnf);refine aF ?_;refine rg ?_;conv=>whnf)
 refine Ag q4 F295 E E E E E ?_
 refine rg ?_;conv=>whnf
 refine⟨fun h4=>?_,fun h4=>?_⟩
 ·have h5:0≤i:=by simpa using h4
  obtain ⟨hi,hmm⟩:=hfound h5
  rw[if_pos h5]at hres
  refine rg ?_;conv=>whnf
  have hne:t≠[]:=fun h=>by rw[h]at hi;simp at hi
  refine⟨h5,by omega,?_⟩
  conv=>whnf
  refine⟨hne,?_⟩
  conv=>whnf
  refine⟨E,hi,⟨t[i.toNat].mac,wh,t[i.toNat].seen⟩,E,E,?_⟩
  conv=>whnf
  refine⟨h5,by simp;omega,?_⟩
  conv=>whnf
  refine⟨by simp;exact hne,?_⟩
  conv=>whnf
  refine⟨E,by simp;omega,⟨t[i.toNat].mac,wh,now⟩,by rw[List.getElem_set_self];rfl,by rw[List.getElem_set_self];rfl,?_⟩
  conv=>whnf
  refine Au 55 E ?_
  refine rg ?_;conv=>whnf
  refine Ac E (.cons .tmp .nil) (congrArg (SV.sl 3 A0) ?_) E
  rw[hres,List.set_set,hmm]
 ·have h5:¬ 0≤i:=by simp at h4 ⊢;omega
  rw[if_neg h5]at hres
  refine rg ?_;conv=>whnf
  refine⟨fun h6=>?_,fun h6=>?_⟩
  ·have h7:t.length=8:=by simp at h6;omega
   rw[if_pos h7]at hres
   have q5:=Afc t hl qn
   have hol:=Xh t t.length qn (Nat.le_refl _)
   refine rg ?_;conv=>whnf
   refine Aes [55] q5 F343 E (.cons (.row E E) .nil) E E E ?_
   generalize oldestU t t.length=o at *
   have q6:=Y5 t o hol hl
   refine rg ?_;conv=>whnf
   refine⟨by unfold I64;omega,?_⟩
   conv=>whnf
   refine Ai (Ak [(0,55),(1,56)] E F344 q6 E ⟨E,Y⟩ E ⟨.inl E,.inr E,Y⟩) E E ?_
   refine rg ?_;conv=>whnf
   refine Ai (Am Γ.toTy 60 rfl rfl rfl rfl rfl (.row rfl) (.lit (e:=A0) (l:=[⟨m,wh,now⟩]) rfl rfl) (fun j hj=>by cases hj;decide) (by simp;omega) (by simp;omega)) rfl rfl ?_
   refine Au 60 E ?_
   refine rg ?_;conv=>whnf
   refine Ac E (.cons .tmp .nil) (congrArg (SV.sl 3 A0) ?_) E
   rw[hres,List.eraseIdx_eq_take_drop_succ]
  ·have h7:¬ t.length=8:=by simp at h6;omega
   rw[if_neg h7]at hres
   refine rg ?_;conv=>whnf
   refine Ai (Am Γ.toTy 60 rfl rfl rfl rfl rfl (.row rfl) (.lit (e:=A0) (l:=[⟨m,wh,now⟩]) rfl rfl) (fun j hj=>by cases hj;decide) (by simp;omega) (by simp;omega)) rfl rfl ?_
   refine Au 60 E ?_
   refine rg ?_;conv=>whnf
   exact Ac E (.cons .tmp .nil) (congrArg (SV.sl 3 A0) hres) E
theorem Abt (l:List Int) (hl:l.length<2147483648):Sy.Spec Tryz.prog 170 [.sl 1 Aa l] [] (.osl 0) [(0,.row 1 Aa l)]:=Ab Γ hm 100 F170 Tryz.ntmps170 rfl fun F hF=>by
 conv=>whnf
 refine Eg E (.inl E) E E E .sl E E ?_
 intro b hb
 cases b
 ·(refine rg ?_;(conv=>whnf);refine aF ?_;refine rg ?_;conv=>whnf)
  refine Ai (Am Γ.toTy 7 E E E E E (.lit (e:=Aa) (l:=[]) E E) .sl qy (by simp;omega) (by simp;omega)) E E ?_
  refine rg ?_;conv=>whnf
  exact done E (.cons .tmp .nil) [(0,7)] [(0,.row 1 Aa l)] (fun _ h=>h) E E ⟨Y,⟨.inl E,E,Y⟩,E,E⟩
 ·have h0:l=[]:=List.eq_nil_of_length_eq_zero (hb rfl)
  subst h0
  (refine rg ?_;(conv=>whnf);refine aT ?_;refine rg ?_;conv=>whnf)
  refine B7 2 1000 1 Aa E E ?_
  exact done E (.cons .tmp .nil) [(0,1000)] [(0,.row 1 Aa [])] (fun _ h=>h) E E ⟨Y,⟨.inl E,E,Y⟩,E,E⟩
theorem V2 (l:List Int) (p:Int→Bool) (f:FuncId) (first cap:List SV) (hc:(SV.clo (.func f) first cap).inn []=true) (hc0:(SV.clo (.func f) first cap).inn [0]=true) (hf:∀ x∈l,Hz Tryz.prog f (first++[Aa x]++cap) (Ad (p x))) (hl:An l) :
  Sy.Spec Tryz.prog 341 [.osl 0,.clo (.func f) first cap] [(0,.row 1 Aa l)] (.osl 1) [(0,.non),(1,.row 1 Aa (l.filter fun x=>!(p x)))]:=Ab Γ hm 100 F341 Tryz.ntmps341 rfl fun F hF=>by
 have qi:=Ji l p f first cap hc hf hl
 unfold An at hl
 have hin:∀ x:Int,B8 [] (first++[Aa x]++cap)=true:=fun x=>Cr hc rfl
 conv=>whnf
 refine Aes [0] qi F362 E (.cons (.row E E) (.cons (.refl _) .nil)) (by simp only[B8,hc,Bool.and_true];rfl) E E ?_
 rcases Ll p l with ⟨h1,h2⟩ | ⟨i,hi,h1,h2,h3⟩
 ·rw[h1]
  have e1:(l.filter fun x=>!(p x))=l:=List.filter_eq_self.2 (fun x hx=>by simp[h2 x hx])
  rw[e1]
  (refine rg ?_;(conv=>whnf);refine aT ?_;refine rg ?_;conv=>whnf)
  refine Ahg 0 1000 [0,4] E E qx (by simp;exact⟨E,E⟩) ?_
  exact done E (.cons .tmp .nil) [(0,0),(1,1000)] _ (fun _ h=>h) E E ⟨Y,⟨.inl E,E,.inl E,E,Y⟩,E,E⟩
 obtain ⟨f1,f2⟩:=Z5 (fun x=>!(p x)) l i qn (fun k hk hki=>by simp[h3 k hk hki])
 have g1:dfC (fun x=>!(p x)) l (i+1+0)=l:=by
  show dfC (fun x=>!(p x)) l (i+1)=l
  simp only[dfC,List.getElem?_eq_getElem hi]
  rw[if_neg (by simp[h2]),f1]
 have g2:Ep (fun x=>!(p x)) l (i+1+0)=i:=by
  show Ep (fun x=>!(p x)) l (i+1)=i
  simp only[Ep,List.getElem?_eq_getElem hi]
  rw[if_neg (by simp[h2]),f2]
 rw[h1]
 (refine rg ?_;(conv=>whnf);refine aF ?_;refine rg ?_;conv=>whnf)
 refine⟨by unfold I64;omega,?_⟩
 conv=>whnf
 refine Aw (l.length-(i+1)) (fun j=>[(0,.osl 0),(1,.clo (.func f) first cap),(5,Aa (Ep (fun x=>!(p x)) l (i+1+j))),(6,Aa ((i+1+j:Nat)))]) (fun j=>[(0,.row 1 Aa (dfC (fun x=>!(p x)) l (i+1+j)))]) []
  ⟨⟨rfl,rfl,Bb _,hc0,congrArg Aa (congrArg Int.ofNat g2),rfl,congrArg (fun z=>SV.val (.int .i64 z)) qn,rfl,trivial⟩,⟨.inl (congrArg (Ob.row 1 Aa) g1),rfl,trivial⟩,rfl,rfl⟩ ?_
 intro j hj
 have hcl:=Wd (fun x=>!(p x)) l (i+1+j)
 have hdl:=Q0 (fun x=>!(p x)) l (i+1+j)
 have hget:=Aia (fun x=>!(p x)) l (i+1+j) (i+1+j) (Nat.le_refl _)
 have s1:∀ h:i+1+j<l.length,Ep (fun x=>!(p x)) l (i+1+(j+1))=if (!(p l[i+1+j]))=true then Ep (fun x=>!(p x)) l (i+1+j)+1 else Ep (fun x=>!(p x)) l (i+1+j):=fun hlt=>by
  show Ep (fun x=>!(p x)) l (i+1+j+1)=_
  simp only[Ep,List.getElem?_eq_getElem hlt]
 have s2:∀ h:i+1+j<l.length,dfC (fun x=>!(p x)) l (i+1+(j+1))=if (!(p l[i+1+j]))=true then (dfC (fun x=>!(p x)) l (i+1+j)).set (Ep (fun x=>!(p x)) l (i+1+j)) l[i+1+j] else dfC (fun x=>!(p x)) l (i+1+j):=fun hlt=>by
  show dfC (fun x=>!(p x)) l (i+1+j+1)=_
  simp only[dfC,List.getElem?_eq_getElem hlt]
 have htk:=fun h=>Aek (fun x=>!(p x)) l (i+1+j) h
 obtain ⟨D,hD⟩:∃ D,dfC (fun x=>!(p x)) l (i+1+j)=D:=⟨_,rfl⟩
 obtain ⟨K,hK⟩:∃ K,Ep (fun x=>!(p x)) l (i+1+j)=K:=⟨_,rfl⟩
 rw[hD]at hdl hget s2 htk ⊢
 rw[hK]at hcl s1 s2 htk ⊢
 refine rg ?_;conv=>whnf
 refine⟨fun h=>?_,fun h=>?_⟩
 ·have hlt:i+1+j<l.length:=by have:=of_decide_eq_true h;omega
  have hfx:=hf l[i+1+j] (List.getElem_mem hlt)
  have s1:=s1 hlt
  have s2:=s2 hlt
  rw[List.getElem?_eq_getElem hlt,List.getElem?_eq_getElem qn]at hget
  have hget:=Option.some.inj hget
  obtain ⟨x,hx⟩:∃ x,l[i+1+j]=x:=⟨_,rfl⟩
  rw[hx]at hfx s1 s2 hget
  refine rg ?_;conv=>whnf
  refine⟨by omega,by simp;omega,?_⟩
  conv=>whnf
  refine⟨E,by omega,?_⟩
  rw[show D[((i+1+j:Nat):Int).toNat]'qn=x from hget]
  conv=>whnf
  refine D7 hfx E E E (by simp only[hin];rfl) E E ?_
  cases hpx:p x
  ·rw[hpx]at s1 s2
   (refine rg ?_;(conv=>whnf);refine aT ?_;refine rg ?_;conv=>whnf)
   refine⟨by omega,by simp;omega,?_⟩
   conv=>whnf
   refine⟨E,by omega,x,E,E,?_⟩
   conv=>whnf
   refine⟨by unfold I64;omega,?_⟩
   conv=>whnf
   refine⟨by unfold I64;omega,?_⟩
   conv=>whnf
   exact Ar [] qn ⟨⟨E,E,Bb _,hc0,congrArg Aa (congrArg Int.ofNat s1),E,congrArg (fun z=>SV.val (.int .i64 z)) qn,E,Y⟩,⟨.inl (congrArg (Ob.row 1 Aa) s2),E,Y⟩,E,E⟩
  ·rw[hpx]at s1 s2
   (refine rg ?_;(conv=>whnf);refine aF ?_;refine rg ?_;conv=>whnf)
   refine⟨by unfold I64;omega,?_⟩
   conv=>whnf
   exact Ar [] qn ⟨⟨E,E,Bb _,hc0,congrArg Aa (congrArg Int.ofNat s1),E,congrArg (fun z=>SV.val (.int .i64 z)) qn,E,Y⟩,⟨.inl (congrArg (Ob.row 1 Aa) s2),E,Y⟩,E,E⟩
 ·have hend:i+1+j=l.length:=by have:=of_decide_eq_false h;omega
  have hne:D≠[]:=fun h=>by rw[h]at hdl;simp at hdl;omega
  have htk:=htk qn
  rw[show l.take (i+1+j)=l from List.take_of_length_le qn]at htk
  refine Aii 0 [0] E hne (by simp;rfl) ?_
  intro b cap' hcap
  refine rg ?_;conv=>whnf
  refine Ai (Cz Γ.toTy E E E E (.inr ⟨_,_,E,E⟩) (.inl ⟨E,E⟩) qn qn) E E ?_
  refine rg ?_;conv=>whnf
  refine Ai (Jj Γ.toTy 0 (k:=K) E E E E qx E E E qn qn) E E ?_
  refine rg ?_;conv=>whnf
  refine Ai (Cz Γ.toTy E E E E (.inl ⟨E,E⟩) (.inr ⟨_,_,E,E⟩) qn qn) E E ?_
  refine rg ?_;conv=>whnf
  refine We 0 1000 [4] K E E (by rw[List.length_take];omega) (fun i hi=>?_) ?_
  ·rw[List.mem_singleton]at hi
   subst hi
   show SV.val (.slice (some (if cap'=0 then ⟨b,0,none⟩ else ⟨b,0 * 1,none⟩)) (K-0) (cap'-0))=_
   split<;>simp
  refine done E (.cons .tmp .nil) [(0,0),(1,1000)] _ (fun _ h=>h) E E ⟨Y,⟨.inl E,E,.inl ?_,E,Y⟩,E,E⟩
  rw[← htk]
  exact congrArg (Ob.row 1 Aa) (by rw[List.take_take,Nat.min_self])
def K7 (n:Net) (fw:List Bool) (at_ from_:Int) (ml:List Int):SV :=
 .agg [.sl 5 Bm n.devices,.sl 7 A5 n.ports,.sl 3 Ch n.links,.sl 6 At n.domains,.sl 4 Bk n.statics,.sl 4 Bw n.floods,.sl 5 Cv n.vrfs,.sl 5 Cg n.irbs,.sl 1 Ad fw,Aa at_,Aa from_,.sl 1 Aa ml]
theorem An4 (n:Net) (fw:List Bool) (p:Int) (h0:0≤p) (hp:p<n.ports.length) (hl:(nth n.ports p).link<fw.length):Sy.Spec Tryz.prog 340 [Al n,.sl 1 Ad fw,Aa p] [] (Ad (usableB n fw p)) []:=Ab Γ hm 100 F340 Tryz.ntmps340 rfl fun F hF=>by
 have hk:p.toNat<n.ports.length:=by omega
 have e1:nth n.ports p=n.ports[p.toNat]:=Ah hk
 have hu:=usableB.eq_1 n fw p
 generalize usableB n fw p=res at *
 rw[e1]at hu hl
 obtain ⟨q,hq⟩:∃ q,n.ports[p.toNat]'hk=q:=⟨_,rfl⟩
 rw[hq]at hu hl
 conv=>whnf
 refine⟨E,h0,hk,?_⟩
 rw[hq]
 conv=>whnf
 refine⟨fun h=>?_,fun h=>?_⟩
 ·rw[h,Bool.true_or]at hu
  subst hu
  refine rg ?_;conv=>whnf
  exact Ac E (.cons .tmp .nil) E E
 ·rw[h,Bool.false_or]at hu
  have h1:¬ q.link<0:=of_decide_eq_false h
  have h2:q.link.toNat<fw.length:=by omega
  rw[List.getElem?_eq_getElem h2]at hu
  refine rg ?_;conv=>whnf
  refine⟨E,by omega,h2,?_⟩
  conv=>whnf
  exact Ac E (.cons .tmp .nil) (congrArg Ad hu) E
theorem portsC (n:Net) (fw:List Bool) (at_ from_:Int) (ml:List Int) (p:Int) (h0:0≤p) (hp:p<n.ports.length) (hl:(nth n.ports p).link<fw.length) :
  Sy.Spec Tryz.prog 339 [Aa p,.ref 1 (.ref 12 (K7 n fw at_ from_ ml) 0) 0] [] (Ad (decide (p=from_) || !(usableB n fw p))) []:=Ab Γ hm 100 F339 Tryz.ntmps339 rfl fun F hF=>by
 have q:=An4 n fw p h0 hp hl
 conv=>whnf
 refine⟨fun h=>?_,fun h=>?_⟩
 ·have h1:p=from_:=by simpa using h
  refine rd qq ?_;conv=>whnf
  refine⟨qq,?_⟩
  conv=>whnf
  exact Ac E (.cons .tmp .nil) (congrArg Ad (by rw[decide_eq_true h1,Bool.true_or])) E
 ·have h1:¬ p=from_:=by simpa using h
  refine rd qq ?_;conv=>whnf
  refine Aq q F340 E E E qq E ?_
  refine rd qq ?_;conv=>whnf
  refine⟨qq,?_⟩
  conv=>whnf
  exact Ac E (.cons .tmp .nil) (congrArg Ad (by rw[decide_eq_false h1,Bool.false_or])) E
def Aig (n:Net) (fw:List Bool) (l:List Int):Prop:=∀ p∈l,0≤p∧p<n.ports.length∧(nth n.ports p).link<fw.length
theorem Afw (n:Net) (fw:List Bool) (at_ from_:Int) (ml l:List Int) (hl:An l) (hp:Aig n fw l) :
  Sy.Spec Tryz.prog 292 [.ref 12 (K7 n fw at_ from_ ml) 0,.sl 1 Aa l] [] (.sl 1 Aa (D4 n fw from_ l)) []:=Ab Γ hm 100 F292 Tryz.ntmps292 rfl fun F hF=>by
 have q:=V2 l (fun p=>decide (p=from_) || !(usableB n fw p)) 339 [] [.ref 1 (.ref 12 (K7 n fw at_ from_ ml) 0) 0] rfl rfl (fun p h=>⟨⟨_,_,F339⟩,portsC n fw at_ from_ ml p (hp p h).1 (hp p h).2.1 (hp p h).2.2⟩) hl
 unfold An at hl
 conv=>whnf
 refine A3 2 1 (.ref 12 (K7 n fw at_ from_ ml) 0) E E E ?_
 refine rg ?_;conv=>whnf
 refine Ai (Ak [(0,55)] E F170 (Abt l hl) E Y E ⟨.inr E,Y⟩) E E ?_
 refine rg ?_;conv=>whnf
 refine Ai (Ak [(0,55),(1,56)] E F341 q E ⟨E,Y⟩ E ⟨.inl E,.inr E,Y⟩) E E ?_
 refine rg ?_;conv=>whnf
 refine Au 56 E ?_
 exact Ac E (.cons .tmp .nil) E E
theorem Ahv (n:Net) (hn:n.Fin) (fw:List Bool) (dom from_:Int) (ml:List Int) (hd:Aj dom n.domains.length=true) :
  Sy.Spec Tryz.prog 293 [.ref 12 (K7 n fw dom from_ ml) 0] [] (.sl 1 Aa (peersOut n dom from_)) []:=Ab Γ hm 100 F293 Tryz.ntmps293 rfl fun F hF=>by
 have hdi:=B3 hd
 have hd0:0≤dom:=hdi.1
 have hkd:dom.toNat<n.domains.length:=by omega
 have e2:nth n.domains dom=n.domains[dom.toNat]:=Ah hkd
 have hpe:=hn.peers _ (List.getElem_mem hkd)
 have hres:=peersOut.eq_1 n dom from_
 generalize peersOut n dom from_=res at *
 rw[e2]at hres
 obtain ⟨d,hdd⟩:∃ d,n.domains[dom.toNat]'hkd=d:=⟨_,rfl⟩
 rw[hdd]at hres hpe
 have qc:=Kw d.peers hpe
 conv=>whnf
 refine⟨fun h=>?_,fun h=>?_⟩
 ·rw[if_pos (by simpa using h)]at hres
  subst hres
  refine rg ?_;conv=>whnf
  refine Ap 2 1 Aa E ?_
  exact Ac E (.cons .tmp .nil) E E
 ·rw[if_neg (by simpa using h)]at hres
  subst hres
  refine rg ?_;conv=>whnf
  refine⟨E,hd0,hkd,?_⟩
  rw[hdd]
  conv=>whnf
  refine Aq qc F170 E E E qq E ?_
  refine rd qq ?_;conv=>whnf
  refine⟨qq,?_⟩
  conv=>whnf
  exact Ac E (.cons .tmp .nil) E E
def M1 (n:Net) (fw:List Bool) (dom:Int):Bool:=Aj dom n.domains.length && decide (fw.length=n.links.length) && Ae n
theorem Ahq (n:Net) (hn:n.Fin) (fw:List Bool) (dom from_:Int) (h:M1 n fw dom=false) :
  Sy.Spec Tryz.prog 291 [Al n,.sl 1 Ad fw,Aa dom,Aa from_] [] (.tup [.val (.pointer none),Ad false]) []:=Ab Γ hm 100 F291 Tryz.ntmps291 rfl fun F hF=>by
 have qr:=Be n hn
 conv=>whnf
 refine⟨fun h1=>?_,fun h1=>?_⟩
 ·(refine rg ?_;(conv=>whnf);refine aT ?_;refine rg ?_;(conv=>whnf);refine aT ?_;refine rg ?_;(conv=>whnf);refine aT ?_;refine rg ?_;conv=>whnf)
  exact Ac E (.cons .tmp (.cons .tmp .nil)) E E
 refine rg ?_;conv=>whnf
 refine⟨fun h2=>?_,fun h2=>?_⟩
 ·(refine rg ?_;(conv=>whnf);refine aT ?_;refine rg ?_;(conv=>whnf);refine aT ?_;refine rg ?_;conv=>whnf)
  exact Ac E (.cons .tmp (.cons .tmp .nil)) E E
 refine rg ?_;conv=>whnf
 refine⟨fun h3=>?_,fun h3=>?_⟩
 ·(refine rg ?_;(conv=>whnf);refine aT ?_;refine rg ?_;conv=>whnf)
  exact Ac E (.cons .tmp (.cons .tmp .nil)) E E
 refine rg ?_;conv=>whnf
 refine Ag qr F23 E E E E E ?_
 cases hbn:Ae n
 ·(refine rg ?_;(conv=>whnf);refine aT ?_;refine rg ?_;conv=>whnf)
  exact Ac E (.cons .tmp (.cons .tmp .nil)) E E
 ·exfalso
  have h4:Aj dom n.domains.length=true:=Cd ⟨by simp at h1;omega,by simp at h2;omega⟩
  have h5:fw.length=n.links.length:=by simp at h3;omega
  simp[M1,h4,h5,hbn]at h
theorem Alu (n:Net) (hn:n.Fin) (fw:List Bool) (dom from_:Int) (h:M1 n fw dom=true) :
  Sy.Spec Tryz.prog 291 [Al n,.sl 1 Ad fw,Aa dom,Aa from_] [] (.tup [.ref 12 (K7 n fw dom from_ (A4 n dom)) 0,Ad (decide (from_=-1) || decide (from_=-2) || inB (A4 n dom) from_)]) []:=Ab Γ hm 100 F291 Tryz.ntmps291 rfl fun F hF=>by
 have qr:=Be n hn
 simp only[M1,Bool.and_eq_true,decide_eq_true_eq]at h
 obtain ⟨⟨hd,hfw⟩,hbn⟩:=h
 rw[hbn]at qr
 have hdi:=B3 hd
 have qm:=J4 n hn dom
 have qc:=C2 (Bd n dom) from_ (C5 n hn dom)
 have hmt:Bd n dom=A4 n dom:=by rw[Bd,if_pos ⟨⟨hdi.1,hdi.2⟩,hbn⟩]
 rw[hmt]at qm qc
 generalize A4 n dom=ml at *
 conv=>whnf
 refine⟨fun h1=>absurd h1 (by simp;omega),fun _=>?_⟩
 refine rg ?_;conv=>whnf
 refine⟨fun h1=>absurd h1 (by simp;omega),fun _=>?_⟩
 refine rg ?_;conv=>whnf
 refine⟨fun h1=>absurd h1 (by simp;omega),fun _=>?_⟩
 refine rg ?_;conv=>whnf
 refine Ag qr F23 E E E E E ?_
 (refine rg ?_;(conv=>whnf);refine aF ?_;refine rg ?_;conv=>whnf)
 refine Aq qm F26 E E E qq E ?_
 refine rd qq ?_;conv=>whnf
 refine⟨qq,?_⟩
 conv=>whnf
 refine⟨fun h1=>?_,fun h1=>?_⟩
 ·have h2:from_=-1:=by simpa using h1
  refine A3 41 12 (K7 n fw dom from_ ml) E E E ?_
  (refine rg ?_;(conv=>whnf);refine aT ?_;refine rg ?_;conv=>whnf)
  exact Ac E (.cons .tmp (.cons .tmp .nil)) (congrArg (fun z=>SV.tup [_,Ad z]) (by simp[h2])) E
 have h2:¬ from_=-1:=by simpa using h1
 refine A3 41 12 (K7 n fw dom from_ ml) E E E ?_
 refine rg ?_;conv=>whnf
 refine⟨fun h3=>?_,fun h3=>?_⟩
 ·have h4:from_=-2:=by simpa using h3
  refine rg ?_;conv=>whnf
  exact Ac E (.cons .tmp (.cons .tmp .nil)) (congrArg (fun z=>SV.tup [_,Ad z]) (by simp[h4])) E
 have h4:¬ from_=-2:=by simpa using h3
 refine rg ?_;conv=>whnf
 refine Ag qc F25 E E E E E ?_
 refine rg ?_;conv=>whnf
 exact Ac E (.cons .tmp (.cons .tmp .nil)) (congrArg (fun z=>SV.tup [_,Ad z]) (by simp[h2,h4])) E
theorem Aay {n:Net} (hb:Ae n=true) {p:Int} (h0:0≤p) (hp:p<n.ports.length):(nth n.ports p).link<n.links.length:=by
 have hk:p.toNat<n.ports.length:=by omega
 have e1:nth n.ports p=n.ports[p.toNat]:=Ah hk
 rw[e1]
 by_cases hl:0≤n.ports[p.toNat].link
 ·have:=Hl hb hk hl
  omega
 ·omega
theorem Xa {n:Net} {fw:List Bool} (hb:Ae n=true) (hf:fw.length=n.links.length) {l:List Int} (h:∀ p∈l,0≤p∧p<n.ports.length):Aig n fw l:=fun p hp =>
 ⟨(h p hp).1,(h p hp).2,by rw[hf];exact Aay hb (h p hp).1 (h p hp).2⟩
theorem D9 {n:Net} {dom:Int}:∀ p∈A4 n dom,0≤p∧p<n.ports.length:=fun p hp=>by
 rw[A4,filtI_mem]at hp
 exact⟨hp.1,hp.2.1⟩
theorem J5 {n:Net} (hn:n.Fin) (dom:Int):An (A4 n dom):=by
 have h1:=D1 (It n (nth n.domains dom)) n.ports.length
 have h2:=hn.ports
 unfold An at *
 rw[A4]
 omega
theorem L9 (n:Net) (fw:List Bool) (dom from_:Int):Lv n fw dom from_=(M1 n fw dom && (decide (from_=-1) || decide (from_=-2) || inB (A4 n dom) from_)):=rfl
theorem floodS (n:Net) (hn:n.Fin) (fw:List Bool) (dom from_:Int) :
  Sy.Spec Tryz.prog 229 [Al n,.sl 1 Ad fw,Aa dom,Aa from_] [] (.tup [.sl 1 Aa (floodT n fw dom from_).1,.sl 1 Aa (floodT n fw dom from_).2.1,Aa (floodT n fw dom from_).2.2]) []:=Ab Γ hm 100 F229 Tryz.ntmps229 rfl fun F hF=>by
 have hres:=floodT.eq_1 n fw dom from_
 generalize floodT n fw dom from_=res at *
 rw[L9]at hres
 cases hbase:M1 n fw dom
 ·rw[hbase,Bool.false_and,if_pos rfl]at hres
  subst hres
  have q:=Ahq n hn fw dom from_ hbase
  conv=>whnf
  refine Ag q F291 E E E E E ?_
  (refine rg ?_;(conv=>whnf);refine aT ?_;refine rg ?_;conv=>whnf)
  refine Ap 8 1 Aa E ?_
  refine Ap 9 1 Aa E ?_
  exact Ac E (.cons .tmp (.cons .tmp (.cons .tmp .nil))) E E
 rw[hbase,Bool.true_and]at hres
 have q:=Alu n hn fw dom from_ hbase
 have hb2:=hbase
 simp only[M1,Bool.and_eq_true,decide_eq_true_eq]at hb2
 obtain ⟨⟨hd,hfw⟩,hbn⟩:=hb2
 have qp:=Afw n fw dom from_ (A4 n dom) (A4 n dom) (J5 hn dom) (Xa hbn hfw D9)
 have qe:=Ahv n hn fw dom from_ (A4 n dom) hd
 generalize (decide (from_=-1) || decide (from_=-2) || inB (A4 n dom) from_)=ok at *
 generalize A4 n dom=ml at *
 conv=>whnf
 refine Ag q F291 E E E E E ?_
 cases ok
 ·rw[if_pos rfl]at hres
  subst hres
  (refine rg ?_;(conv=>whnf);refine aT ?_;refine rg ?_;conv=>whnf)
  refine Ap 8 1 Aa E ?_
  refine Ap 9 1 Aa E ?_
  exact Ac E (.cons .tmp (.cons .tmp (.cons .tmp .nil))) E E
 rw[if_neg qx]at hres
 subst hres
 (refine rg ?_;(conv=>whnf);refine aF ?_;refine rg ?_;conv=>whnf)
 refine Ag qp F292 E E E E E ?_
 refine rg ?_;conv=>whnf
 refine Ag qe F293 E E E E E ?_
 refine rg ?_;conv=>whnf
 exact Ac E (.cons .tmp (.cons .tmp (.cons .tmp .nil))) E E
theorem S7 (l:List Static) (p:Static→Bool) (f:FuncId) (first cap:List SV) (hc:(SV.clo (.func f) first cap).inn []=true) (hf:∀ x∈l,Hz Tryz.prog f (first++[Bk x]++cap) (Ad (p x))) (hl:An l) :
  Sy.Spec Tryz.prog 386 [.sl 4 Bk l,.clo (.func f) first cap] [] (Aa (Ct p l)) []:=Ab Γ hm 100 F386 Tryz.ntmps386 rfl fun F hF=>by
 unfold An at hl
 have hin:∀ x:Static,B8 [] (first++[Bk x]++cap)=true:=fun x=>Cr hc rfl
 conv=>whnf
 refine Ay l.length (fun j=>Dk (fun _ x=>!(p x)) l j) (fun j=>[(0,.sl 4 Bk l),(1,.clo (.func f) first cap),(7,Aa l.length),(8,Aa j)]) (fun _=>[]) [] (A2 _ _) ⟨⟨E,E,Bb _,hc,E,E,E,E,Y⟩,Y,E,E⟩ ?_
 intro j hj hI
 refine rg ?_;conv=>whnf
 refine⟨fun h=>?_,fun h=>?_⟩
 ·have h:=of_decide_eq_true h
  have hj2:j<l.length:=by omega
  refine rg ?_;conv=>whnf
  refine⟨E,by omega,by omega,?_⟩
  conv=>whnf
  refine D7 (hf l[j] (List.getElem_mem hj2)) E E E (by simp only[hin];rfl) E E ?_
  refine rg ?_;conv=>whnf
  refine⟨fun h2=>?_,fun h2=>?_⟩
  ·refine rg ?_;conv=>whnf
   refine Ac E (.cons .tmp .nil) (congrArg Aa ?_) E
   exact Dh hj2 (fun i hi hij=>by simpa using hI i hi hij) h2
  ·refine rg ?_;conv=>whnf
   refine⟨by unfold I64;omega,?_⟩
   conv=>whnf
   exact Av [] hI hj2 (Ax hI hj2 (by simp[h2])) ⟨⟨E,E,Bb _,hc,E,E,E,E,Y⟩,Y,E,E⟩
 ·have h:=of_decide_eq_false h
  refine rg ?_;conv=>whnf
  refine Ac E (.cons .tmp .nil) (congrArg Aa ?_) E
  exact Ea (fun i hi=>by simpa using hI i hi qn)
theorem entryC (dom:Int) (m:Nat) (s:Static):Sy.Spec Tryz.prog 387 [Bk s,.ref 1 (Aa dom) 0,.ref 1 (Bf m) 0] [] (Ad (decide (s.domain=dom) && decide (s.mac=(m:Int)))) []:=Ab Γ hm 100 F387 Tryz.ntmps387 rfl fun F hF=>by
 conv=>whnf
 refine⟨fun h=>?_,fun h=>?_⟩
 ·refine rg ?_;conv=>whnf
  refine Ac E (.cons .tmp .nil) (congrArg Ad ?_) E
  have h1:s.domain=dom:=by simpa using h
  rw[decide_eq_true h1,Bool.true_and,Bool.eq_iff_iff]
  simp
 ·refine rg ?_;conv=>whnf
  refine Ac E (.cons .tmp .nil) (congrArg Ad ?_) E
  have h1:¬ s.domain=dom:=by simpa using h
  rw[decide_eq_false h1,Bool.false_and]
theorem entryI (n:Net) (hn:n.Fin) (dom:Int) (m:Nat):Sy.Spec Tryz.prog 375 [Al n,Aa dom,Bf m] [] (Aa (Dn n dom m)) []:=Ab Γ hm 100 F375 Tryz.ntmps375 rfl fun F hF=>by
 have q:=S7 n.statics (fun s:Static=>decide (s.domain=dom) && decide (s.mac=(m:Int))) 387 [] [.ref 1 (Aa dom) 0,.ref 1 (Bf m) 0] rfl (fun x _=>⟨⟨_,_,F387⟩,entryC dom m x⟩) hn.statics
 conv=>whnf
 refine A3 4 1 (Aa dom) E E E ?_
 refine A3 5 1 (Bf m) E E E ?_
 refine rg ?_;conv=>whnf
 refine Ag q F386 E E E E E ?_
 refine rg ?_;conv=>whnf
 exact Ac E (.cons .tmp .nil) E E
def staticP (n:Net) (dom:Int) (m:Nat):Int:=if 0≤Dn n dom m then (nth n.statics (Dn n dom m)).port else -1
theorem Ag0 (n:Net) (hn:n.Fin) (hb:Ae n=true) (dom:Int) (m:Nat):Sy.Spec Tryz.prog 348 [Al n,Aa dom,Bf m] [] (Aa (staticP n dom m)) []:=Ab Γ hm 100 F348 Tryz.ntmps348 rfl fun F hF=>by
 have q:=entryI n hn dom m
 have qr:=Be n hn
 rw[hb]at qr
 have hlt:Dn n dom m<n.statics.length:=E9 _ _
 have hres:=staticP.eq_1 n dom m
 generalize staticP n dom m=res at *
 generalize Dn n dom m=i at *
 conv=>whnf
 refine Ag q F375 E E E E E ?_
 refine rg ?_;conv=>whnf
 refine⟨fun h=>?_,fun h=>?_⟩
 ·rw[if_neg (by simp at h;omega)]at hres
  subst hres
  (refine rg ?_;(conv=>whnf);refine aT ?_;refine rg ?_;conv=>whnf)
  exact Ac E (.cons .tmp .nil) E E
 ·have h0:0≤i:=by simp at h;omega
  have hk:i.toNat<n.statics.length:=by omega
  have e1:nth n.statics i=n.statics[i.toNat]:=Ah hk
  rw[if_pos h0,e1]at hres
  refine rg ?_;conv=>whnf
  refine Ag qr F23 E E E E E ?_
  (refine rg ?_;(conv=>whnf);refine aF ?_;refine rg ?_;conv=>whnf)
  refine⟨E,h0,hk,?_⟩
  conv=>whnf
  exact Ac E (.cons .tmp .nil) (congrArg Aa hres) E
def knownT (n:Net) (fw:List Bool) (t:List EntryM) (dom from_:Int) (m:Nat):List Int × List Int × Bool :=
 if 0≤staticP n dom m then (D4 n fw from_ [staticP n dom m],[],true)
 else if (findE t m).2=false then ([],[],false)
 else if 0≤(findE t m).1∧inB (A4 n dom) (findE t m).1=true then (D4 n fw from_ [(findE t m).1],[],true)
 else if (findE t m).1<0∧inB (nth n.domains dom).peers (-1-(findE t m).1)=true then (if from_=-1 then ([],[],true) else ([],[-1-(findE t m).1],true))
 else ([],[],false)
theorem Ux {n:Net} (hb:Ae n=true) (dom:Int) (m:Nat) (h:0≤staticP n dom m):staticP n dom m<n.ports.length:=by
 unfold staticP at h ⊢
 split at h
 ·rename_i h0
  rw[if_pos h0]
  have hlt:Dn n dom m<n.statics.length:=E9 _ _
  have hk:(Dn n dom m).toNat<n.statics.length:=by omega
  simp only[Ae,Bool.and_eq_true]at hb
  have:=allB_iff.1 hb.1.1.1.2 _ hk
  simp only[E4,Bool.and_eq_true,Aj,decide_eq_true_eq]at this
  rw[Ah hk]
  exact this.1.1.2.2
 ·omega
theorem knownS (n:Net) (hn:n.Fin) (fw:List Bool) (t:List EntryM) (dom from_:Int) (m:Nat) (hl:An t) (hw:I64 (-1-(findE t m).1)) (hbase:M1 n fw dom=true) :
  Sy.Spec Tryz.prog 299 [.ref 12 (K7 n fw dom from_ (A4 n dom)) 0,.sl 3 A0 t,Bf m] [] (.tup [.sl 1 Aa (knownT n fw t dom from_ m).1,.sl 1 Aa (knownT n fw t dom from_ m).2.1,Ad (knownT n fw t dom from_ m).2.2]) []:=Ab Γ hm 100 F299 Tryz.ntmps299 rfl fun F hF=>by
 simp only[M1,Bool.and_eq_true,decide_eq_true_eq]at hbase
 obtain ⟨⟨hd,hfw⟩,hbn⟩:=hbase
 have hdi:=B3 hd
 have hd0:0≤dom:=hdi.1
 have hkd:dom.toNat<n.domains.length:=by omega
 have e2:nth n.domains dom=n.domains[dom.toNat]:=Ah hkd
 have hpe:=hn.peers _ (List.getElem_mem hkd)
 have hres:=knownT.eq_1 n fw t dom from_ m
 have qs:=Ag0 n hn hbn dom m
 have hsp:=Ux hbn dom m
 have qf:=Alf t m hl
 have qp:∀ p:Int,0≤p→p<n.ports.length→_:=fun p h0 h1=>Afw n fw dom from_ (A4 n dom) [p] (by unfold An;simp) (Xa hbn hfw (l:=[p]) (fun x hx=>by rw[List.mem_singleton]at hx;subst hx;exact⟨h0,h1⟩))
 have hmem:∀ p,inB (A4 n dom) p=true→0≤p∧p<n.ports.length:=fun p hp=>D9 p (inB_mem.1 hp)
 have qc:=fun x=>C2 (A4 n dom) x (J5 hn dom)
 rw[e2]at hres
 obtain ⟨d,hdd⟩:∃ d,n.domains[dom.toNat]'hkd=d:=⟨_,rfl⟩
 rw[hdd]at hres hpe
 have qc2:=fun x=>C2 d.peers x hpe
 generalize knownT n fw t dom from_ m=res at *
 generalize staticP n dom m=sp at *
 generalize findE t m=fe at *
 obtain ⟨w,ok⟩:=fe
 dsimp only at hres hw qf
 generalize A4 n dom=ml at *
 conv=>whnf
 refine Aq qs F348 E E E qq E ?_
 refine rd qq ?_;conv=>whnf
 refine⟨qq,?_⟩
 conv=>whnf
 refine⟨fun h1=>?_,fun h1=>?_⟩
 ·have h2:0≤sp:=by simpa using h1
  rw[if_pos h2]at hres
  subst hres
  refine rg ?_;conv=>whnf
  refine Iq 25 Aa [sp] E E ?_
  refine Au 25 E ?_
  refine Ag (qp sp h2 (hsp h2)) F292 E E E E E ?_
  refine rg ?_;conv=>whnf
  refine Ap 7 1 Aa E ?_
  exact Ac E (.cons .tmp (.cons .tmp (.cons .tmp .nil))) E E
 have h2:¬ 0≤sp:=by simp at h1;omega
 rw[if_neg h2]at hres
 refine rg ?_;conv=>whnf
 refine Ag qf F349 E E E E E ?_
 cases ok
 ·rw[if_pos rfl]at hres
  subst hres
  (refine rg ?_;(conv=>whnf);refine aT ?_;refine rg ?_;conv=>whnf)
  refine Ap 6 1 Aa E ?_
  refine Ap 7 1 Aa E ?_
  exact Ac E (.cons .tmp (.cons .tmp (.cons .tmp .nil))) E E
 rw[if_neg qx]at hres
 (refine rg ?_;(conv=>whnf);refine aF ?_;refine rg ?_;conv=>whnf)
 refine⟨fun h3=>?_,fun h3=>?_⟩
 ·have h4:0≤w:=by simpa using h3
  refine rg ?_;conv=>whnf
  refine Ag (qc w) F25 E E E E E ?_
  cases hin:inB ml w
  ·rw[if_neg (by simp[hin]),if_neg qn]at hres
   subst hres
   (refine rg ?_;(conv=>whnf);refine aF ?_;refine rg ?_;conv=>whnf)
   refine⟨fun h5=>absurd h5 (by simp;omega),fun _=>?_⟩
   refine rd qq ?_;conv=>whnf
   refine⟨qq,?_⟩
   ((conv=>whnf);refine aF ?_;refine rg ?_;conv=>whnf)
   refine Ap 6 1 Aa E ?_
   refine Ap 7 1 Aa E ?_
   exact Ac E (.cons .tmp (.cons .tmp (.cons .tmp .nil))) E E
  ·rw[if_pos ⟨h4,hin⟩]at hres
   subst hres
   (refine rg ?_;(conv=>whnf);refine aT ?_;refine rg ?_;conv=>whnf)
   refine Iq 49 Aa [w] E E ?_
   refine Au 49 E ?_
   refine Ag (qp w h4 (hmem w hin).2) F292 E E E E E ?_
   refine rg ?_;conv=>whnf
   refine Ap 7 1 Aa E ?_
   exact Ac E (.cons .tmp (.cons .tmp (.cons .tmp .nil))) E E
 have h4:¬ 0≤w:=by simp at h3;omega
 rw[if_neg qn]at hres
 (refine rg ?_;(conv=>whnf);refine aF ?_;refine rg ?_;conv=>whnf)
 refine⟨fun h5=>?_,fun h5=>absurd h5 (by simp;omega)⟩
 refine rd qq ?_;conv=>whnf
 refine⟨E,hd0,hkd,?_⟩
 rw[hdd]
 conv=>whnf
 refine⟨hw,?_⟩
 conv=>whnf
 refine Aq (qc2 (-1-w)) F25 E E E qq E ?_
 cases hin:inB d.peers (-1-w)
 ·rw[if_neg (by simp[hin])]at hres
  subst hres
  refine rd qq ?_;conv=>whnf
  refine⟨qq,?_⟩
  ((conv=>whnf);refine aF ?_;refine rg ?_;conv=>whnf)
  refine Ap 6 1 Aa E ?_
  refine Ap 7 1 Aa E ?_
  exact Ac E (.cons .tmp (.cons .tmp (.cons .tmp .nil))) E E
 rw[if_pos ⟨by omega,hin⟩]at hres
 refine rd qq ?_;conv=>whnf
 refine⟨qq,?_⟩
 ((conv=>whnf);refine aT ?_;refine rg ?_;conv=>whnf)
 refine⟨fun h6=>?_,fun h6=>?_⟩
 ·rw[if_pos (by simpa using h6)]at hres
  subst hres
  refine rg ?_;conv=>whnf
  refine Ap 6 1 Aa E ?_
  refine Ap 7 1 Aa E ?_
  exact Ac E (.cons .tmp (.cons .tmp (.cons .tmp .nil))) E E
 ·rw[if_neg (by simpa using h6)]at hres
  subst hres
  refine rg ?_;conv=>whnf
  refine⟨hw,?_⟩
  conv=>whnf
  refine Ap 6 1 Aa E ?_
  refine Iq 78 Aa [-1-w] E E ?_
  refine Au 78 E ?_
  exact Ac E (.cons .tmp (.cons .tmp (.cons .tmp .nil))) E E
theorem Sd {n:Net} (hb:Ae n=true) (dom:Int) (m:Nat):(0≤staticP n dom m↔0≤Dn n dom m)∧(0≤Dn n dom m→staticP n dom m=(nth n.statics (Dn n dom m)).port):=by
 refine⟨⟨fun h=>?_,fun h=>?_⟩,fun h=>by rw[staticP,if_pos h]⟩
 ·unfold staticP at h
  split at h
  ·assumption
  ·omega
 ·rw[staticP,if_pos h]
  have hlt:Dn n dom m<n.statics.length:=E9 _ _
  have hk:(Dn n dom m).toNat<n.statics.length:=by omega
  simp only[Ae,Bool.and_eq_true]at hb
  have:=allB_iff.1 hb.1.1.1.2 _ hk
  simp only[E4,Bool.and_eq_true,Aj,decide_eq_true_eq]at this
  rw[Ah hk]
  exact this.1.1.2.1
theorem Ao8 {n:Net} {fw:List Bool} {t:List EntryM} {dom from_:Int} {m:Nat} (hb:Ae n=true) (hr:Lv n fw dom from_=true) (hg:H7 m=false) :
  Cq n fw t dom from_ m=if (knownT n fw t dom from_ m).2.2=true then ((knownT n fw t dom from_ m).1,(knownT n fw t dom from_ m).2.1,0) else (D4 n fw from_ (A4 n dom),peersOut n dom from_,0):=by
 obtain ⟨h1,h2⟩:=Sd hb dom m
 rw[Cq,if_neg (by rw[hr];decide),if_neg (by rw[hg];decide)]
 unfold knownT
 by_cases hs:0≤Dn n dom m
 ·rw[if_pos hs,if_pos (h1.2 hs),h2 hs];rfl
 rw[if_neg hs,if_neg (fun h=>hs (h1.1 h))]
 generalize findE t m=fe
 obtain ⟨w,ok⟩:=fe
 cases ok
 ·simp
 simp only[Bool.true_eq_false,if_false,true_and]
 by_cases ha:0≤w∧inB (A4 n dom) w=true
 ·rw[if_pos ha,if_pos ha];rfl
 rw[if_neg ha,if_neg ha]
 by_cases hc:w<0∧inB (nth n.domains dom).peers (-1-w)=true
 ·rw[if_pos hc,if_pos hc]
  split<;>rfl
 ·rw[if_neg hc,if_neg hc];rfl
theorem Ao9 (n:Net) (hn:n.Fin) (fw:List Bool) (t:List EntryM) (dom from_:Int) (m:Nat) (hl:An t) (hw:I64 (-1-(findE t m).1)) (hm64:m<18446744073709551616) :
  Sy.Spec Tryz.prog 235 [Al n,.sl 1 Ad fw,.sl 3 A0 t,Aa dom,Aa from_,Bf m] [] (.tup [.sl 1 Aa (Cq n fw t dom from_ m).1,.sl 1 Aa (Cq n fw t dom from_ m).2.1,Aa (Cq n fw t dom from_ m).2.2]) []:=Ab Γ hm 100 F235 Tryz.ntmps235 rfl fun F hF=>by
 cases hbase:M1 n fw dom
 ·have hres:Cq n fw t dom from_ m=([],[],2):=by
   rw[Cq,if_pos (by rw[L9,hbase];rfl)]
  rw[hres]
  have q:=Ahq n hn fw dom from_ hbase
  conv=>whnf
  refine Ag q F291 E E E E E ?_
  (refine rg ?_;(conv=>whnf);refine aT ?_;refine rg ?_;conv=>whnf)
  refine Ap 12 1 Aa E ?_
  refine Ap 13 1 Aa E ?_
  exact Ac E (.cons .tmp (.cons .tmp (.cons .tmp .nil))) E E
 have q:=Alu n hn fw dom from_ hbase
 have qk:=knownS n hn fw t dom from_ m hl hw hbase
 have qg:=Kn m hm64
 have hb2:=hbase
 simp only[M1,Bool.and_eq_true,decide_eq_true_eq]at hb2
 obtain ⟨⟨hd,hfw⟩,hbn⟩:=hb2
 have qp:=Afw n fw dom from_ (A4 n dom) (A4 n dom) (J5 hn dom) (Xa hbn hfw D9)
 have qe:=Ahv n hn fw dom from_ (A4 n dom) hd
 have hroom:=L9 n fw dom from_
 rw[hbase,Bool.true_and]at hroom
 have hbad:Lv n fw dom from_=false→Cq n fw t dom from_ m=([],[],2):=fun h=>by rw[Cq,if_pos h]
 have hgrp:Lv n fw dom from_=true→H7 m=true→Cq n fw t dom from_ m=(D4 n fw from_ (A4 n dom),peersOut n dom from_,0):=fun h h2=>by
  rw[Cq,if_neg (by rw[h];decide),if_pos h2]
 have hkn:=fun h h2=>@Ao8 n fw t dom from_ m hbn h h2
 generalize Cq n fw t dom from_ m=res at *
 generalize knownT n fw t dom from_ m=kn at *
 obtain ⟨kp,ke,ko⟩:=kn
 generalize Lv n fw dom from_=rm at *
 generalize (decide (from_=-1) || decide (from_=-2) || inB (A4 n dom) from_)=ok at *
 subst hroom
 generalize A4 n dom=ml at *
 dsimp only at hkn qk
 conv=>whnf
 refine Ag q F291 E E E E E ?_
 cases rm
 ·rw[hbad rfl]
  (refine rg ?_;(conv=>whnf);refine aT ?_;refine rg ?_;conv=>whnf)
  refine Ap 12 1 Aa E ?_
  refine Ap 13 1 Aa E ?_
  exact Ac E (.cons .tmp (.cons .tmp (.cons .tmp .nil))) E E
 (refine rg ?_;(conv=>whnf);refine aF ?_;refine rg ?_;conv=>whnf)
 refine Ag qg F226 E E E E E ?_
 cases hg:H7 m
 ·have hkn:=hkn rfl hg
  (refine rg ?_;(conv=>whnf);refine aT ?_;refine rg ?_;conv=>whnf)
  refine Ag qk F299 E E E E E ?_
  cases ko
  ·rw[if_neg qx]at hkn
   subst hkn
   (refine rg ?_;(conv=>whnf);refine aF ?_;refine rg ?_;conv=>whnf)
   refine Ag qp F292 E E E E E ?_
   refine rg ?_;conv=>whnf
   refine Ag qe F293 E E E E E ?_
   refine rg ?_;conv=>whnf
   exact Ac E (.cons .tmp (.cons .tmp (.cons .tmp .nil))) E E
  ·rw[if_pos rfl]at hkn
   subst hkn
   (refine rg ?_;(conv=>whnf);refine aT ?_;refine rg ?_;conv=>whnf)
   exact Ac E (.cons .tmp (.cons .tmp (.cons .tmp .nil))) E E
 ·rw[hgrp rfl hg]
  (refine rg ?_;(conv=>whnf);refine aF ?_;refine rg ?_;conv=>whnf)
  refine Ag qp F292 E E E E E ?_
  refine rg ?_;conv=>whnf
  refine Ag qe F293 E E E E E ?_
  refine rg ?_;conv=>whnf
  exact Ac E (.cons .tmp (.cons .tmp (.cons .tmp .nil))) E E
theorem Abw (t:List EntryM) (q:QueuedM) (now:Int) (ht:TabOK t) (hq:QueuedOK q):Sy.Spec Tryz.prog 231 [.sl 3 A0 t,Bo q,Aa now] [] (.sl 3 A0 (learnQ t q now)) []:=Ab Γ hm 100 F231 Tryz.ntmps231 rfl fun F hF=>by
 have hres:=learnQ.eq_1 t q now
 generalize learnQ t q now=res at *
 have hl:=ht.short
 have hl2:=hl
 unfold An at hl2
 have hs:=hq.frame.src
 have h1:=hq.peer
 conv=>whnf
 refine⟨fun h=>?_,fun h=>?_⟩
 ·rw[if_pos (by simpa using h)]at hres
  subst hres
  refine rg ?_;conv=>whnf
  refine Ai (Ak [(0,55)] E F243 (My res hl2) E Y E ⟨.inr E,Y⟩) E E ?_
  refine Au 55 E ?_
  refine rg ?_;conv=>whnf
  exact Ac E (.cons .tmp .nil) E E
 rw[if_neg (by simpa using h)]at hres
 clear h
 refine rg ?_;conv=>whnf
 refine⟨fun h=>?_,fun h=>?_⟩
 ·rw[if_pos (by simpa using h)]at hres
  subst hres
  refine rg ?_;conv=>whnf
  refine⟨by unfold I64;omega,?_⟩
  conv=>whnf
  refine Ag (Zd t q.frame.src (-1-q.peer) now hl ht.mac qn) F296 E E E E E ?_
  refine rg ?_;conv=>whnf
  exact Ac E (.cons .tmp .nil) E E
 rw[if_neg (by simpa using h)]at hres
 subst hres
 refine rg ?_;conv=>whnf
 refine Ag (Zd t q.frame.src q.from_ now hl ht.mac qn) F296 E E E E E ?_
 refine rg ?_;conv=>whnf
 exact Ac E (.cons .tmp .nil) E E
def Ajn (k p d:Int):OutM:=⟨k,p,d,[],noF,0⟩
theorem Aot (k p d:Int) (b:List UInt8) (e:Int):S2 (Ajn k p d) (b,e)=if e≠0 then ⟨5,p,d,[],noF,e⟩ else ⟨k,p,d,b,noF,0⟩:=rfl
theorem Q2 (l:List OutM) (k p d:Int) (b:List UInt8) (e:Int) (hl:l.length<100000000000) :
  Sy.Spec Tryz.prog 234 [D5 (Ajn k p d),.sl 1 Ao b,Aa e,.ptr 0 0] [(0,.box [.osl 1]),(1,.row 9 D5 l)] (.tup []) [(0,.box [.osl 2]),(1,.non),(2,.row 9 D5 (l++[S2 (Ajn k p d) (b,e)]))]:=Ab Γ hm 100 F234 Tryz.ntmps234 rfl fun F hF=>by
 have hres:=Aot k p d b e
 generalize S2 (Ajn k p d) (b,e)=res at *
 conv=>whnf
 refine⟨fun h=>?_,fun h=>?_⟩
 ·rw[if_pos (by simpa using h)]at hres
  refine rg ?_;conv=>whnf
  refine Ab0 17 [D5 ⟨5,p,d,[],noF,e⟩] E (.cons (.agg (.cons (.refl _) (.cons (.refl _) (.cons (.refl _) (.cons .nil (.cons (.refl _) (.cons (.refl _) (.cons (.refl _) (.cons (.refl _) (.cons (.refl _) .nil)))))))))) .nil) E ?_
  refine Ai (Am Γ.toTy 18 E E E E E (.row E) (.lit (e:=D5) (l:=[res]) E (by rw[hres];rfl)) qx (by simp;omega) (by simp;omega)) E E ?_
  refine rg ?_;conv=>whnf
  exact Ba E .nil [(2,18)] [(0,.box [.osl 2]),(1,.non),(2,.row 9 D5 (l++[res]))] (fun _ h=>h) E E ⟨Y,⟨.inl E,E,.inl E,E,.inl E,E,Y⟩,E,E⟩
 ·rw[if_neg (by simpa using h)]at hres
  refine rg ?_;conv=>whnf
  refine Ai (Am Γ.toTy 18 E E E E E (.row E) (.lit (e:=D5) (l:=[res]) E (by rw[hres];rfl)) qx (by simp;omega) (by simp;omega)) E E ?_
  refine rg ?_;conv=>whnf
  exact Ba E .nil [(2,18)] [(0,.box [.osl 2]),(1,.non),(2,.row 9 D5 (l++[res]))] (fun _ h=>h) E E ⟨Y,⟨.inl E,E,.inl E,E,.inl E,E,Y⟩,E,E⟩
theorem Ao1 {t:List EntryM} (ht:TabOK t) (m:Nat):I64 (findE t m).1:=by
 unfold findE
 split
 ·unfold I64;dsimp only;omega
 ·rename_i h
  have hlt:El t m<t.length:=E9 _ _
  have hk:(El t m).toNat<t.length:=by omega
  dsimp only
  rw[List.getElem?_eq_getElem hk]
  exact ht.wh _ (List.getElem_mem hk)
theorem Iz {n:Net} {fw:List Bool} {fr:Int} {l:List Int} {p:Int} (h:p∈D4 n fw fr l):p∈l:=(List.mem_filter.1 h).1
theorem Abq {n:Net} (hb:Ae n=true) (fw:List Bool) (t:List EntryM) (dom fr:Int) (m:Nat):∀ p∈(Cq n fw t dom fr m).1,0≤p∧p<n.ports.length:=by
 intro p hp
 unfold Cq at hp
 split at hp
 ·cases hp
 split at hp
 ·exact D9 p (Iz hp)
 split at hp
 ·rename_i h1
  obtain ⟨hs1,hs2⟩:=Sd hb dom m
  have h2:=hs1.2 h1
  have h3:=Ux hb dom m h2
  have h4:=List.mem_singleton.1 (Iz hp)
  rw[h4,← hs2 h1]
  exact⟨h2,h3⟩
 split at hp
 ·rename_i h1
  rw[List.mem_singleton.1 (Iz hp)]
  exact D9 _ (inB_mem.1 h1.2.2)
 split at hp
 ·cases hp
 ·exact D9 p (Iz hp)
theorem Aax (n:Net) (fw:List Bool) (fr:Int) (l:List Int):(D4 n fw fr l).length≤l.length:=List.length_filter_le _ _
theorem Aaz {n:Net} (hn:n.Fin) (dom fr:Int) (hd:Aj dom n.domains.length=true):(peersOut n dom fr).length<2147483648:=by
 unfold peersOut
 split
 ·decide
 ·have h:=Jd hd
  rw[Ah h.2]
  exact hn.peers _ (List.getElem_mem h.2)
theorem Ya {n:Net} (hn:n.Fin) (fw:List Bool) (t:List EntryM) (dom fr:Int) (m:Nat):(Cq n fw t dom fr m).1.length<2147483648∧(Cq n fw t dom fr m).2.1.length<2147483648:=by
 have h1:=Adm n dom
 have h2:=hn.ports
 unfold An at h2
 have h3:=fun l=>Aax n fw fr l
 unfold Cq
 split
 ·decide
 rename_i h
 have hd:Aj dom n.domains.length=true:=by
  cases hx:Aj dom n.domains.length
  ·exact absurd (by rw[Lv,hx];rfl) h
  ·rfl
 have h4:=Aaz hn dom fr hd
 split
 ·have:=h3 (A4 n dom);exact⟨by dsimp only;omega,h4⟩
 split
 ·have:=h3 [(nth n.statics (Dn n dom m)).port];simp only[List.length_cons,List.length_nil]at this;exact⟨by dsimp only;omega,by show (0:Nat)<2147483648;decide⟩
 split
 ·have:=h3 [(findE t m).1];simp only[List.length_cons,List.length_nil]at this;exact⟨by dsimp only;omega,by show (0:Nat)<2147483648;decide⟩
 split
 ·refine⟨by show (0:Nat)<2147483648;decide,?_⟩
  dsimp only
  split<;>simp
 ·have:=h3 (A4 n dom);exact⟨by dsimp only;omega,h4⟩
theorem Aeu (n:Net) (hn:n.Fin) (hm0:n.Num) (fw:List Bool) (t:List EntryM) (dom:Int) (q:QueuedM) (now:Int) (ht:TabOK t) (hq:QueuedOK q) :
  Sy.Spec Tryz.prog 174 [Al n,.sl 1 Ad fw,.sl 3 A0 t,Aa dom,Bo q,Aa now] [] (.tup [.sl 3 A0 (bridgeT n fw t dom q now).1,.sl 9 D5 (bridgeT n fw t dom q now).2.1,Aa (bridgeT n fw t dom q now).2.2]) []:=Ab Γ hm 100 F174 Tryz.ntmps174 rfl fun F hF=>by
 have hres:=bridgeT.eq_1 n fw t dom q now
 generalize bridgeT n fw t dom q now=res at *
 have qf:=floodS n hn fw dom q.from_
 have qr:=T9 t ht.short ht.mac
 conv=>whnf
 refine A3 6 8 (Al n) E E E ?_
 refine A3 10 7 (Bo q) E E E ?_
 refine rg ?_;conv=>whnf
 cases hroom:Lv n fw dom q.from_
 ·rw[if_pos (.inl hroom)]at hres
  subst hres
  rw[floodT,if_pos hroom]at qf
  refine Ag qf F229 E E E E E ?_
  (refine rg ?_;(conv=>whnf);refine aT ?_;refine rg ?_;(conv=>whnf);refine aT ?_;refine rg ?_;conv=>whnf)
  refine Bc 13 [.sl 9 D5 []] E (.cons .nil .nil) ?_
  refine Ap 12 3 A0 E ?_
  exact Ac E (.cons .tmp (.cons (.cell E E E E) (.cons .tmp .nil))) E E
 rw[floodT,if_neg (by rw[hroom];decide)]at qf
 refine Ag qf F229 E E E E E ?_
 (refine rg ?_;(conv=>whnf);refine aF ?_;refine rg ?_;conv=>whnf)
 refine Ag qr F230 E E E E E ?_
 cases htb:tableB t
 ·rw[if_pos (.inr htb)]at hres
  subst hres
  (refine rg ?_;(conv=>whnf);refine aT ?_;refine rg ?_;conv=>whnf)
  refine Bc 13 [.sl 9 D5 []] E (.cons .nil .nil) ?_
  refine Ap 12 3 A0 E ?_
  exact Ac E (.cons .tmp (.cons (.cell E E E E) (.cons .tmp .nil))) E E
 rw[if_neg (by simp[hroom,htb])]at hres
 have ql:=Abw t q now ht hq
 have hu:=Oh ht hq now
 generalize learnQ t q now=u at *
 have qro:=Ab5 n hn hm0 dom q.frame.dst
 generalize routerT n dom q.frame.dst=ro at *
 obtain ⟨irb,ok⟩:=ro
 dsimp only at hres qro
 have hbn:Ae n=true:=by
  simp only[Lv,Bool.and_eq_true]at hroom
  exact hroom.1.2
 (refine rg ?_;(conv=>whnf);refine aF ?_;refine rg ?_;conv=>whnf)
 refine Ag ql F231 E E E E E ?_
 refine rg ?_;conv=>whnf
 refine Ag qro F232 E E E E E ?_
 cases ok
 rotate_left
 ·rw[if_pos rfl]at hres
  have qh:=Ai6 n hn hm0 irb q.frame hq.frame
  generalize hopT n irb q.frame=hp at *
  obtain ⟨to,g,e⟩:=hp
  dsimp only at hres qh
  (refine rg ?_;(conv=>whnf);refine aT ?_;refine rg ?_;conv=>whnf)
  refine Ag qh F233 E E E E E ?_
  refine rg ?_;conv=>whnf
  refine⟨fun h=>?_,fun h=>?_⟩
  ·rw[if_pos (by simpa using h)]at hres
   subst hres
   refine rg ?_;conv=>whnf
   refine Bc 13 [.sl 9 D5 []] E (.cons .nil .nil) ?_
   exact Ac E (.cons .tmp (.cons (.cell E E E E) (.cons .tmp .nil))) E E
  ·rw[if_neg (by simpa using h)]at hres
   subst hres
   refine rg ?_;conv=>whnf
   refine⟨qq,?_⟩
   conv=>whnf
   refine Ab0 84 [D5 ⟨4,0,to,[],g,0⟩] E (.cons (.agg (.cons (.refl _) (.cons (.refl _) (.cons (.refl _) (.cons .nil (.cons (.refl _) (.cons (.refl _) (.cons (.refl _) (.cons (.refl _) (.cons (.refl _) .nil)))))))))) .nil) E ?_
   refine Iq 84 D5 [⟨4,0,to,[],g,0⟩] E E ?_
   refine Au 84 E ?_
   exact Ac E (.cons .tmp (.cons (.cell E E E E) (.cons .tmp .nil))) E E
 rw[if_neg qx]at hres
 have hs:=hq.frame.src
 have hd2:=hq.frame.dst
 have hfw:=Ao1 hu q.frame.dst
 have qd:=Ao9 n hn fw u dom q.from_ q.frame.dst hu.short (by unfold I64 at *;omega) qn
 have hports:=Abq hbn fw u dom q.from_ q.frame.dst
 have hfew:=Ya hn fw u dom q.from_ q.frame.dst
 generalize Cq n fw u dom q.from_ q.frame.dst=dc at *
 obtain ⟨ports,peers,e0⟩:=dc
 dsimp only at hres qd hports hfew
 obtain ⟨hf1,hf2⟩:=hfew
 (refine rg ?_;(conv=>whnf);refine aF ?_;refine rg ?_;conv=>whnf)
 refine Ag qd F235 E E E E E ?_
 refine rg ?_;conv=>whnf
 refine Ae7 13 0 1000 9 D5 E E E E ?_
 refine Aw ports.length (fun j=>[(3,Aa dom),(6,.ref 8 (Al n) 0),(10,.ref 7 (Bo q) 0),(12,.sl 3 A0 u),(13,.ptr 13 0),(23,.clo (.func 234) [] [.ptr 13 0]),(25,.sl 1 Aa peers),(100,.sl 1 Aa ports),(101,Aa ports.length),(102,Aa j)])
  (fun j=>[(13,.box [.osl 1000]),(1000,.row 9 D5 ((ports.take j).map (Yt n dom q.frame)))]) [(13,13),(1000,1000)] ⟨⟨rfl,rfl,rfl,rfl,rfl,rfl,rfl,rfl,rfl,rfl,rfl,rfl,rfl,rfl,rfl,rfl,rfl,rfl,rfl,rfl,trivial⟩,⟨.inl rfl,rfl,.inl rfl,rfl,trivial⟩,rfl,rfl⟩ ?_
 intro j hj
 refine rg ?_;conv=>whnf
 refine⟨fun h=>?_,fun h=>?_⟩
 ·have hlt:j<ports.length:=by have:=of_decide_eq_true h;omega
  have hj0:((j:Nat):Int).toNat<ports.length:=by simpa using hlt
  obtain ⟨p,hp⟩:∃ p,ports[j]=p:=⟨_,rfl⟩
  have e1:ports[((j:Nat):Int).toNat]'hj0=p:=hp
  have hs:(ports.take (j+1)).map (Yt n dom q.frame)=(ports.take j).map (Yt n dom q.frame)++[Yt n dom q.frame p]:=by
   rw[List.take_succ_eq_append_getElem hlt,List.map_append,hp];rfl
  have hal:((ports.take j).map (Yt n dom q.frame)).length=j:=by rw[List.length_map,List.length_take];omega
  have hpi:=hports p (by rw[← hp];exact List.getElem_mem hlt)
  have hpk:p.toNat<n.ports.length:=by omega
  have ql:=Amq n hn p dom q.frame hq.frame
  have hop:Yt n dom q.frame p=S2 (Ajn (if (nth n.ports p).link<0 then 1 else 2) p 0) ((leaveT n p dom q.frame).1,(leaveT n p dom q.frame).2):=rfl
  rw[hop,Ah hpk]at hs
  clear hop
  obtain ⟨acc,hacc⟩:∃ acc,(ports.take j).map (Yt n dom q.frame)=acc:=⟨_,rfl⟩
  rw[hacc]at hs hal ⊢
  obtain ⟨x,hx⟩:∃ x,n.ports[p.toNat]'hpk=x:=⟨_,rfl⟩
  rw[hx]at hs
  clear h
  refine rg ?_;conv=>whnf
  refine⟨E,by omega,hj0,?_⟩
  rw[e1]
  conv=>whnf
  refine⟨E,hpi.1,hpk,?_⟩
  rw[hx]
  conv=>whnf
  refine⟨fun h=>?_,fun h=>?_⟩
  ·rw[if_neg (by have:=of_decide_eq_true h;omega)]at hs
   refine rg ?_;conv=>whnf
   refine Ag ql F236 E E E E E ?_
   refine rg ?_;conv=>whnf
   refine Ai (Hj [(0,13),(1,1000),(2,1001)] [] (Cu E E F234) (Q2 acc 2 p 0 (leaveT n p dom q.frame).1 (leaveT n p dom q.frame).2 qn) (.cons (.agg (.cons (.refl _) (.cons (.refl _) (.cons (.refl _) (.cons .nil (.cons (.refl _) (.cons (.refl _) (.cons (.refl _) (.cons .nil (.cons (.refl _) .nil)))))))))) (.cons (.refl _) (.cons (.refl _) (.cons (.refl _) .nil)))) ⟨E,E,Y⟩ E ⟨.inl E,.inl E,.inr E,Y⟩ E) E E ?_
   refine rg ?_;conv=>whnf
   refine⟨by unfold I64;omega,?_⟩
   conv=>whnf
   exact Ar [(13,13),(1000,1001)] hlt ⟨⟨E,E,E,E,E,E,E,E,E,E,E,E,E,E,E,E,E,E,E,E,Y⟩,⟨.inl E,E,.inl (congrArg (Ob.row 9 D5) hs),E,Y⟩,E,E⟩
  ·rw[if_pos (by have:=of_decide_eq_false h;omega)]at hs
   refine rg ?_;conv=>whnf
   refine Ag ql F236 E E E E E ?_
   refine rg ?_;conv=>whnf
   refine Ai (Hj [(0,13),(1,1000),(2,1001)] [] (Cu E E F234) (Q2 acc 1 p 0 (leaveT n p dom q.frame).1 (leaveT n p dom q.frame).2 qn) (.cons (.agg (.cons (.refl _) (.cons (.refl _) (.cons (.refl _) (.cons .nil (.cons (.refl _) (.cons (.refl _) (.cons (.refl _) (.cons .nil (.cons (.refl _) .nil)))))))))) (.cons (.refl _) (.cons (.refl _) (.cons (.refl _) .nil)))) ⟨E,E,Y⟩ E ⟨.inl E,.inl E,.inr E,Y⟩ E) E E ?_
   refine rg ?_;conv=>whnf
   refine⟨by unfold I64;omega,?_⟩
   conv=>whnf
   exact Ar [(13,13),(1000,1001)] hlt ⟨⟨E,E,E,E,E,E,E,E,E,E,E,E,E,E,E,E,E,E,E,E,Y⟩,⟨.inl E,E,.inl (congrArg (Ob.row 9 D5) hs),E,Y⟩,E,E⟩
 have hjj:j=ports.length:=by have:=of_decide_eq_false h;omega
 subst hjj
 clear h
 rw[List.take_length]
 obtain ⟨acc0,hacc0⟩:∃ acc0,ports.map (Yt n dom q.frame)=acc0:=⟨_,rfl⟩
 have hal0:acc0.length=ports.length:=by rw[← hacc0,List.length_map]
 rw[hacc0]at hres ⊢
 refine rg ?_;conv=>whnf
 refine Aw peers.length (fun j=>[(3,Aa dom),(6,.ref 8 (Al n) 0),(10,.ref 7 (Bo q) 0),(12,.sl 3 A0 u),(13,.ptr 13 0),(23,.clo (.func 234) [] [.ptr 13 0]),(130,.sl 1 Aa peers),(131,Aa peers.length),(132,Aa j)])
  (fun j=>[(13,.box [.osl 1000]),(1000,.row 9 D5 (acc0++(peers.take j).map (Aa0 n dom q.frame)))]) [(13,13),(1000,1000)] ⟨⟨rfl,rfl,rfl,rfl,rfl,rfl,rfl,rfl,rfl,rfl,rfl,rfl,rfl,rfl,rfl,rfl,rfl,rfl,trivial⟩,⟨.inl rfl,rfl,.inl (congrArg (Ob.row 9 D5) qy),rfl,trivial⟩,rfl,rfl⟩ ?_
 intro j hj
 refine rg ?_;conv=>whnf
 refine⟨fun h=>?_,fun h=>?_⟩
 ·have hlt:j<peers.length:=by have:=of_decide_eq_true h;omega
  have hj0:((j:Nat):Int).toNat<peers.length:=by simpa using hlt
  obtain ⟨p,hp⟩:∃ p,peers[j]=p:=⟨_,rfl⟩
  have e1:peers[((j:Nat):Int).toNat]'hj0=p:=hp
  have hs:acc0++(peers.take (j+1)).map (Aa0 n dom q.frame)=(acc0++(peers.take j).map (Aa0 n dom q.frame))++[Aa0 n dom q.frame p]:=by
   rw[List.take_succ_eq_append_getElem hlt,List.map_append,hp,List.append_assoc];rfl
  have hal:(acc0++(peers.take j).map (Aa0 n dom q.frame)).length≤ports.length+j:=by rw[List.length_append,List.length_map,List.length_take];omega
  have ql:=Agb n hn hm0 dom p q.frame hq.frame
  have hop:Aa0 n dom q.frame p=S2 (Ajn 3 0 p) ((meshT n dom p q.frame).1,(meshT n dom p q.frame).2):=rfl
  rw[hop]at hs
  clear hop
  obtain ⟨acc,hacc⟩:∃ acc,acc0++(peers.take j).map (Aa0 n dom q.frame)=acc:=⟨_,rfl⟩
  rw[hacc]at hs hal ⊢
  clear h
  refine rg ?_;conv=>whnf
  refine⟨E,by omega,hj0,?_⟩
  rw[e1]
  conv=>whnf
  refine Ag ql F237 E E E E E ?_
  refine rg ?_;conv=>whnf
  refine Ai (Hj [(0,13),(1,1000),(2,1001)] [] (Cu E E F234) (Q2 acc 3 0 p (meshT n dom p q.frame).1 (meshT n dom p q.frame).2 qn) (.cons (.agg (.cons (.refl _) (.cons (.refl _) (.cons (.refl _) (.cons .nil (.cons (.refl _) (.cons (.refl _) (.cons (.refl _) (.cons .nil (.cons (.refl _) .nil)))))))))) (.cons (.refl _) (.cons (.refl _) (.cons (.refl _) .nil)))) ⟨E,E,Y⟩ E ⟨.inl E,.inl E,.inr E,Y⟩ E) E E ?_
  refine rg ?_;conv=>whnf
  refine⟨by unfold I64;omega,?_⟩
  conv=>whnf
  exact Ar [(13,13),(1000,1001)] hlt ⟨⟨E,E,E,E,E,E,E,E,E,E,E,E,E,E,E,E,E,E,Y⟩,⟨.inl E,E,.inl (congrArg (Ob.row 9 D5) hs),E,Y⟩,E,E⟩
 have hjj:j=peers.length:=by have:=of_decide_eq_false h;omega
 subst hjj
 clear h
 rw[List.take_length]
 subst hres
 refine rg ?_;conv=>whnf
 refine⟨qq,?_⟩
 conv=>whnf
 refine Au 1000 E ?_
 exact Ac E (.cons .tmp (.cons (.cell E E E E) (.cons .tmp .nil))) E E
theorem Lc {l:List QueuedM} (h:Hb l):l.length<1000000∧M7 l:=⟨by have:=h.1;omega,fun q hq=>by have:=(h.2 q hq).frame.body;omega⟩
theorem Wb {α:Type} {l:List α} {i:Nat} (h:i<l.length) (d:α):(l[i]?).getD d=l[i]:=by
 rw[List.getElem?_eq_getElem h];rfl
theorem placeB_iff {d:Int} {k:Nat}:Aj d k=true↔0≤d∧d.toNat<k:=by
 simp only[Aj,Bool.and_eq_true,decide_eq_true_eq];omega
theorem Aiw (n:Net) (m:MacM) (d:Bool) (dom:Int) (hl:Hb (queueL m dom)) :
  Sy.Spec Tryz.prog 54 [.ptr 0 0,Aa dom] (C0 n m d) (.sl 7 Bo (if Aj dom m.queues.length then queueL m dom else [])) (C0 n m d):=Ab Γ hm 100 F54 Tryz.ntmps54 rfl fun F hF=>by
 have h1:=Ahl n m d dom
 have hpl:=placeB_iff (d:=dom) (k:=m.queues.length)
 generalize Aj dom m.queues.length=b at *
 have hb:=Lc hl
 have h2:=W8 _ (-1) hb.1 hb.2
 have h3:takeT (queueL m dom) (-1)=(noQ,queueL m dom,false):=by rw[takeT];exact if_pos (.inl qx)
 rw[h3]at h2
 clear h3 hb hl
 have hres:=queueL.eq_1 m dom
 generalize queueL m dom=res at *
 conv=>whnf
 refine Ai (Ak [] E F119 h1 E ⟨E,E,E,E,Y⟩ E ⟨.inl E,.inl E,.inl E,.inl E,Y⟩) E E ?_
 refine rg ?_;conv=>whnf
 cases b
 ·(refine⟨fun _=>?_,fun h=>False.elim (absurd h qx)⟩;refine rg ?_;conv=>whnf)
  refine Ap 4 7 Bo E ?_
  exact done E (.cons .tmp .nil) [] (C0 n m d) (fun _ h=>h) E E ⟨Y,⟨.inl E,E,.inl E,E,.inl E,E,.inl E,E,Y⟩,E,E⟩
 have hd:=hpl.1 rfl
 have hlt:dom.toNat<m.queues.length:=hd.2
 rw[Wb hlt]at hres
 subst hres
 (refine⟨fun h=>False.elim (absurd h qx),fun _=>?_⟩;refine rg ?_;conv=>whnf)
 refine⟨hd.1,by omega,?_⟩
 conv=>whnf
 refine⟨E,hlt,?_⟩
 conv=>whnf
 refine Ag h2 F120 E E E E E ?_
 refine rg ?_;conv=>whnf
 exact done E (.cons .tmp .nil) [] (C0 n m d) (fun _ h=>h) E E ⟨Y,⟨.inl E,E,.inl E,E,.inl E,E,.inl E,E,Y⟩,E,E⟩
def Oq (m:MacM):Prop:=∀ i,0≤m.drops i∧m.drops i≤1000000000000
theorem Sf (n:Net) (m:MacM) (d:Bool) (dom:Int) (q:QueuedM) (e:Int) (he:0≤e∧e<64) (hd:e=0→0≤dom∧dom.toNat<m.queues.length) (hb:Oq m) (hl:Hb (queueL m dom)) (hq:QueuedOK q) :
  Sy.Spec Tryz.prog 173 [.ptr 0 0,Aa dom,Bo q,Aa e] (C0 n m d) (.tup []) (C0 n (comeM m dom q e) d):=Ab Γ hm 100 F173 Tryz.ntmps173 rfl fun F hF=>by
 have hqb:=Lc hl
 have hp:=Ac8 _ q hqb.1 hqb.2 (by have:=hq.frame.body;omega)
 have h1:=Aej n m d e he.1 he.2 (hb _)
 have h3:=Aej n m d 3 qx qx (hb _)
 have hres:=comeM.eq_1 m dom q e
 generalize comeM m dom q e=res at *
 conv=>whnf
 refine⟨fun h=>?_,fun h=>?_⟩
 ·rw[if_pos (by simpa using h)]at hres
  subst hres
  refine rg ?_;conv=>whnf
  refine Ai (Ak [] E F176 h1 E ⟨E,E,E,E,Y⟩ E ⟨.inl E,.inl E,.inl E,.inl E,Y⟩) E E ?_
  refine rg ?_;conv=>whnf
  exact done E .nil [] (C0 n (Ca m e) d) (fun _ h=>h) E E ⟨Y,⟨.inl E,E,.inl E,E,.inl E,E,.inl E,E,Y⟩,E,E⟩
 have h0:e=0:=by simpa using h
 have hd:=hd h0
 rw[if_neg (by rw[h0];decide)]at hres
 clear h hqb h1 hl he
 have hq0:=queueL.eq_1 m dom
 rw[Wb hd.2]at hq0
 generalize queueL m dom=l at *
 generalize pushT l q=r at *
 obtain ⟨l2,ok⟩:=r
 subst hq0
 refine rg ?_;conv=>whnf
 refine⟨hd.1,hd.2,?_⟩
 conv=>whnf
 refine⟨E,hd.2,?_⟩
 conv=>whnf
 refine Aq hp F228 E E E qq E ?_
 refine rd qq ?_;conv=>whnf
 refine⟨qq,?_⟩
 conv=>whnf
 cases ok
 ·rw[if_neg qy]at hres
  subst hres
  (refine⟨fun _=>?_,fun h=>False.elim (by simp at h)⟩;refine rg ?_;conv=>whnf)
  refine Ai (Ak [] E F176 h3 E ⟨E,E,E,E,Y⟩ E ⟨.inl E,.inl E,.inl E,.inl E,Y⟩) E E ?_
  refine rg ?_;conv=>whnf
  exact done E .nil [] (C0 n (Ca m 3) d) (fun _ h=>h) E E ⟨Y,⟨.inl E,E,.inl E,E,.inl E,E,.inl E,E,Y⟩,E,E⟩
 ·rw[if_pos rfl]at hres
  subst hres
  (refine⟨fun h=>False.elim (by simp at h),fun _=>?_⟩;refine rg ?_;conv=>whnf)
  refine⟨hd.1,hd.2,?_⟩
  conv=>whnf
  refine⟨E,hd.2,l2,E,E,?_⟩
  conv=>whnf
  exact Ba E .nil [] (C0 n (Aiz m dom l2) d) (fun _ h=>h) E E ⟨Y,⟨.inl E,E,.inl E,E,.inl E,E,.inl E,E,Y⟩,E,E⟩
theorem Ack (n:Net) (m:MacM) (d:Bool) (dom at_:Int) (hl:Hb (queueL m dom)) :
  Sy.Spec Tryz.prog 116 [.ptr 0 0,Aa dom,Aa at_] (C0 n m d) (.tup [Bo (takeM m dom at_).2.1,Ad (takeM m dom at_).2.2]) (C0 n (takeM m dom at_).1 d):=Ab Γ hm 100 F116 Tryz.ntmps116 rfl fun F hF=>by
 have hqb:=Lc hl
 have hp:=W8 _ at_ hqb.1 hqb.2
 have h1:=Ahl n m d dom
 have hpl:=placeB_iff (d:=dom) (k:=m.queues.length)
 have hres:=takeM.eq_1 m dom at_
 generalize takeM m dom at_=res at *
 generalize Aj dom m.queues.length=b at *
 have hq0:=queueL.eq_1 m dom
 clear hl hqb
 generalize queueL m dom=l at *
 generalize takeT l at_=r at *
 obtain ⟨q,l2,ok⟩:=r
 conv=>whnf
 refine Ai (Ak [] E F119 h1 E ⟨E,E,E,E,Y⟩ E ⟨.inl E,.inl E,.inl E,.inl E,Y⟩) E E ?_
 refine rg ?_;conv=>whnf
 cases b
 ·rw[if_pos rfl]at hres
  subst hres
  (refine⟨fun _=>?_,fun h=>False.elim (absurd h qx)⟩;refine rg ?_;conv=>whnf)
  refine Bc 6 [Aa 0,Aa 0,Aa 0,Bf 0,Bf 0,Aa 0,.sl 1 Ao []] E (.cons (.refl _) (.cons (.refl _) (.cons (.refl _) (.cons (.refl _) (.cons (.refl _) (.cons (.refl _) (.cons .nil .nil))))))) ?_
  exact done E (.cons (.cell E E E E) (.cons .tmp .nil)) [] (C0 n m d) (fun _ h=>h) E E ⟨Y,⟨.inl E,E,.inl E,E,.inl E,E,.inl E,E,Y⟩,E,E⟩
 have hd:=hpl.1 rfl
 rw[Wb hd.2]at hq0
 subst hq0
 rw[if_neg qy]at hres
 subst hres
 (refine⟨fun h=>False.elim (absurd h qx),fun _=>?_⟩;refine rg ?_;conv=>whnf)
 refine⟨hd.1,hd.2,?_⟩
 conv=>whnf
 refine⟨E,hd.2,?_⟩
 conv=>whnf
 refine Ag hp F120 E E E E E ?_
 refine rg ?_;conv=>whnf
 refine⟨hd.1,hd.2,?_⟩
 conv=>whnf
 refine⟨E,hd.2,l2,E,E,?_⟩
 conv=>whnf
 exact done E (.cons (.cell E E E E) (.cons .tmp .nil)) [] (C0 n (Aiz m dom l2) d) (fun _ h=>h) E E ⟨Y,⟨.inl E,E,.inl E,E,.inl E,E,.inl E,E,Y⟩,E,E⟩
theorem Afh (n:Net) (hn:n.Fin) (m:MacM) (d:Bool) (J D:Int) (hm0:MacOK n m J D) (hJ:J<1000000000000) (hD:D≤1000000000000) (port:Int) (b:List UInt8) (hb:b.length<100000) :
  Sy.Spec Tryz.prog 114 [.ptr 0 0,Aa port,.sl 1 Ao b] (C0 n m d) (.tup []) (C0 n (injectT n m port b) d):=Ab Γ hm 100 F114 Tryz.ntmps114 rfl fun F hF=>by
 have hres:=injectT.eq_1 n m port b
 generalize injectT n m port b=res at *
 have hpl:=placeB_iff (d:=port) (k:=n.ports.length)
 have hinj:=hm0.inj
 have hok:MacOK n ⟨m.up,m.tables,m.queues,m.now,m.injected+1,m.drops⟩ (J+1) D:=⟨hm0.up,hm0.tabs,hm0.ques,hm0.tab,hm0.que,hm0.now,⟨by dsimp only;omega,by dsimp only;omega⟩,hm0.drp⟩
 have hdr:Oq ⟨m.up,m.tables,m.queues,m.now,m.injected+1,m.drops⟩:=fun i=>⟨(hm0.drp i).1,by have:=(hm0.drp i).2;dsimp only at *;omega⟩
 have he:=X2 n port b
 have hdom:=X3 (n:=n) (port:=port) (b:=b)
 have q1:=Aee n hn port b hb
 have hfr:=Uu n port b
 generalize enterT n port b=r at *
 have q2:=fun (hp:0≤port∧port.toNat<n.ports.length)=>Sf n ⟨m.up,m.tables,m.queues,m.now,m.injected+1,m.drops⟩ d r.1 ⟨port,0,m.injected+1,r.2.1⟩ r.2.2 ⟨he.1,by have:=he.2;omega⟩ (fun h=>by
  have:=hdom h
  exact⟨this.1,by show r.1.toNat<m.queues.length;rw[hm0.ques];exact this.2⟩) hdr (Eo hok _) (Hf hfr _ ⟨by omega,by have:=hn.ports;unfold An at this;omega⟩ qx)
 conv=>whnf
 refine⟨fun h=>?_,fun h=>?_⟩
 ·have h:=of_decide_eq_true h
  rw[if_pos (.inl (by cases hx:Aj port n.ports.length;rfl;exact absurd (hpl.1 hx) qn))]at hres
  subst hres
  (refine rg ?_;(conv=>whnf);refine aT ?_;refine rg ?_;(conv=>whnf);refine aT ?_;refine rg ?_;conv=>whnf)
  (skip)
  exact done E .nil [] (C0 n res d) (fun _ h=>h) E E ⟨Y,⟨.inl E,E,.inl E,E,.inl E,E,.inl E,E,Y⟩,E,E⟩
 have h0:=of_decide_eq_false h
 clear h
 refine rg ?_;conv=>whnf
 refine⟨fun h=>?_,fun h=>?_⟩
 ·have h:=of_decide_eq_true h
  rw[if_pos (.inl (by cases hx:Aj port n.ports.length;rfl;exact absurd (hpl.1 hx) qn))]at hres
  subst hres
  (refine rg ?_;(conv=>whnf);refine aT ?_;refine rg ?_;conv=>whnf)
  (skip)
  exact done E .nil [] (C0 n res d) (fun _ h=>h) E E ⟨Y,⟨.inl E,E,.inl E,E,.inl E,E,.inl E,E,Y⟩,E,E⟩
 have h1:=of_decide_eq_false h
 clear h
 have hp:0≤port∧port.toNat<n.ports.length:=by omega
 rw[hpl.2 hp,Ah hp.2]at hres
 obtain ⟨p,hpp⟩:∃ p,n.ports[port.toNat]'hp.2=p:=⟨_,rfl⟩
 rw[hpp]at hres
 refine rg ?_;conv=>whnf
 refine⟨E,hp.1,hp.2,?_⟩
 rw[hpp]
 conv=>whnf
 refine⟨fun h=>?_,fun h=>?_⟩
 ·have h:=of_decide_eq_true h
  rw[if_pos (.inr h)]at hres
  subst hres
  refine rg ?_;conv=>whnf
  exact done E .nil [] (C0 n res d) (fun _ h=>h) E E ⟨Y,⟨.inl E,E,.inl E,E,.inl E,E,.inl E,E,Y⟩,E,E⟩
 have h2:=of_decide_eq_false h
 clear h
 rw[if_neg (by simp;omega)]at hres
 subst hres
 refine rg ?_;conv=>whnf
 refine⟨by unfold I64;omega,?_⟩
 conv=>whnf
 refine Ag q1 F172 E E E E E ?_
 refine rg ?_;conv=>whnf
 refine Bn (Ak [] E F173 (q2 hp) E ⟨E,E,E,E,Y⟩ E ⟨.inl E,.inl E,.inl E,.inl E,Y⟩) qq E ?_
 refine rd qq ?_;conv=>whnf
 refine⟨qq,?_⟩
 conv=>whnf
 refine Ba E .nil [] (C0 n (comeM _ _ _ _) d) (fun _ h=>h) E E ⟨Y,⟨.inl E,E,.inl E,E,.inl E,E,.inl E,E,Y⟩,E,E⟩
end Go.Sy.YteinjapglfkamaaGreat
