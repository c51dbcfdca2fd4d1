/-
  K35 K36 K37 K38 A7 D5 D6 K39 K40 K41 K42 K8 K9 K10 K11 K15 K16 K17 K18 K19 K20 K21 K22 K23 K12 K13 K14 K24 K43 K44 Z5 Z6 Z7 Z8 Z9 Z10 Z11: parts of a proof, joined by program.
-/
import Derived.Test.YtmelpejjondedaaGreatV6
import Derived.Test.YtmelpejjondedaaGreatV4
import Derived.Test.YtmelpejjondedaaGreatV3
import Derived.Test.YtmelpejjondedaaGreatV5
import Derived.Tactics
import Derived.Tactics2
import Derived.Defers
import Derived.Laws.Pointers
import Derived.Laws.LoneSync
import Derived.RegionTactic
import Derived.RegionCalls
import Derived.ChangeAlike
import Derived.Laws.NewBlocks
namespace Go.Sy.YtmelpejjondedaaGreat
open Go.Proofs
attribute [local irreducible] Go.Sy.G Go.Sy.DR
set_option maxRecDepth 100000
set_option maxHeartbeats 4000000
theorem Oy (l:List Device) (p:Device → Bool) (f:FuncId) (first cap:List SV) (hc:(SV.clo (.func f) first cap).inn [] = true) (hf:∀ x ∈ l,Hm Tryz.prog f (first ++ [Bj x] ++ cap) (Ad (p x))) (hl:Am l) :
  Sy.Spec Tryz.prog 318 [.sl 5 Bj l,.clo (.func f) first cap] [] (Aa (Dl p l)) []:=Ab Γ hm 100 F318 Tryz.ntmps318 rfl fun F hF=>by
 unfold Am at hl
 have hin:∀ x:Device,B3 [] (first ++ [Bj x] ++ cap) = true:=fun x=>Co hc rfl
 conv=>whnf
 refine Bc l.length (fun j=>Ep (fun _ x=>!(p x)) l j) (fun j=>[(0,.sl 5 Bj l),(1,.clo (.func f) first cap),(7,Aa l.length),(8,Aa j)]) (fun _=>[]) [] (Bf _ _) ⟨⟨E,E,A2 _,hc,E,E,E,E,Y⟩,Y,E,E⟩ ?_
 intro j hj hI
 refine rg ?_;conv=>whnf
 refine ⟨fun h=>?_,fun h=>?_⟩
 ·have h:=of_decide_eq_true h
  have hj2:j < l.length:=by omega
  refine rg ?_;conv=>whnf
  refine ⟨E,by omega,by omega,?_⟩
  conv=>whnf
  refine Du (hf l[j] (List.getElem_mem hj2)) E E E (by simp only [hin]; rfl) E E ?_
  refine rg ?_;conv=>whnf
  refine ⟨fun h2=>?_,fun h2=>?_⟩
  ·refine rg ?_;conv=>whnf
   refine Ac E (.cons .tmp .nil) (congrArg Aa ?_) E
   exact Ef hj2 (fun i hi hij=>by simpa using hI i hi hij) h2
  ·refine rg ?_;conv=>whnf
   refine ⟨by unfold I64; omega,?_⟩
   conv=>whnf
   exact Ba [] hI hj2 (Bb hI hj2 (by simp [h2])) ⟨⟨E,E,A2 _,hc,E,E,E,E,Y⟩,Y,E,E⟩
 ·have h:=of_decide_eq_false h
  refine rg ?_;conv=>whnf
  refine Ac E (.cons .tmp .nil) (congrArg Aa ?_) E
  exact E3 (fun i hi=>by simpa using hI i hi (by omega))
theorem Yr {n:Net} (hb:Af n = true) {d:Int} (hd:DomIn n d):0 ≤ (n.domains[d.toNat]'hd.2).dev ∧ (n.domains[d.toNat]'hd.2).dev.toNat < n.devices.length:=by
 simp only [Af,Bool.and_eq_true] at hb
 have:=Abk hb.1.1.1.1.1.1.1.2 hd.2
 have:=Bh this
 omega
theorem Y5 {n:Net} (hb:Af n = true) {d:Int} (hd:DomIn n d):Hn n d = (n.devices[(n.domains[d.toNat]'hd.2).dev.toNat]'(Yr hb hd).2).vtep:=by
 rw [Hn,An hd.2,An (Yr hb hd).2]
theorem Y4 {n:Net} (hm:n.Num) (hb:Af n = true) {d:Int} (hd:DomIn n d):0 ≤ Hn n d ∧ Hn n d < 4294967296:=by
 rw [Y5 hb hd]
 exact hm.vtep _ (List.getElem_mem _)
theorem Ms (n:Net) (hb:Af n = true) (d:Int) (hd:DomIn n d):Sy.Spec Tryz.prog 254 [Aq n,Aa d] [] (Cf (Hn n d)) []:=Ab Γ hm 100 F254 Tryz.ntmps254 rfl fun F hF=>by
 have hv:=Y5 hb hd
 have h2:=Yr hb hd
 obtain ⟨x,hx⟩:∃ x,n.domains[d.toNat]'hd.2 = x:=⟨_,rfl⟩
 rw [hx] at h2
 simp only [hx] at hv
 obtain ⟨y,hy⟩:∃ y,n.devices[x.dev.toNat]'h2.2 = y:=⟨_,rfl⟩
 rw [hy] at hv
 rw [hv]
 conv=>whnf
 refine ⟨E,hd.1,hd.2,?_⟩
 rw [hx]
 conv=>whnf
 refine ⟨E,h2.1,h2.2,?_⟩
 rw [hy]
 conv=>whnf
 refine ⟨(by kernel_rfl),?_⟩
 conv=>whnf
 exact Ac E (.cons .tmp .nil) E E
theorem Acz (n:Net) (hn:n.Fin) (hm0:n.Num) (dom peer:Int) (f:FrameM) (h:FrameOK f) :
  Sy.Spec Tryz.prog 178 [Aq n,Aa dom,Aa peer,By f] [] (.tup [.sl 1 Al (meshT n dom peer f).1,Aa (meshT n dom peer f).2]) []:=Ab Γ hm 100 F178 Tryz.ntmps178 rfl fun F hF=>by
 have hres:=meshT.eq_1 n dom peer f
 generalize meshT n dom peer f = res at *
 have hr:=Bm n hn
 have hpS:=Ip peer n.domains.length
 have hdS:=Ip dom n.domains.length
 conv=>whnf
 refine B1 4 8 (Aq n) E E E ?_
 refine B1 7 4 (By f) E E E ?_
 refine rg ?_;conv=>whnf
 refine Ag hpS F250 E E E E E ?_
 cases hpl:Aj peer n.domains.length
 ·rw [if_pos (.inl hpl)] at hres
  subst hres
  (refine rg ?_;(conv=>whnf);refine aT ?_;refine rg ?_;(conv=>whnf);refine aT ?_;refine rg ?_;(conv=>whnf);refine aT ?_;refine rg ?_;conv=>whnf)
  refine Ao 8 1 Al E ?_
  exact Ac E (.cons .tmp (.cons .tmp .nil)) E E
 (refine rg ?_;(conv=>whnf);refine aF ?_;refine rg ?_;conv=>whnf)
 refine Ag hdS F250 E E E E E ?_
 cases hdl:Aj dom n.domains.length
 ·rw [if_pos (.inr (.inl hdl))] at hres
  subst hres
  (refine rg ?_;(conv=>whnf);refine aT ?_;refine rg ?_;(conv=>whnf);refine aT ?_;refine rg ?_;conv=>whnf)
  refine Ao 8 1 Al E ?_
  exact Ac E (.cons .tmp (.cons .tmp .nil)) E E
 (refine rg ?_;(conv=>whnf);refine aF ?_;refine rg ?_;conv=>whnf)
 refine Ag hr F67 E E E E E ?_
 cases hbn:Af n
 ·rw [if_pos (.inr (.inr hbn))] at hres
  subst hres
  (refine rg ?_;(conv=>whnf);refine aT ?_;refine rg ?_;conv=>whnf)
  refine Ao 8 1 Al E ?_
  exact Ac E (.cons .tmp (.cons .tmp .nil)) E E
 rw [if_neg (by simp [hbn,hpl,hdl])] at hres
 have hd:=H9 hdl
 have hp:=H9 hpl
 have hd0:=hd.1
 have hkd:=hd.2
 have e2:nth n.domains dom = n.domains[dom.toNat]:=An hkd
 have hpe:=hn.peers _ (List.getElem_mem hkd)
 have va:=Y4 hm0 hbn hd
 have vb:=Y4 hm0 hbn hp
 have qa:=Ms n hbn dom hd
 have qb:=Ms n hbn peer hp
 generalize Hn n dom = a at *
 generalize Hn n peer = c at *
 obtain ⟨a,rfl⟩:=Int.eq_ofNat_of_zero_le va.1
 obtain ⟨c,rfl⟩:=Int.eq_ofNat_of_zero_le vb.1
 rw [Int.toNat_natCast,Int.toNat_natCast] at hres
 obtain ⟨d,hdd⟩:∃ d,n.domains[dom.toNat]'hkd = d:=⟨_,rfl⟩
 rw [hdd] at e2 hpe
 rw [e2] at hres
 have qc:=C5 d.peers peer hpe
 have qw:=Akn a c d.vni f (by omega) (by omega) h
 (refine rg ?_;(conv=>whnf);refine aF ?_;refine rg ?_;conv=>whnf)
 refine ⟨E,hd0,hkd,?_⟩
 rw [hdd]
 conv=>whnf
 refine Ag qc F86 E E E E E ?_
 cases hi:inB d.peers peer
 ·rw [if_pos hi] at hres
  subst hres
  (refine rg ?_;(conv=>whnf);refine aT ?_;refine rg ?_;conv=>whnf)
  refine Ao 8 1 Al E ?_
  exact Ac E (.cons .tmp (.cons .tmp .nil)) E E
 rw [if_neg (by rw [hi]; decide)] at hres
 subst hres
 (refine rg ?_;(conv=>whnf);refine aF ?_;refine rg ?_;conv=>whnf)
 refine Ay qa F254 E E E (by kernel_rfl) E ?_
 refine rd (by kernel_rfl) ?_;conv=>whnf
 refine Ay qb F254 E E E (by kernel_rfl) E ?_
 refine rd (by kernel_rfl) ?_;conv=>whnf
 refine ⟨E,hd0,hkd,?_⟩
 rw [hdd]
 conv=>whnf
 refine Ay qw F253 E E E (by kernel_rfl) E ?_
 refine rd (by kernel_rfl) ?_;conv=>whnf
 refine ⟨(by kernel_rfl),?_⟩
 conv=>whnf
 exact Ac E (.cons .tmp (.cons .tmp .nil)) E E
theorem endsC1 (dst:Int) (d:Device):Sy.Spec Tryz.prog 319 [Bj d,.ref 1 (Cf dst) 0] [] (Ad (decide (d.vtep = dst))) []:=Ab Γ hm 100 F319 Tryz.ntmps319 rfl fun F hF=>by
 conv=>whnf
 refine Ac E (.cons .tmp .nil) (congrArg Ad ?_) E
 rw [Bool.eq_iff_iff]
 simp
theorem endsC2 (dev vni:Int) (d:Domain):Sy.Spec Tryz.prog 320 [Au d,.ref 1 (Aa dev) 0,.ref 1 (Aa vni) 0] [] (Ad (decide (d.dev = dev) && decide (d.vni = vni))) []:=Ab Γ hm 100 F320 Tryz.ntmps320 rfl fun F hF=>by
 conv=>whnf
 refine ⟨fun h=>?_,fun h=>?_⟩
 ·have h1:d.dev = dev:=by simpa using h
  refine rg ?_;conv=>whnf
  refine Ac E (.cons .tmp .nil) (congrArg Ad ?_) E
  rw [decide_eq_true h1,Bool.true_and,Bool.eq_iff_iff]
  simp
 ·have h1:¬ d.dev = dev:=by simpa using h
  refine rg ?_;conv=>whnf
  refine Ac E (.cons .tmp .nil) (congrArg Ad ?_) E
  rw [decide_eq_false h1,Bool.false_and]
theorem endsC3 (n:Net) (hb:Af n = true) (src:Int) (k:Int) (hk:DomIn n k):Sy.Spec Tryz.prog 322 [Aa k,.ref 8 (Aq n) 0,.ref 1 (Cf src) 0] [] (Ad (decide (Hn n k = src))) []:=Ab Γ hm 100 F322 Tryz.ntmps322 rfl fun F hF=>by
 have q:=Ms n hb k hk
 conv=>whnf
 refine Ay q F254 E E E (by kernel_rfl) E ?_
 refine rd (by kernel_rfl) ?_;conv=>whnf
 refine ⟨(by kernel_rfl),?_⟩
 conv=>whnf
 refine Ac E (.cons .tmp .nil) (congrArg Ad ?_) E
 rw [Bool.eq_iff_iff]
 simp
theorem endsS (n:Net) (hn:n.Fin) (hb:Af n = true) (src dst:Nat) (vni:Int) :
  Sy.Spec Tryz.prog 260 [Aq n,Cf src,Cf dst,Aa vni] [] (.tup [Aa (endsT n src dst vni).1,Aa (endsT n src dst vni).2]) []:=Ab Γ hm 100 F260 Tryz.ntmps260 rfl fun F hF=>by
 have hres:=endsT.eq_1 n src dst vni
 dsimp only at hres
 generalize endsT n src dst vni = res at *
 have q1:=Oy n.devices (fun d=>decide (d.vtep = (dst:Int))) 319 [] [.ref 1 (Cf dst) 0] rfl (fun d _=>⟨⟨_,_,F319⟩,endsC1 dst d⟩) hn.devices
 generalize Dl (fun d:Device=>decide (d.vtep = (dst:Int))) n.devices = dev at *
 have q2:=Ev n.domains (fun d=>decide (d.dev = dev) && decide (d.vni = vni)) 320 [] [.ref 1 (Aa dev) 0,.ref 1 (Aa vni) 0] rfl (fun d _=>⟨⟨_,_,F320⟩,endsC2 dev vni d⟩) hn.domains
 have hlt:=Hb (fun d:Domain=>decide (d.dev = dev) && decide (d.vni = vni)) n.domains
 generalize Dl (fun d:Domain=>decide (d.dev = dev) && decide (d.vni = vni)) n.domains = dom at *
 conv=>whnf
 refine B1 4 8 (Aq n) E E E ?_
 refine B1 5 1 (Cf src) E E E ?_
 refine B1 6 1 (Cf dst) E E E ?_
 refine B1 7 1 (Aa vni) E E E ?_
 refine rg ?_;conv=>whnf
 refine Ag q1 F318 E E E E E ?_
 refine rg ?_;conv=>whnf
 refine B1 10 1 (Aa dev) E E E ?_
 refine rg ?_;conv=>whnf
 refine Ag q2 F262 E E E E E ?_
 refine rg ?_;conv=>whnf
 refine ⟨fun h=>?_,fun h=>?_⟩
 ·rw [if_pos (.inl (of_decide_eq_true h))] at hres
  subst hres
  (refine rg ?_;(conv=>whnf);refine aT ?_;refine rg ?_;conv=>whnf)
  exact Ac E (.cons .tmp (.cons .tmp .nil)) E E
 have h1:=of_decide_eq_false h
 clear h
 refine rg ?_;conv=>whnf
 refine ⟨fun h=>?_,fun h=>?_⟩
 ·rw [if_pos (.inr (of_decide_eq_true h))] at hres
  subst hres
  refine rg ?_;conv=>whnf
  exact Ac E (.cons .tmp (.cons .tmp .nil)) E E
 have h2:=of_decide_eq_false h
 clear h
 rw [if_neg (fun h=>h.elim h1 h2)] at hres
 have hd0:0 ≤ dom:=by omega
 have hkd:dom.toNat < n.domains.length:=by omega
 have e2:nth n.domains dom = n.domains[dom.toNat]:=An hkd
 have hpe:=hn.peers _ (List.getElem_mem hkd)
 have hpin:∀ k ∈ (n.domains[dom.toNat]'hkd).peers,DomIn n k:=fun k hk=>Z5 hb hkd hk
 obtain ⟨d,hdd⟩:∃ d,n.domains[dom.toNat]'hkd = d:=⟨_,rfl⟩
 rw [hdd] at e2 hpe hpin
 rw [e2] at hres
 have q3:=Ic d.peers (fun k=>decide (Hn n k = (src:Int))) 322 [] [.ref 8 (Aq n) 0,.ref 1 (Cf src) 0] rfl (fun k hk=>⟨⟨_,_,F322⟩,endsC3 n hb src k (hpin k hk)⟩) hpe
 have hlt2:=Hb (fun k:Int=>decide (Hn n k = (src:Int))) d.peers
 generalize Dl (fun k:Int=>decide (Hn n k = (src:Int))) d.peers = i at *
 refine rg ?_;conv=>whnf
 refine ⟨E,hd0,hkd,?_⟩
 rw [hdd]
 conv=>whnf
 refine Ag q3 F321 E E E E E ?_
 refine rg ?_;conv=>whnf
 refine ⟨fun h=>?_,fun h=>?_⟩
 ·rw [if_pos (of_decide_eq_true h)] at hres
  subst hres
  refine rg ?_;conv=>whnf
  exact Ac E (.cons .tmp (.cons .tmp .nil)) E E
 have h3:=of_decide_eq_false h
 clear h
 rw [if_neg h3] at hres
 have hki:i.toNat < d.peers.length:=by omega
 rw [An hki] at hres
 subst hres
 refine rg ?_;conv=>whnf
 refine ⟨E,by omega,hki,?_⟩
 conv=>whnf
 exact Ac E (.cons .tmp (.cons .tmp .nil)) E E
theorem Ac1 (n:Net) (hn:n.Fin) (b:List UInt8) (hb:b.length < 100000) :
  Sy.Spec Tryz.prog 183 [Aq n,.sl 1 Al b] [] (.tup [Aa (comeT n b).1,Aa (comeT n b).2.1,By (comeT n b).2.2.1,Aa (comeT n b).2.2.2]) []:=Ab Γ hm 100 F183 Tryz.ntmps183 rfl fun F hF=>by
 have hres:=comeT.eq_1 n b
 generalize comeT n b = res at *
 have hr:=Bm n hn
 conv=>whnf
 refine B1 2 8 (Aq n) E E E ?_
 refine rg ?_;conv=>whnf
 refine Ag hr F67 E E E E E ?_
 cases hbn:Af n
 ·rw [if_pos hbn] at hres
  subst hres
  (refine rg ?_;(conv=>whnf);refine aT ?_;refine rg ?_;conv=>whnf)
  refine A1 6 zF E (.cons (.refl _) (.cons (.refl _) (.cons (.refl _) (.cons .nil .nil)))) ?_
  exact Ac E (.cons .tmp (.cons .tmp (.cons (.cell E E E E) (.cons .tmp .nil)))) E E
 rw [if_neg (by rw [hbn]; decide)] at hres
 have q1:=Ae4 b hb
 have huo:=Tt b
 generalize Bq b = u at *
 obtain ⟨src,dst,vni,f,e⟩:=u
 dsimp only at hres q1 huo
 have hsrc:=huo.2.2.2.src
 (refine rg ?_;(conv=>whnf);refine aF ?_;refine rg ?_;conv=>whnf)
 refine Ag q1 F259 E E E E E ?_
 refine rg ?_;conv=>whnf
 refine ⟨fun h=>?_,fun h=>?_⟩
 ·rw [if_pos (by simpa using h)] at hres
  subst hres
  refine rg ?_;conv=>whnf
  refine A1 6 zF E (.cons (.refl _) (.cons (.refl _) (.cons (.refl _) (.cons .nil .nil)))) ?_
  exact Ac E (.cons .tmp (.cons .tmp (.cons (.cell E E E E) (.cons .tmp .nil)))) E E
 rw [if_neg (by simpa using h)] at hres
 clear h
 have q2:=endsS n hn hbn src dst vni
 generalize endsT n src dst vni = en at *
 obtain ⟨fr,dom⟩:=en
 dsimp only at hres q2
 refine rg ?_;conv=>whnf
 refine Ag q2 F260 E E E E E ?_
 refine rg ?_;conv=>whnf
 refine ⟨fun h=>?_,fun h=>?_⟩
 ·rw [if_pos (of_decide_eq_true h)] at hres
  subst hres
  refine rg ?_;conv=>whnf
  refine A1 6 zF E (.cons (.refl _) (.cons (.refl _) (.cons (.refl _) (.cons .nil .nil)))) ?_
  exact Ac E (.cons .tmp (.cons .tmp (.cons (.cell E E E E) (.cons .tmp .nil)))) E E
 rw [if_neg (of_decide_eq_false h)] at hres
 clear h
 have qg:=Jc f.src (by omega)
 refine rg ?_;conv=>whnf
 refine Ag qg F162 E E E E E ?_
 cases hg:E4 f.src
 rotate_left
 ·rw [if_pos hg] at hres
  subst hres
  (refine rg ?_;(conv=>whnf);refine aT ?_;refine rg ?_;conv=>whnf)
  refine A1 6 zF E (.cons (.refl _) (.cons (.refl _) (.cons (.refl _) (.cons .nil .nil)))) ?_
  exact Ac E (.cons .tmp (.cons .tmp (.cons (.cell E E E E) (.cons .tmp .nil)))) E E
 rw [if_neg (by rw [hg]; decide)] at hres
 subst hres
 (refine rg ?_;(conv=>whnf);refine aF ?_;refine rg ?_;conv=>whnf)
 refine ⟨(by kernel_rfl),?_⟩
 conv=>whnf
 exact Ac E (.cons .tmp (.cons .tmp (.cons (.cell E E E E) (.cons .tmp .nil)))) E E
theorem Als {n:Net} (hb:Af n = true) {d:Int} (hd:DomIn n d) (hi:0 ≤ (n.domains[d.toNat]'hd.2).irb) :
  ∃ h:(n.domains[d.toNat]'hd.2).irb.toNat < n.irbs.length,(n.irbs[(n.domains[d.toNat]'hd.2).irb.toNat]'h).domain = d:=by
 simp only [Af,Bool.and_eq_true] at hb
 have:=allB_iff.1 hb.1.1.1.1.1.1.1.2 _ hd.2
 simp only [La,Bool.and_eq_true,Bool.or_eq_true,beq_iff_eq] at this
 have h2:=this.1.2
 rcases h2 with h2 | ⟨h2,h3⟩
 ·omega
 ·have h4:=Bh h2
  have h5:(n.domains[d.toNat]'hd.2).irb.toNat < n.irbs.length:=by omega
  rw [An h5] at h3
  have:=hd.1
  exact ⟨h5,by omega⟩
theorem Y6 (n:Net) (hn:n.Fin) (hm0:n.Num) (dom:Int) (m:Nat) :
  Sy.Spec Tryz.prog 173 [Aq n,Aa dom,A7 m] [] (.tup [Aa (routerT n dom m).1,Ad (routerT n dom m).2]) []:=Ab Γ hm 100 F173 Tryz.ntmps173 rfl fun F hF=>by
 have hres:=routerT.eq_1 n dom m
 generalize routerT n dom m = res at *
 have hr:=Bm n hn
 conv=>whnf
 refine ⟨fun h=>?_,fun h=>?_⟩
 ·have hp:Aj dom n.domains.length = false:=by
   cases hx:Aj dom n.domains.length
   ·rfl
   ·have:=Bh hx; have:=of_decide_eq_true h; omega
  rw [if_pos (.inl hp)] at hres
  subst hres
  (refine rg ?_;(conv=>whnf);refine aT ?_;refine rg ?_;(conv=>whnf);refine aT ?_;refine rg ?_;conv=>whnf)
  exact Ac E (.cons .tmp (.cons .tmp .nil)) E E
 have h0:0 ≤ dom:=by have:=of_decide_eq_false h; omega
 clear h
 refine rg ?_;conv=>whnf
 refine ⟨fun h=>?_,fun h=>?_⟩
 ·have hp:Aj dom n.domains.length = false:=by
   cases hx:Aj dom n.domains.length
   ·rfl
   ·have:=Bh hx; have:=of_decide_eq_true h; omega
  rw [if_pos (.inl hp)] at hres
  subst hres
  (refine rg ?_;(conv=>whnf);refine aT ?_;refine rg ?_;conv=>whnf)
  exact Ac E (.cons .tmp (.cons .tmp .nil)) E E
 have h1:dom < n.domains.length:=by have:=of_decide_eq_false h; omega
 clear h
 have hpl:Aj dom n.domains.length = true:=Cb ⟨h0,h1⟩
 refine rg ?_;conv=>whnf
 refine Ag hr F67 E E E E E ?_
 cases hbn:Af n
 ·rw [if_pos (.inr hbn)] at hres
  subst hres
  (refine rg ?_;(conv=>whnf);refine aT ?_;refine rg ?_;conv=>whnf)
  exact Ac E (.cons .tmp (.cons .tmp .nil)) E E
 rw [if_neg (by simp [hbn,hpl])] at hres
 have hd:=H9 hpl
 have e2:nth n.domains dom = n.domains[dom.toNat]'hd.2:=An hd.2
 have hir:=Als hbn hd
 obtain ⟨d,hdd⟩:∃ d,n.domains[dom.toNat]'hd.2 = d:=⟨_,rfl⟩
 simp only [hdd] at e2 hir
 rw [e2] at hres
 (refine rg ?_;(conv=>whnf);refine aF ?_;refine rg ?_;conv=>whnf)
 refine ⟨E,hd.1,hd.2,?_⟩
 rw [hdd]
 conv=>whnf
 refine ⟨fun h=>?_,fun h=>?_⟩
 ·rw [if_pos (.inl (of_decide_eq_true h))] at hres
  subst hres
  (refine rg ?_;(conv=>whnf);refine aT ?_;refine rg ?_;conv=>whnf)
  exact Ac E (.cons .tmp (.cons .tmp .nil)) E E
 have hi0:0 ≤ d.irb:=by have:=of_decide_eq_false h; omega
 clear h
 obtain ⟨hi1,hi2⟩:=hir hi0
 have ha:=hm0.addr _ (List.getElem_mem hi1)
 rw [An hi1] at hres
 obtain ⟨x,hx⟩:∃ x,n.irbs[d.irb.toNat]'hi1 = x:=⟨_,rfl⟩
 rw [hx] at ha hres
 obtain ⟨a,hae⟩:=Int.eq_ofNat_of_zero_le ha.1
 have qh:=Aas a (by omega)
 rw [← hae] at qh
 refine rg ?_;conv=>whnf
 refine ⟨E,hi0,hi1,?_⟩
 rw [hx]
 conv=>whnf
 refine Ag qh F244 E E E E E ?_
 refine rg ?_;conv=>whnf
 refine ⟨fun h=>?_,fun h=>?_⟩
 ·have hne:Ho x.addr ≠ m:=fun e=>by
   rw [e] at h
   simp at h
  rw [if_pos (.inr hne)] at hres
  subst hres
  refine rg ?_;conv=>whnf
  exact Ac E (.cons .tmp (.cons .tmp .nil)) E E
 ·have heq:Ho x.addr = m:=by
   have:(Ho x.addr:Int) = (m:Int):=by simpa using h
   omega
  rw [if_neg (fun h=>h.elim (by omega) (fun h2=>h2 heq))] at hres
  subst hres
  refine rg ?_;conv=>whnf
  exact Ac E (.cons .tmp (.cons .tmp .nil)) E E
theorem Vr {n:Net} {i:Int} (h:Aj i n.irbs.length = true):InIrbs n i:=by
 have:=Bh h
 exact ⟨this.1,by omega⟩
theorem All {p:PacketM} (h:PacketOK p):PacketOK (Adb p):=⟨h.tos,h.id,by have:=h.ttl; show p.ttl - 1 ≤ 255; omega,h.proto,h.src,h.dst⟩
theorem Ac7 (p:PacketM):ipPutT (Adb p) = if 1480 < p.body.length then ([],14) else (Ta (Adb p),0):=rfl
theorem Afl (n:Net) (hn:n.Fin) (hm0:n.Num) (irb:Int) (f:FrameM) (hf:FrameOK f) :
  Sy.Spec Tryz.prog 174 [Aq n,Aa irb,By f] [] (.tup [Aa (hopT n irb f).1,By (hopT n irb f).2.1,Aa (hopT n irb f).2.2]) []:=Ab Γ hm 100 F174 Tryz.ntmps174 rfl fun F hF=>by
 have hres:=hopT.eq_1 n irb f
 generalize hopT n irb f = res at *
 have hr:=Bm n hn
 have hb:=hf.body
 conv=>whnf
 refine ⟨fun h=>?_,fun h=>?_⟩
 ·have hp:Aj irb n.irbs.length = false:=by
   cases hx:Aj irb n.irbs.length
   ·rfl
   ·have:=Bh hx; have:=of_decide_eq_true h; omega
  rw [if_pos (.inl hp)] at hres
  subst hres
  (refine rg ?_;(conv=>whnf);refine aT ?_;refine rg ?_;(conv=>whnf);refine aT ?_;refine rg ?_;conv=>whnf)
  refine A1 7 zF E (.cons (.refl _) (.cons (.refl _) (.cons (.refl _) (.cons .nil .nil)))) ?_
  exact Ac E (.cons .tmp (.cons (.cell E E E E) (.cons .tmp .nil))) E E
 have h0:0 ≤ irb:=by have:=of_decide_eq_false h; omega
 clear h
 refine rg ?_;conv=>whnf
 refine ⟨fun h=>?_,fun h=>?_⟩
 ·have hp:Aj irb n.irbs.length = false:=by
   cases hx:Aj irb n.irbs.length
   ·rfl
   ·have:=Bh hx; have:=of_decide_eq_true h; omega
  rw [if_pos (.inl hp)] at hres
  subst hres
  (refine rg ?_;(conv=>whnf);refine aT ?_;refine rg ?_;conv=>whnf)
  refine A1 7 zF E (.cons (.refl _) (.cons (.refl _) (.cons (.refl _) (.cons .nil .nil)))) ?_
  exact Ac E (.cons .tmp (.cons (.cell E E E E) (.cons .tmp .nil))) E E
 have h1:irb < n.irbs.length:=by have:=of_decide_eq_false h; omega
 clear h
 have hpl:Aj irb n.irbs.length = true:=Cb ⟨h0,h1⟩
 refine rg ?_;conv=>whnf
 refine Ag hr F67 E E E E E ?_
 cases hbn:Af n
 ·rw [if_pos (.inr hbn)] at hres
  subst hres
  (refine rg ?_;(conv=>whnf);refine aT ?_;refine rg ?_;conv=>whnf)
  refine A1 7 zF E (.cons (.refl _) (.cons (.refl _) (.cons (.refl _) (.cons .nil .nil)))) ?_
  exact Ac E (.cons .tmp (.cons (.cell E E E E) (.cons .tmp .nil))) E E
 rw [if_neg (by simp [hbn,hpl])] at hres
 refine B1 3 8 (Aq n) E E E ?_
 refine B1 5 4 (By f) E E E ?_
 (refine rg ?_;(conv=>whnf);refine aF ?_;refine rg ?_;conv=>whnf)
 refine ⟨fun h=>?_,fun h=>?_⟩
 ·rw [if_pos (by have:¬ (f.typ:Int) = 2048:=(by simpa using h); omega)] at hres
  subst hres
  refine rg ?_;conv=>whnf
  refine A1 7 zF E (.cons (.refl _) (.cons (.refl _) (.cons (.refl _) (.cons .nil .nil)))) ?_
  exact Ac E (.cons .tmp (.cons (.cell E E E E) (.cons .tmp .nil))) E E
 rw [if_neg (by have:(f.typ:Int) = 2048:=(by simpa using h); omega)] at hres
 clear h
 have q1:=Aej f.body (by omega)
 have hok:=@Uw f.body
 generalize ipTakeT f.body = tk at *
 obtain ⟨p,e⟩:=tk
 dsimp only at hres q1 hok
 refine rg ?_;conv=>whnf
 refine Ag q1 F245 E E E E E ?_
 refine rg ?_;conv=>whnf
 by_cases he:e = 0
 rotate_left
 ·rw [if_pos he] at hres
  subst hres
  refine ⟨fun h=>absurd (show e = 0 by simpa using h) he,fun _=>?_⟩
  refine rg ?_;conv=>whnf
  refine ⟨fun _=>?_,fun h=>absurd (show e = 0 by simpa using h) he⟩
  refine rg ?_;conv=>whnf
  refine A1 7 zF E (.cons (.refl _) (.cons (.refl _) (.cons (.refl _) (.cons .nil .nil)))) ?_
  exact Ac E (.cons .tmp (.cons (.cell E E E E) (.cons .tmp .nil))) E E
 subst he
 rw [if_neg (by simp)] at hres
 obtain ⟨hpo,hpb⟩:=hok rfl
 have hpt:=hpo.ttl
 have hpd:=hpo.dst
 have q2:=ipHopS p (by omega) hpt
 (refine ⟨fun _=>?_,fun h=>False.elim (absurd h (by decide))⟩;refine rg ?_;conv=>whnf)
 by_cases ht:p.ttl ≤ 1
 ·rw [if_pos ht] at hres
  subst hres
  rw [hop1,if_pos ht] at q2
  refine Ag q2 F246 E E E E E ?_
  (refine rg ?_;(conv=>whnf);refine aT ?_;refine rg ?_;conv=>whnf)
  refine A1 7 zF E (.cons (.refl _) (.cons (.refl _) (.cons (.refl _) (.cons .nil .nil)))) ?_
  exact Ac E (.cons .tmp (.cons (.cell E E E E) (.cons .tmp .nil))) E E
 rw [if_neg ht] at hres
 rw [hop1,if_neg ht] at q2
 refine Ag q2 F246 E E E E E ?_
 have q3:=Alf n hn hbn irb p.dst (Vr hpl)
 have hth:=fun h=>@Aah n irb p.dst h
 generalize lookT n irb p.dst = lk at *
 obtain ⟨to,ok⟩:=lk
 dsimp only at hres q3 hth
 (refine rg ?_;(conv=>whnf);refine aF ?_;refine rg ?_;conv=>whnf)
 refine Ag q3 F247 E E E E E ?_
 cases ok
 ·rw [if_pos rfl] at hres
  subst hres
  (refine rg ?_;(conv=>whnf);refine aT ?_;refine rg ?_;conv=>whnf)
  refine A1 7 zF E (.cons (.refl _) (.cons (.refl _) (.cons (.refl _) (.cons .nil .nil)))) ?_
  exact Ac E (.cons .tmp (.cons (.cell E E E E) (.cons .tmp .nil))) E E
 rw [if_neg (by decide)] at hres
 have hto:=hth rfl
 have hpp:=Ac7 p
 have q4:=Aek (Adb p) (All hpo) (by show p.body.length < 100000; omega)
 rw [hpp] at q4
 clear hpp
 by_cases hl:1480 < p.body.length
 ·rw [if_pos hl] at hres q4
  subst hres
  (refine rg ?_;(conv=>whnf);refine aF ?_;refine rg ?_;conv=>whnf)
  refine Ag q4 F248 E E E E E ?_
  (refine rg ?_;(conv=>whnf);refine aT ?_;refine rg ?_;conv=>whnf)
  refine A1 7 zF E (.cons (.refl _) (.cons (.refl _) (.cons (.refl _) (.cons .nil .nil)))) ?_
  exact Ac E (.cons .tmp (.cons (.cell E E E E) (.cons .tmp .nil))) E E
 rw [if_neg hl] at hres q4
 have ha:=hm0.addr _ (List.getElem_mem hto.2)
 rw [An hto.2] at hres
 obtain ⟨x,hx⟩:∃ x,n.irbs[to.toNat]'hto.2 = x:=⟨_,rfl⟩
 rw [hx] at ha hres
 obtain ⟨a,hae⟩:=Int.eq_ofNat_of_zero_le ha.1
 have qh:=Aas a (by omega)
 rw [← hae] at qh
 have qd:=Aas p.dst hpd
 subst hres
 (refine rg ?_;(conv=>whnf);refine aF ?_;refine rg ?_;conv=>whnf)
 refine Ag q4 F248 E E E E E ?_
 (refine rg ?_;(conv=>whnf);refine aF ?_;refine rg ?_;conv=>whnf)
 refine ⟨E,hto.1,hto.2,?_⟩
 rw [hx]
 conv=>whnf
 refine Ay qd F244 E E E (by kernel_rfl) E ?_
 refine rd (by kernel_rfl) ?_;conv=>whnf
 refine ⟨E,hto.1,hto.2,?_⟩
 rw [hx]
 conv=>whnf
 refine Ay qh F244 E E E (by kernel_rfl) E ?_
 refine rd (by kernel_rfl) ?_;conv=>whnf
 refine ⟨(by kernel_rfl),?_⟩
 conv=>whnf
 exact Ac E (.cons .tmp (.cons (.cell E E E E) (.cons .tmp .nil))) E E
theorem Adk (f:FrameM) (hb:f.body.length < 100000):Sy.Spec Tryz.prog 261 [By f] [] (By f) []:=Ab Γ hm 100 F261 Tryz.ntmps261 rfl fun F hF=>by
 conv=>whnf
 refine Ai (Bv Γ.toTy (d:=7) (n:=f.body.length) Al 0 E E E E E E E E (by omega) (by omega) E E E) E E ?_
 refine rg ?_;conv=>whnf
 refine Ai (Q0 Γ.toTy (l:=List.replicate f.body.length 0) (m:=f.body) E E E E E .sl) E E ?_
 refine rg ?_;conv=>whnf
 refine At 7 E ?_
 refine rg ?_;conv=>whnf
 refine Ac E (.cons (.cell E E E E) .nil) ?_ E
 show SV.agg [_,_,_,.sl 1 Al f.body] = SV.agg [_,_,_,.sl 1 Al (f.body.take (List.replicate f.body.length (0:UInt8)).length ++ (List.replicate f.body.length (0:UInt8)).drop f.body.length)]
 have e:f.body.take (List.replicate f.body.length (0:UInt8)).length ++ (List.replicate f.body.length (0:UInt8)).drop f.body.length = f.body:=by
  rw [List.length_replicate,List.take_length,List.drop_eq_nil_of_le (by simp),List.append_nil]
 rw [e]
 rfl
theorem Yu (q:QueuedM) (hb:q.frame.body.length < 100000):Sy.Spec Tryz.prog 185 [A4 q] [] (A4 q) []:=Ab Γ hm 100 F185 Tryz.ntmps185 rfl fun F hF=>by
 have qc:=Adk q.frame hb
 conv=>whnf
 refine Ag qc F261 E E E E E ?_
 refine rg ?_;conv=>whnf
 exact Ac E (.cons (.cell E E E E) .nil) E E
def Le (l:List QueuedM):Prop:=∀ q ∈ l,q.frame.body.length < 100000
theorem Aly (l:List QueuedM) (hl:l.length < 1000000) (hb:Le l):Sy.Spec Tryz.prog 184 [.sl 7 A4 l] [] (.osl 0) [(0,.row 7 A4 l)]:=Ab Γ hm 100 F184 Tryz.ntmps184 rfl fun F hF=>by
 conv=>whnf
 refine B5 3 1000 7 A4 E E ?_
 refine A0 l.length (fun j=>[(3,.osl 1000),(6,.sl 7 A4 l),(7,Aa l.length),(8,Aa j)]) (fun j=>[(1000,.row 7 A4 (l.take j))]) [] ⟨⟨E,E,E,E,E,E,E,E,Y⟩,⟨.inl E,E,Y⟩,E,E⟩ ?_
 intro j hj
 refine rg ?_;conv=>whnf
 refine ⟨fun h=>?_,fun h=>?_⟩
 ·have hlt:j < l.length:=by have:=of_decide_eq_true h; omega
  have hj0:((j:Nat):Int).toNat < l.length:=by simpa using hlt
  obtain ⟨q,hq⟩:∃ q,l[j] = q:=⟨_,rfl⟩
  have e1:l[((j:Nat):Int).toNat]'hj0 = q:=hq
  have hs:l.take (j + 1) = l.take j ++ [q]:=by rw [List.take_succ_eq_append_getElem hlt,hq]
  have hqb:=hb q (by rw [← hq]; exact List.getElem_mem hlt)
  have hll:(l.take j).length = j:=by rw [List.length_take]; omega
  clear h
  refine rg ?_;conv=>whnf
  refine ⟨E,by omega,hj0,?_⟩
  rw [e1]
  conv=>whnf
  refine Ag (Yu q hqb) F185 E E E E E ?_
  refine rg ?_;conv=>whnf
  refine Ai (Ak Γ.toTy 16 E E E E E (.row E) (.lit (e:=A4) (l:=[q]) E E) (by simp) (by rw [hll]; simp; omega) (by rw [hll]; simp; omega)) E E ?_
  refine rg ?_;conv=>whnf
  refine ⟨by unfold I64; omega,?_⟩
  conv=>whnf
  exact Ar [(1000,16)] hlt ⟨⟨E,E,E,E,E,E,E,E,Y⟩,⟨.inl (congrArg (Ob.row 7 A4) hs),E,Y⟩,E,E⟩
 ·have hjj:j = l.length:=by have:=of_decide_eq_false h; omega
  subst hjj
  rw [List.take_length]
  refine rg ?_;conv=>whnf
  exact done E (.cons .tmp .nil) [(0,1000)] [(0,.row 7 A4 l)] (fun _ h=>h) E E ⟨Y,⟨.inl E,E,Y⟩,E,E⟩
theorem Z0 (l:List QueuedM) (q:QueuedM) (hl:l.length < 1000000) (hb:Le l) (hqb:q.frame.body.length < 100000) :
  Sy.Spec Tryz.prog 170 [.sl 7 A4 l,A4 q] [] (.tup [.sl 7 A4 (pushT l q).1,Ad (pushT l q).2]) []:=Ab Γ hm 100 F170 Tryz.ntmps170 rfl fun F hF=>by
 have hres:=pushT.eq_1 l q
 generalize pushT l q = res at *
 conv=>whnf
 refine Ai (Ah [(0,55)] E F184 (Aly l hl hb) E Y E ⟨.inr E,Y⟩) E E ?_
 refine rg ?_;conv=>whnf
 refine ⟨fun h=>?_,fun h=>?_⟩
 ·rw [if_pos (by have:=of_decide_eq_true h; omega)] at hres
  subst hres
  refine rg ?_;conv=>whnf
  refine At 55 E ?_
  exact Ac E (.cons .tmp (.cons .tmp .nil)) E E
 ·rw [if_neg (by have:=of_decide_eq_false h; omega)] at hres
  subst hres
  refine rg ?_;conv=>whnf
  refine Ag (Yu q hqb) F185 E E E E E ?_
  refine rg ?_;conv=>whnf
  refine Ai (Ak Γ.toTy 17 E E E E E (.row E) (.lit (e:=A4) (l:=[q]) E E) (by decide) (by simp; omega) (by simp; omega)) E E ?_
  refine At 17 E ?_
  refine rg ?_;conv=>whnf
  exact Ac E (.cons .tmp (.cons .tmp .nil)) E E
theorem Ug (l:List QueuedM) (at_:Int) (hl:l.length < 1000000) (hb:Le l) :
  Sy.Spec Tryz.prog 106 [.sl 7 A4 l,Aa at_] [] (.tup [A4 (takeT l at_).1,.sl 7 A4 (takeT l at_).2.1,Ad (takeT l at_).2.2]) []:=Ab Γ hm 100 F106 Tryz.ntmps106 rfl fun F hF=>by
 have hres:=takeT.eq_1 l at_
 generalize takeT l at_ = res at *
 conv=>whnf
 refine ⟨fun h=>?_,fun h=>?_⟩
 ·rw [if_pos (.inl (of_decide_eq_true h))] at hres
  subst hres
  (refine rg ?_;(conv=>whnf);refine aT ?_;refine rg ?_;conv=>whnf)
  refine Ai (Ah [(0,55)] E F184 (Aly l hl hb) E Y E ⟨.inr E,Y⟩) E E ?_
  refine At 55 E ?_
  refine rg ?_;conv=>whnf
  refine A1 4 [Aa 0,Aa 0,Aa 0,A7 0,A7 0,Aa 0,.sl 1 Al []] E (.cons (.refl _) (.cons (.refl _) (.cons (.refl _) (.cons (.refl _) (.cons (.refl _) (.cons (.refl _) (.cons .nil .nil))))))) ?_
  exact Ac E (.cons (.cell E E E E) (.cons .tmp (.cons .tmp .nil))) E E
 have h0:0 ≤ at_:=by have:=of_decide_eq_false h; omega
 clear h
 refine rg ?_;conv=>whnf
 refine ⟨fun h=>?_,fun h=>?_⟩
 ·rw [if_pos (.inr (of_decide_eq_true h))] at hres
  subst hres
  refine rg ?_;conv=>whnf
  refine Ai (Ah [(0,55)] E F184 (Aly l hl hb) E Y E ⟨.inr E,Y⟩) E E ?_
  refine At 55 E ?_
  refine rg ?_;conv=>whnf
  refine A1 4 [Aa 0,Aa 0,Aa 0,A7 0,A7 0,Aa 0,.sl 1 Al []] E (.cons (.refl _) (.cons (.refl _) (.cons (.refl _) (.cons (.refl _) (.cons (.refl _) (.cons (.refl _) (.cons .nil .nil))))))) ?_
  exact Ac E (.cons (.cell E E E E) (.cons .tmp (.cons .tmp .nil))) E E
 have h1:at_ < l.length:=by have:=of_decide_eq_false h; omega
 clear h
 have hk:at_.toNat < l.length:=by omega
 have hne:l ≠ []:=fun e=>by rw [e] at hk; simp at hk
 have hkk:((at_.toNat:Nat):Int) = at_:=by omega
 rw [if_neg (by omega),List.getElem?_eq_getElem hk,Option.getD_some] at hres
 obtain ⟨q,hq⟩:∃ q,l[at_.toNat]'hk = q:=⟨_,rfl⟩
 rw [hq] at hres
 have hqb:=hb q (by rw [← hq]; exact List.getElem_mem hk)
 refine G_dat 0 90 E hne ?_
 intro B off cap hcap
 refine run Γ hm 3 ?_
 conv=>whnf
 refine Bu (Ss 90 (.inl E) E E) (by kernel_rfl) E ?_
 refine rd (by kernel_rfl) ?_;conv=>whnf
 refine ⟨E,h0,hk,?_⟩
 rw [hq]
 conv=>whnf
 refine Ay (Yu q hqb) F185 E E E (by kernel_rfl) E ?_
 refine rd (by kernel_rfl) ?_;conv=>whnf
 refine Bu (V2 (hi:=at_.toNat) Γ.toTy E E E E (congrArg (fun z=>SV.val (.int .i64 z)) hkk.symm) (congrArg (fun z=>SV.val (.int .i64 z)) hkk.symm) (by omega)) (by kernel_rfl) E ?_
 refine Bu (Ss 90 (.inl E) E E) (by kernel_rfl) E ?_
 refine rd (by kernel_rfl) ?_;conv=>whnf
 refine ⟨by unfold I64; omega,?_⟩
 conv=>whnf
 refine Bu (Ci (lo:=at_.toNat + 1) (hi:=l.length) Γ.toTy E E E E (.inr ⟨_,_,E,congrArg (fun z=>SV.val (.int .i64 z)) (by omega)⟩) (.inl ⟨E,E⟩) (by omega) (Nat.le_refl _)) (by kernel_rfl) E ?_
 have hll:((l.take l.length).drop (at_.toNat + 1)).length = l.length - (at_.toNat + 1):=by rw [List.length_drop,List.length_take]; omega
 refine Bu (V8 Γ.toTy 90 E E E E E E (Nat.le_of_lt hk) E (by rw [hll]; omega) (by rw [hll]; omega)) (by kernel_rfl) E ?_
 have he:l.take at_.toNat ++ (l.take l.length).drop (at_.toNat + 1) = l.eraseIdx at_.toNat:=by rw [List.take_length,List.eraseIdx_eq_take_drop_succ]
 have hel:(l.take at_.toNat ++ (l.take l.length).drop (at_.toNat + 1)).length < 1000000:=by rw [he,List.length_eraseIdx]; split <;> omega
 have heb:Le (l.take at_.toNat ++ (l.take l.length).drop (at_.toNat + 1)):=by rw [he]; exact fun x hx=>hb x (List.mem_of_mem_eraseIdx hx)
 refine rd (by kernel_rfl) ?_;conv=>whnf
 refine Bu (Ah [(0,55)] E F184 (Aly _ hel heb) E Y E ⟨.inr E,Y⟩) (by kernel_rfl) E ?_
 refine rd (by kernel_rfl) ?_;conv=>whnf
 refine ⟨(by kernel_rfl),?_⟩
 conv=>whnf
 refine At 55 E ?_
 refine Ac E (.cons (.cell E E E E) (.cons .tmp (.cons .tmp .nil))) ?_ E
 subst hres
 show SV.tup [_,.sl 7 A4 (l.eraseIdx at_.toNat),_] = SV.tup [_,.sl 7 A4 (l.take at_.toNat ++ (l.take l.length).drop (at_.toNat + 1)),_]
 rw [he]
 rfl
def Dz {α:Type} (q:α → Bool) (l:List α):Nat → Nat
 | 0=>0
 | j + 1=>match l[j]? with
  | some x=>if q x = true then Dz q l j + 1 else Dz q l j
  | none=>Dz q l j
def dfC {α:Type} (q:α → Bool) (l:List α):Nat → List α
 | 0=>l
 | j + 1=>match l[j]? with
  | some x=>if q x = true then (dfC q l j).set (Dz q l j) x else dfC q l j
  | none=>dfC q l j
theorem Tn {α:Type} (q:α → Bool) (l:List α) (j:Nat):Dz q l j ≤ j:=by
 induction j with
 | zero=>exact Nat.le_refl _
 | succ j ih =>
  simp only [Dz]
  split
  ·split <;> omega
  ·omega
theorem M0 {α:Type} (q:α → Bool) (l:List α) (j:Nat):(dfC q l j).length = l.length:=by
 induction j with
 | zero=>rfl
 | succ j ih =>
  simp only [dfC]
  split
  ·split
   ·rw [List.length_set]; exact ih
   ·exact ih
  ·exact ih
theorem Aet {α:Type} (q:α → Bool) (l:List α) (j k:Nat) (h:j ≤ k):(dfC q l j)[k]? = l[k]?:=by
 induction j with
 | zero=>rfl
 | succ j ih =>
  simp only [dfC]
  split
  ·split
   ·rw [List.getElem?_set_ne (by have:=Tn q l j; omega)]; exact ih (by omega)
   ·exact ih (by omega)
  ·exact ih (by omega)
theorem Aba {α:Type} (q:α → Bool) (l:List α) (j:Nat) (h:j ≤ l.length):(dfC q l j).take (Dz q l j) = (l.take j).filter q:=by
 induction j with
 | zero=>rfl
 | succ j ih =>
  have hj:j < l.length:=by omega
  have ih:=ih (by omega)
  have hc:=Tn q l j
  simp only [dfC,Dz,List.getElem?_eq_getElem hj]
  rw [List.take_add_one,List.getElem?_eq_getElem hj,List.filter_append]
  by_cases hq:q l[j] = true
  ·rw [if_pos hq,if_pos hq]
   have hlt:Dz q l j < ((dfC q l j).set (Dz q l j) l[j]).length:=by rw [List.length_set,M0]; omega
   rw [List.take_add_one,List.getElem?_eq_getElem hlt,List.getElem_set_self]
   rw [List.take_set_of_le (Nat.le_refl _),ih]
   simp [hq]
  ·rw [if_neg hq,if_neg hq,ih]
   simp [hq]
theorem Xa {α:Type} (q:α → Bool) (l:List α) (i:Nat) (hi:i ≤ l.length) (h:∀ k (hk:k < l.length),k < i → q l[k] = true):dfC q l i = l ∧ Dz q l i = i:=by
 induction i with
 | zero=>exact ⟨rfl,rfl⟩
 | succ i ih =>
  obtain ⟨h1,h2⟩:=ih (by omega) (fun k hk hki=>h k hk (by omega))
  have hil:i < l.length:=by omega
  simp only [dfC,Dz,List.getElem?_eq_getElem hil]
  rw [if_pos (h i hil (by omega)),if_pos (h i hil (by omega)),h1,h2]
  exact ⟨List.set_getElem_self hil,E⟩
theorem Mu {α:Type} (p:α → Bool) (l:List α):(Dl p l = -1 ∧ ∀ x ∈ l,p x = false) ∨ ∃ (i:Nat) (hi:i < l.length),Dl p l = i ∧ p l[i] = true ∧ ∀ k (hk:k < l.length),k < i → p l[k] = false:=by
 unfold Dl
 cases h:l.findIdx? p with
 | none=>exact .inl ⟨rfl,by simpa using h⟩
 | some i =>
  rw [List.findIdx?_eq_some_iff_getElem] at h
  obtain ⟨hi,h1,h2⟩:=h
  exact .inr ⟨i,hi,E,h1,fun k hk hki=>by simpa using h2 k hki⟩
theorem K7 (l:List EntryM) (hl:l.length < 2147483648):Sy.Spec Tryz.prog 48 [.sl 3 As l] [] (.osl 0) [(0,.row 3 As l)]:=Ab Γ hm 100 F48 Tryz.ntmps48 rfl fun F hF=>by
 conv=>whnf
 refine C8 E (.inl E) E E E .sl E E ?_
 intro b hb
 cases b
 ·(refine rg ?_;(conv=>whnf);refine aF ?_;refine rg ?_;conv=>whnf)
  refine Ai (Ak Γ.toTy 7 E E E E E (.lit (e:=As) (l:=[]) E E) .sl (by simp) (by simp; omega) (by simp; omega)) E E ?_
  refine rg ?_;conv=>whnf
  exact done E (.cons .tmp .nil) [(0,7)] [(0,.row 3 As l)] (fun _ h=>h) E E ⟨Y,⟨.inl E,E,Y⟩,E,E⟩
 ·have h0:l = []:=List.eq_nil_of_length_eq_zero (hb rfl)
  subst h0
  (refine rg ?_;(conv=>whnf);refine aT ?_;refine rg ?_;conv=>whnf)
  refine B5 2 1000 3 As E E ?_
  exact done E (.cons .tmp .nil) [(0,1000)] [(0,.row 3 As [])] (fun _ h=>h) E E ⟨Y,⟨.inl E,E,Y⟩,E,E⟩
theorem Je (l:List EntryM) (p:EntryM → Bool) (f:FuncId) (first cap:List SV) (hc:(SV.clo (.func f) first cap).inn [] = true) (hf:∀ x ∈ l,Hm Tryz.prog f (first ++ [As x] ++ cap) (Ad (p x))) (hl:Am l) :
  Sy.Spec Tryz.prog 163 [.sl 3 As l,.clo (.func f) first cap] [] (Aa (Dl p l)) []:=Ab Γ hm 100 F163 Tryz.ntmps163 rfl fun F hF=>by
 unfold Am at hl
 have hin:∀ x:EntryM,B3 [] (first ++ [As x] ++ cap) = true:=fun x=>Co hc rfl
 conv=>whnf
 refine Bc l.length (fun j=>Ep (fun _ x=>!(p x)) l j) (fun j=>[(0,.sl 3 As l),(1,.clo (.func f) first cap),(7,Aa l.length),(8,Aa j)]) (fun _=>[]) [] (Bf _ _) ⟨⟨E,E,A2 _,hc,E,E,E,E,Y⟩,Y,E,E⟩ ?_
 intro j hj hI
 refine rg ?_;conv=>whnf
 refine ⟨fun h=>?_,fun h=>?_⟩
 ·have h:=of_decide_eq_true h
  have hj2:j < l.length:=by omega
  refine rg ?_;conv=>whnf
  refine ⟨E,by omega,by omega,?_⟩
  conv=>whnf
  refine Du (hf l[j] (List.getElem_mem hj2)) E E E (by simp only [hin]; rfl) E E ?_
  refine rg ?_;conv=>whnf
  refine ⟨fun h2=>?_,fun h2=>?_⟩
  ·refine rg ?_;conv=>whnf
   refine Ac E (.cons .tmp .nil) (congrArg Aa ?_) E
   exact Ef hj2 (fun i hi hij=>by simpa using hI i hi hij) h2
  ·refine rg ?_;conv=>whnf
   refine ⟨by unfold I64; omega,?_⟩
   conv=>whnf
   exact Ba [] hI hj2 (Bb hI hj2 (by simp [h2])) ⟨⟨E,E,A2 _,hc,E,E,E,E,Y⟩,Y,E,E⟩
 ·have h:=of_decide_eq_false h
  refine rg ?_;conv=>whnf
  refine Ac E (.cons .tmp .nil) (congrArg Aa ?_) E
  exact E3 (fun i hi=>by simpa using hI i hi (by omega))
theorem Qa (l:List EntryM) (p:EntryM → Bool) (f:FuncId) (first cap:List SV) (hc:(SV.clo (.func f) first cap).inn [] = true) (hc0:(SV.clo (.func f) first cap).inn [0] = true) (hf:∀ x ∈ l,Hm Tryz.prog f (first ++ [As x] ++ cap) (Ad (p x))) (hl:Am l) :
  Sy.Spec Tryz.prog 186 [.osl 0,.clo (.func f) first cap] [(0,.row 3 As l)] (.osl 1) [(0,.non),(1,.row 3 As (l.filter fun x=>!(p x)))]:=Ab Γ hm 100 F186 Tryz.ntmps186 rfl fun F hF=>by
 have qi:=Je l p f first cap hc hf hl
 unfold Am at hl
 have hin:∀ x:EntryM,B3 [] (first ++ [As x] ++ cap) = true:=fun x=>Co hc rfl
 conv=>whnf
 refine Aeu [0] qi F163 E (.cons (.row E E) (.cons (.refl _) .nil)) (by simp only [B3,hc,Bool.and_true]; rfl) E E ?_
 rcases Mu p l with ⟨h1,h2⟩ | ⟨i,hi,h1,h2,h3⟩
 ·rw [h1]
  have e1:(l.filter fun x=>!(p x)) = l:=List.filter_eq_self.2 (fun x hx=>by simp [h2 x hx])
  rw [e1]
  (refine rg ?_;(conv=>whnf);refine aT ?_;refine rg ?_;conv=>whnf)
  refine Ad1 0 1000 [0,4] E E (by decide) (by simp; exact ⟨E,E⟩) ?_
  exact done E (.cons .tmp .nil) [(0,0),(1,1000)] _ (fun _ h=>h) E E ⟨Y,⟨.inl E,E,.inl E,E,Y⟩,E,E⟩
 obtain ⟨f1,f2⟩:=Xa (fun x=>!(p x)) l i (by omega) (fun k hk hki=>by simp [h3 k hk hki])
 have g1:dfC (fun x=>!(p x)) l (i + 1 + 0) = l:=by
  show dfC (fun x=>!(p x)) l (i + 1) = l
  simp only [dfC,List.getElem?_eq_getElem hi]
  rw [if_neg (by simp [h2]),f1]
 have g2:Dz (fun x=>!(p x)) l (i + 1 + 0) = i:=by
  show Dz (fun x=>!(p x)) l (i + 1) = i
  simp only [Dz,List.getElem?_eq_getElem hi]
  rw [if_neg (by simp [h2]),f2]
 rw [h1]
 (refine rg ?_;(conv=>whnf);refine aF ?_;refine rg ?_;conv=>whnf)
 refine ⟨by unfold I64; omega,?_⟩
 conv=>whnf
 refine A0 (l.length - (i + 1)) (fun j=>[(0,.osl 0),(1,.clo (.func f) first cap),(5,Aa (Dz (fun x=>!(p x)) l (i + 1 + j))),(6,Aa ((i + 1 + j:Nat)))]) (fun j=>[(0,.row 3 As (dfC (fun x=>!(p x)) l (i + 1 + j)))]) []
  ⟨⟨rfl,rfl,A2 _,hc0,congrArg Aa (congrArg Int.ofNat g2),rfl,congrArg (fun z=>SV.val (.int .i64 z)) (by omega),rfl,trivial⟩,⟨.inl (congrArg (Ob.row 3 As) g1),rfl,trivial⟩,rfl,rfl⟩ ?_
 intro j hj
 have hcl:=Tn (fun x=>!(p x)) l (i + 1 + j)
 have hdl:=M0 (fun x=>!(p x)) l (i + 1 + j)
 have hget:=Aet (fun x=>!(p x)) l (i + 1 + j) (i + 1 + j) (Nat.le_refl _)
 have s1:∀ h:i + 1 + j < l.length,Dz (fun x=>!(p x)) l (i + 1 + (j + 1)) = if (!(p l[i + 1 + j])) = true then Dz (fun x=>!(p x)) l (i + 1 + j) + 1 else Dz (fun x=>!(p x)) l (i + 1 + j):=fun hlt=>by
  show Dz (fun x=>!(p x)) l (i + 1 + j + 1) = _
  simp only [Dz,List.getElem?_eq_getElem hlt]
 have s2:∀ h:i + 1 + j < l.length,dfC (fun x=>!(p x)) l (i + 1 + (j + 1)) = if (!(p l[i + 1 + j])) = true then (dfC (fun x=>!(p x)) l (i + 1 + j)).set (Dz (fun x=>!(p x)) l (i + 1 + j)) l[i + 1 + j] else dfC (fun x=>!(p x)) l (i + 1 + j):=fun hlt=>by
  show dfC (fun x=>!(p x)) l (i + 1 + j + 1) = _
  simp only [dfC,List.getElem?_eq_getElem hlt]
 have htk:=fun h=>Aba (fun x=>!(p x)) l (i + 1 + j) h
 obtain ⟨D,hD⟩:∃ D,dfC (fun x=>!(p x)) l (i + 1 + j) = D:=⟨_,rfl⟩
 obtain ⟨K,hK⟩:∃ K,Dz (fun x=>!(p x)) l (i + 1 + j) = K:=⟨_,rfl⟩
 rw [hD] at hdl hget s2 htk ⊢
 rw [hK] at hcl s1 s2 htk ⊢
 refine rg ?_;conv=>whnf
 refine ⟨fun h=>?_,fun h=>?_⟩
 ·have hlt:i + 1 + j < l.length:=by have:=of_decide_eq_true h; omega
  have hfx:=hf l[i + 1 + j] (List.getElem_mem hlt)
  have s1:=s1 hlt
  have s2:=s2 hlt
  rw [List.getElem?_eq_getElem hlt,List.getElem?_eq_getElem (by omega)] at hget
  have hget:=Option.some.inj hget
  obtain ⟨x,hx⟩:∃ x,l[i + 1 + j] = x:=⟨_,rfl⟩
  rw [hx] at hfx s1 s2 hget
  refine rg ?_;conv=>whnf
  refine ⟨by omega,by simp; omega,?_⟩
  conv=>whnf
  refine ⟨E,by omega,?_⟩
  rw [show D[((i + 1 + j:Nat):Int).toNat]'(by omega) = x from hget]
  conv=>whnf
  refine Du hfx E E E (by simp only [hin]; rfl) E E ?_
  cases hpx:p x
  ·rw [hpx] at s1 s2
   (refine rg ?_;(conv=>whnf);refine aT ?_;refine rg ?_;conv=>whnf)
   refine ⟨by omega,by simp; omega,?_⟩
   conv=>whnf
   refine ⟨E,by omega,x,E,E,?_⟩
   conv=>whnf
   refine ⟨by unfold I64; omega,?_⟩
   conv=>whnf
   refine ⟨by unfold I64; omega,?_⟩
   conv=>whnf
   exact Ar [] (by omega) ⟨⟨E,E,A2 _,hc0,congrArg Aa (congrArg Int.ofNat s1),E,congrArg (fun z=>SV.val (.int .i64 z)) (by omega),E,Y⟩,⟨.inl (congrArg (Ob.row 3 As) s2),E,Y⟩,E,E⟩
  ·rw [hpx] at s1 s2
   (refine rg ?_;(conv=>whnf);refine aF ?_;refine rg ?_;conv=>whnf)
   refine ⟨by unfold I64; omega,?_⟩
   conv=>whnf
   exact Ar [] (by omega) ⟨⟨E,E,A2 _,hc0,congrArg Aa (congrArg Int.ofNat s1),E,congrArg (fun z=>SV.val (.int .i64 z)) (by omega),E,Y⟩,⟨.inl (congrArg (Ob.row 3 As) s2),E,Y⟩,E,E⟩
 ·have hend:i + 1 + j = l.length:=by have:=of_decide_eq_false h; omega
  have hne:D ≠ []:=fun h=>by rw [h] at hdl; simp at hdl; omega
  have htk:=htk (by omega)
  rw [show l.take (i + 1 + j) = l from List.take_of_length_le (by omega)] at htk
  refine Ae2 0 [0] E hne (by simp; rfl) ?_
  intro b cap' hcap
  refine rg ?_;conv=>whnf
  refine Ai (Ch Γ.toTy E E E E (.inr ⟨_,_,E,E⟩) (.inl ⟨E,E⟩) (by omega) (by omega)) E E ?_
  refine rg ?_;conv=>whnf
  refine Ai (Id Γ.toTy 0 (k:=K) E E E E (by decide) E E E (by omega) (by omega)) E E ?_
  refine rg ?_;conv=>whnf
  refine Ai (Ch Γ.toTy E E E E (.inl ⟨E,E⟩) (.inr ⟨_,_,E,E⟩) (by omega) (by omega)) E E ?_
  refine rg ?_;conv=>whnf
  refine To 0 1000 [4] K E E (by rw [List.length_take]; omega) (fun i hi=>?_) ?_
  ·rw [List.mem_singleton] at hi
   subst hi
   show SV.val (.slice (some (if cap' = 0 then ⟨b,0,none⟩ else ⟨b,0 * 3,none⟩)) (K - 0) (cap' - 0)) = _
   split <;> simp
  refine done E (.cons .tmp .nil) [(0,0),(1,1000)] _ (fun _ h=>h) E E ⟨Y,⟨.inl E,E,.inl ?_,E,Y⟩,E,E⟩
  rw [← htk]
  exact congrArg (Ob.row 3 As) (by rw [List.take_take,Nat.min_self])
theorem V9 (l:List EntryM) (i:Nat) (hi:i < l.length) (hl:Am l) :
  Sy.Spec Tryz.prog 293 [.osl 0,Aa i,Aa ((i + 1:Nat):Int)] [(0,.row 3 As l)] (.osl 1) [(0,.non),(1,.row 3 As (l.take i ++ l.drop (i + 1)))]:=Ab Γ hm 100 F293 Tryz.ntmps293 rfl fun F hF=>by
 unfold Am at hl
 have hne:l ≠ []:=fun h=>by rw [h] at hi; simp at hi
 conv=>whnf
 refine Ae2 0 [0,8] E hne (by simp; exact ⟨E,E⟩) ?_
 intro b cap hcap
 refine rg ?_;conv=>whnf
 refine Ai (V1 Γ.toTy E E E E E E E (by omega) (by omega) hcap) E E ?_
 refine rg ?_;conv=>whnf
 refine ⟨fun h=>absurd h (by simp; omega),fun _=>?_⟩
 refine rg ?_;conv=>whnf
 refine Bu (Ch Γ.toTy E E E E (.inl ⟨E,E⟩) (.inr ⟨_,_,E,E⟩) (by omega) (by omega)) (by kernel_rfl) E ?_
 refine rd (by kernel_rfl) ?_;conv=>whnf
 refine Bu (Ch (hi:=l.length) Γ.toTy E E E E (.inr ⟨_,_,E,E⟩) (.inl ⟨E,E⟩) (by omega) (by omega)) (by kernel_rfl) E ?_
 refine rd (by kernel_rfl) ?_;conv=>whnf
 have hif:(if cap = 0 then (⟨b,0,none⟩:Addr) else ⟨b,0 * 3,none⟩) = ⟨b,0,none⟩:=by split <;> simp
 refine Bu (Te Γ.toTy 0 (n:=l.length) (i:=i) (j:=i + 1) E E E (congrArg (fun z=>SV.val (.slice (some z) i cap)) hif) E E E E (by omega) (by omega)) (by kernel_rfl) E ?_
 refine rd (by kernel_rfl) ?_;conv=>whnf
 refine ⟨(by kernel_rfl),?_⟩
 conv=>whnf
 refine Ai (Ch (lo:=i + (l.length - (i + 1))) (hi:=l.length) Γ.toTy E E E E (.inr ⟨_,_,E,E⟩) (.inr ⟨_,_,E,E⟩) (by omega) (by omega)) E E ?_
 refine rg ?_;conv=>whnf
 have hll:(l.take i ++ l.drop (i + 1)).length = i + (l.length - (i + 1)):=by rw [List.length_append,List.length_take,List.length_drop]; omega
 refine Ai (Id Γ.toTy 0 (k:=i + (l.length - (i + 1))) E E E E (by decide) E E E (by omega) (by omega)) E E ?_
 refine rg ?_;conv=>whnf
 refine To 0 1000 [6] (i + (l.length - (i + 1))) E E (by rw [List.length_take]; omega) (by simp; rfl) ?_
 refine done E (.cons .tmp .nil) [(0,0),(1,1000)] _ (fun _ h=>h) E E ⟨Y,⟨.inl E,E,.inl ?_,E,Y⟩,E,E⟩
 exact congrArg (Ob.row 3 As) (by rw [List.take_take,Nat.min_self]; exact (List.take_of_length_le (by omega)).symm)
theorem Sa (m:Nat) (h:m < 18446744073709551616):Sy.Spec Tryz.prog 97 [A7 m] [] (Ad (Hd m)) []:=Ab Γ hm 100 F97 Tryz.ntmps97 rfl fun F hF=>by
 have q:=Jc m h
 conv=>whnf
 refine ⟨fun h1=>?_,fun h1=>?_⟩
 ·have h2:m ≤ 281474976710655:=by simp at h1; omega
  refine rg ?_;conv=>whnf
  refine Ag q F162 E E E E E ?_
  refine rg ?_;conv=>whnf
  exact Ac E (.cons .tmp .nil) (congrArg Ad (by rw [Hd,decide_eq_true h2,Bool.true_and])) E
 ·have h2:¬ m ≤ 281474976710655:=by simp at h1; omega
  refine rg ?_;conv=>whnf
  exact Ac E (.cons .tmp .nil) (congrArg Ad (by rw [Hd,decide_eq_false h2,Bool.false_and])) E
theorem Mm (i:Int):Sy.Spec Tryz.prog 98 [Aa i] [] (Ad (Er i)) []:=Ab Γ hm 100 F98 Tryz.ntmps98 rfl fun F hF=>by
 conv=>whnf
 (repeat' (first | (refine ⟨fun h=>?_,fun h=>?_⟩ <;> (repeat (first | simp only [decide_eq_true_eq] at h | simp only [decide_eq_false_iff_not] at h)) <;> ((refine rg ?_);(conv=>whnf))) | (refine Ac rfl (.cons .tmp .nil) ?_ rfl)))
 all_goals (refine congrArg Ad ?_)
 all_goals grind [Er]
theorem Ae9 (m:Nat) (e:EntryM):Sy.Spec Tryz.prog 164 [As e,.ref 1 (A7 m) 0] [] (Ad (decide (e.mac = m))) []:=Ab Γ hm 100 F164 Tryz.ntmps164 rfl fun F hF=>by
 conv=>whnf
 refine Ac E (.cons .tmp .nil) ?_ E
 refine congrArg Ad ?_
 rw [Bool.eq_iff_iff]; simp; omega
theorem Qn (t:List EntryM) (m:Nat) (hl:Am t):Sy.Spec Tryz.prog 99 [.sl 3 As t,A7 m] [] (Aa (Ds t m)) []:=Ab Γ hm 100 F99 Tryz.ntmps99 rfl fun F hF=>by
 have q:=Je t (fun e=>decide (e.mac = m)) 164 [] [.ref 1 (A7 m) 0] rfl (fun x _=>⟨⟨_,_,F164⟩,Ae9 m x⟩) hl
 conv=>whnf
 refine B1 3 1 (A7 m) E E E ?_
 refine rg ?_;conv=>whnf
 refine Ag q F163 E E E E E ?_
 refine rg ?_;conv=>whnf
 exact Ac E (.cons .tmp .nil) E E
theorem Aho (t:List EntryM) (m:Nat) (hl:Am t):Sy.Spec Tryz.prog 307 [.sl 3 As t,A7 m] [] (.tup [Aa (findE t m).1,Ad (findE t m).2]) []:=Ab Γ hm 100 F307 Tryz.ntmps307 rfl fun F hF=>by
 have q:=Qn t m hl
 have hlt:Ds t m < t.length:=Hb _ _
 have hres:=findE.eq_1 t m
 generalize findE t m = res at *
 generalize Ds t m = i at *
 conv=>whnf
 refine Ag q F99 E E E E E ?_
 refine rg ?_;conv=>whnf
 refine ⟨fun h=>?_,fun h=>?_⟩
 ·rw [if_pos (by simpa using h)] at hres
  subst hres
  refine rg ?_;conv=>whnf
  exact Ac E (.cons .tmp (.cons .tmp .nil)) E E
 ·have h0:¬ i < 0:=by simpa using h
  have hi:i.toNat < t.length:=by omega
  rw [if_neg h0,List.getElem?_eq_getElem hi] at hres
  subst hres
  refine rg ?_;conv=>whnf
  refine ⟨E,by omega,by omega,?_⟩
  conv=>whnf
  exact Ac E (.cons .tmp (.cons .tmp .nil)) E E
theorem Lg (t:List EntryM) (hl:Am t) (hmac:∀ e ∈ t,e.mac < 18446744073709551616):Sy.Spec Tryz.prog 47 [.sl 3 As t] [] (Ad (tableB t)) []:=Ab Γ hm 100 F47 Tryz.ntmps47 rfl fun F hF=>by
 unfold Am at hl
 have hres:=tableB.eq_1 t
 generalize tableB t = res at *
 conv=>whnf
 refine ⟨fun h=>?_,fun h=>?_⟩
 ·have h8:¬ t.length ≤ 8:=by simp at h; omega
  rw [decide_eq_false h8,Bool.false_and] at hres
  subst hres
  refine rg ?_;conv=>whnf
  exact Ac E (.cons .tmp .nil) E E
 have h8:t.length ≤ 8:=by simp at h; omega
 rw [decide_eq_true h8,Bool.true_and] at hres
 refine rg ?_;conv=>whnf
 refine Bc t.length (fun j=>Ep (Q4 t) t j) (fun j=>[(0,.sl 3 As t),(8,.sl 3 As t),(9,Aa t.length),(10,Aa j)]) (fun _=>[]) [] (Bf _ _) ⟨⟨E,E,E,E,E,E,E,E,Y⟩,Y,E,E⟩ ?_
 intro j hj hI
 refine rg ?_;conv=>whnf
 refine ⟨fun h=>?_,fun h=>?_⟩
 ·have hlt:j < t.length:=by have:=of_decide_eq_true h; omega
  have q1:=Sa t[j].mac (hmac _ (List.getElem_mem hlt))
  have q2:=Mm t[j].seen
  have q3:=Qn t t[j].mac hl
  have hent:Q4 t j t[j] = (Hd t[j].mac && Er t[j].seen && decide (Ds t t[j].mac = j)):=rfl
  have hbad:Q4 t j t[j] = false → res = false:=fun hf=>by rw [hres]; exact B7 hlt hf
  have hgood:Q4 t j t[j] = true → Ep (Q4 t) t (j + 1):=fun ht=>Bb hI hlt ht
  refine rg ?_;conv=>whnf
  refine ⟨E,by omega,by omega,?_⟩
  rw [show t[((j:Nat):Int).toNat]'(by omega) = t[j] from rfl]
  generalize t[j] = x at *
  conv=>whnf
  refine Ag q1 F97 E E E E E ?_
  cases h1:Hd x.mac
  ·rw [hbad (by rw [hent,h1]; rfl)]
   (refine rg ?_;(conv=>whnf);refine aT ?_;refine rg ?_;(conv=>whnf);refine aT ?_;refine rg ?_;(conv=>whnf);refine aT ?_;refine rg ?_;conv=>whnf)
   exact Ac E (.cons .tmp .nil) E E
  (refine rg ?_;(conv=>whnf);refine aF ?_;refine rg ?_;conv=>whnf)
  refine Ag q2 F98 E E E E E ?_
  cases h2:Er x.seen
  ·rw [hbad (by rw [hent,h1,h2]; rfl)]
   (refine rg ?_;(conv=>whnf);refine aT ?_;refine rg ?_;(conv=>whnf);refine aT ?_;refine rg ?_;conv=>whnf)
   exact Ac E (.cons .tmp .nil) E E
  (refine rg ?_;(conv=>whnf);refine aF ?_;refine rg ?_;conv=>whnf)
  refine Ag q3 F99 E E E E E ?_
  refine rg ?_;conv=>whnf
  refine ⟨fun h3=>?_,fun h3=>?_⟩
  ·rw [hbad (by rw [hent,h1,h2,decide_eq_false (by simpa using h3)]; rfl)]
   refine rg ?_;conv=>whnf
   exact Ac E (.cons .tmp .nil) E E
  ·have h4:=hgood (by rw [hent,h1,h2,decide_eq_true (by simpa using h3)]; rfl)
   refine rg ?_;conv=>whnf
   refine ⟨by unfold I64; omega,?_⟩
   conv=>whnf
   exact Ba [] hI (by omega) h4 ⟨⟨E,E,E,E,E,E,E,E,Y⟩,Y,E,E⟩
 ·have hend:j = t.length:=by have:=of_decide_eq_false h; omega
  subst hend
  rw [hres.trans (Dp hI (Nat.le_refl _))]
  refine rg ?_;conv=>whnf
  exact Ac E (.cons .tmp .nil) E E
theorem Akx (now:Int) (hn:Er now = true) (e:EntryM):Sy.Spec Tryz.prog 187 [As e,.ref 1 (Aa now) 0] [] (Ad (decide (e.seen < now - 4))) []:=Ab Γ hm 100 F187 Tryz.ntmps187 rfl fun F hF=>by
 have hn2:0 ≤ now ∧ now ≤ 1099511627776:=by simpa [Er] using hn
 conv=>whnf
 refine ⟨by unfold I64; omega,?_⟩
 conv=>whnf
 exact Ac E (.cons .tmp .nil) E E
theorem Akw (t:List EntryM) (now:Int) (hl:Am t) (hmac:∀ e ∈ t,e.mac < 18446744073709551616):Sy.Spec Tryz.prog 107 [.sl 3 As t,Aa now] [] (.sl 3 As (ageT t now)) []:=Ab Γ hm 100 F107 Tryz.ntmps107 rfl fun F hF=>by
 have hl2:=hl
 unfold Am at hl2
 have hres:=ageT.eq_1 t now
 generalize ageT t now = res at *
 have q1:=Lg t hl hmac
 have q2:=Mm now
 conv=>whnf
 refine Ai (Ah [(0,55)] E F48 (K7 t hl2) E Y E ⟨.inr E,Y⟩) E E ?_
 refine rg ?_;conv=>whnf
 refine Ag q1 F47 E E E E E ?_
 cases h1:tableB t
 ·rw [if_pos (.inl h1)] at hres
  subst hres
  (refine rg ?_;(conv=>whnf);refine aT ?_;refine rg ?_;(conv=>whnf);refine aT ?_;refine rg ?_;conv=>whnf)
  refine At 55 E ?_
  exact Ac E (.cons .tmp .nil) E E
 (refine rg ?_;(conv=>whnf);refine aF ?_;refine rg ?_;conv=>whnf)
 refine Ag q2 F98 E E E E E ?_
 cases h2:Er now
 ·rw [if_pos (.inr h2)] at hres
  subst hres
  (refine rg ?_;(conv=>whnf);refine aT ?_;refine rg ?_;conv=>whnf)
  refine At 55 E ?_
  exact Ac E (.cons .tmp .nil) E E
 rw [if_neg (by simp [h1,h2])] at hres
 (refine rg ?_;(conv=>whnf);refine aF ?_;refine rg ?_;conv=>whnf)
 refine B1 3 1 (Aa now) E E E ?_
 refine rg ?_;conv=>whnf
 have q3:=Qa t (fun e=>decide (e.seen < now - 4)) 187 [] [.ref 1 (Aa now) 0] rfl rfl (fun x _=>⟨⟨_,_,F187⟩,Akx now h2 x⟩) hl
 refine Ai (Ah [(0,55),(1,56)] E F186 q3 E ⟨E,Y⟩ E ⟨.inl E,.inr E,Y⟩) E E ?_
 refine rg ?_;conv=>whnf
 refine At 56 E ?_
 refine Ac E (.cons .tmp .nil) ?_ E
 subst hres
 refine congrArg (SV.sl 3 As) (List.filter_congr fun e _=>?_)
 rw [Bool.eq_iff_iff]; simp
theorem Ul (t:List EntryM) (j:Nat) (h:0 < t.length) (hj:j ≤ t.length):oldestU t j < t.length:=by
 induction j with
 | zero=>exact h
 | succ j ih =>
  rw [oldestU]
  split
  ·omega
  ·exact ih (by omega)
theorem Ab0 (t:List EntryM) (hl:Am t) (h0:0 < t.length):Sy.Spec Tryz.prog 292 [.sl 3 As t] [] (Aa (oldestU t t.length:Nat)) []:=Ab Γ hm 100 F292 Tryz.ntmps292 rfl fun F hF=>by
 unfold Am at hl
 conv=>whnf
 refine A0 t.length (fun j=>[(0,.sl 3 As t),(3,Aa (oldestU t j:Nat)),(6,.sl 3 As t),(7,Aa t.length),(8,Aa j)]) (fun _=>[]) [] ⟨⟨E,E,E,E,E,E,E,E,E,E,Y⟩,Y,E,E⟩ ?_
 intro j hj
 refine rg ?_;conv=>whnf
 refine ⟨fun h=>?_,fun h=>?_⟩
 ·have hlt:j < t.length:=by have:=of_decide_eq_true h; omega
  have hol:=Ul t j h0 (by omega)
  have hs:=oldestU.eq_2 t j
  rw [List.getElem?_eq_getElem hlt,List.getElem?_eq_getElem hol] at hs
  obtain ⟨o,ho⟩:∃ o,oldestU t j = o:=⟨_,rfl⟩
  simp only [ho] at hs hol ⊢
  have hs2:oldestU t (j + 1) = if t[j].seen < t[o].seen then j else o:=hs
  refine rg ?_;conv=>whnf
  refine ⟨E,by omega,by omega,?_⟩
  rw [show t[((j:Nat):Int).toNat]'(by omega) = t[j] from rfl]
  conv=>whnf
  refine ⟨E,by omega,by omega,?_⟩
  rw [show t[((o:Nat):Int).toNat]'(by omega) = t[o] from rfl]
  conv=>whnf
  refine ⟨(by kernel_rfl),?_⟩
  conv=>whnf
  refine ⟨fun h2=>?_,fun h2=>?_⟩
  ·rw [if_pos (of_decide_eq_true h2)] at hs2
   refine rg ?_;conv=>whnf
   refine ⟨by unfold I64; omega,?_⟩
   conv=>whnf
   exact Ar [] (by omega) ⟨⟨E,E,congrArg (fun z:Nat=>Aa z) hs2,E,E,E,E,E,E,E,Y⟩,Y,E,E⟩
  ·rw [if_neg (of_decide_eq_false h2)] at hs2
   refine rg ?_;conv=>whnf
   refine ⟨by unfold I64; omega,?_⟩
   conv=>whnf
   exact Ar [] (by omega) ⟨⟨E,E,congrArg (fun z:Nat=>Aa z) hs2,E,E,E,E,E,E,E,Y⟩,Y,E,E⟩
 ·have:j = t.length:=by have:=of_decide_eq_false h; omega
  subst this
  refine rg ?_;conv=>whnf
  exact Ac E (.cons .tmp .nil) E E
theorem We (t:List EntryM) (m:Nat) (wh now:Int) (hl:Am t) (hmac:∀ e ∈ t,e.mac < 18446744073709551616) (hm64:m < 18446744073709551616) :
  Sy.Spec Tryz.prog 243 [.sl 3 As t,A7 m,Aa wh,Aa now] [] (.sl 3 As (learnT t m wh now)) []:=Ab Γ hm 100 F243 Tryz.ntmps243 rfl fun F hF=>by
 have hl2:=hl
 unfold Am at hl2
 have hres:=learnT.eq_1 t m wh now
 generalize learnT t m wh now = res at *
 have q1:=Lg t hl hmac
 have q2:=Sa m hm64
 have q3:=Mm now
 have q4:=Qn t m hl
 conv=>whnf
 refine Ai (Ah [(0,55)] E F48 (K7 t hl2) E Y E ⟨.inr E,Y⟩) E E ?_
 refine rg ?_;conv=>whnf
 refine Ag q1 F47 E E E E E ?_
 cases h1:tableB t
 ·rw [if_pos (.inl h1)] at hres
  subst hres
  (refine rg ?_;(conv=>whnf);refine aT ?_;refine rg ?_;(conv=>whnf);refine aT ?_;refine rg ?_;(conv=>whnf);refine aT ?_;refine rg ?_;conv=>whnf)
  refine At 55 E ?_
  exact Ac E (.cons .tmp .nil) E E
 (refine rg ?_;(conv=>whnf);refine aF ?_;refine rg ?_;conv=>whnf)
 refine Ag q2 F97 E E E E E ?_
 cases h2:Hd m
 ·rw [if_pos (.inr (.inl h2))] at hres
  subst hres
  (refine rg ?_;(conv=>whnf);refine aT ?_;refine rg ?_;(conv=>whnf);refine aT ?_;refine rg ?_;conv=>whnf)
  refine At 55 E ?_
  exact Ac E (.cons .tmp .nil) E E
 (refine rg ?_;(conv=>whnf);refine aF ?_;refine rg ?_;conv=>whnf)
 refine Ag q3 F98 E E E E E ?_
 cases h3:Er now
 ·rw [if_pos (.inr (.inr h3))] at hres
  subst hres
  (refine rg ?_;(conv=>whnf);refine aT ?_;refine rg ?_;conv=>whnf)
  refine At 55 E ?_
  exact Ac E (.cons .tmp .nil) E E
 rw [if_neg (by simp [h1,h2,h3])] at hres
 have ht8:t.length ≤ 8:=by simp only [tableB,Bool.and_eq_true,decide_eq_true_eq] at h1; exact h1.1
 have hfound:∀ hi:0 ≤ Ds t m,∃ h:(Ds t m).toNat < t.length,t[(Ds t m).toNat].mac = m:=fun hi=>by
  rcases Mu (fun e=>decide (EntryM.mac e = m)) t with ⟨h,_⟩ | ⟨k,hk,h,h2,_⟩
  ·rw [Ds,h] at hi
   exact absurd hi (by decide)
  ·have e1:Ds t m = k:=h
   simp only [e1,Int.toNat_natCast]
   exact ⟨hk,of_decide_eq_true h2⟩
 generalize Ds t m = i at *
 (refine rg ?_;(conv=>whnf);refine aF ?_;refine rg ?_;conv=>whnf)
 refine Ag q4 F99 E E E E E ?_
 refine rg ?_;conv=>whnf
 refine ⟨fun h4=>?_,fun h4=>?_⟩
 ·have h5:0 ≤ i:=by simpa using h4
  obtain ⟨hi,hmm⟩:=hfound h5
  rw [if_pos h5] at hres
  refine rg ?_;conv=>whnf
  have hne:t ≠ []:=fun h=>by rw [h] at hi; simp at hi
  refine ⟨h5,by omega,?_⟩
  conv=>whnf
  refine ⟨hne,?_⟩
  conv=>whnf
  refine ⟨E,hi,⟨t[i.toNat].mac,wh,t[i.toNat].seen⟩,E,E,?_⟩
  conv=>whnf
  refine ⟨h5,by simp; omega,?_⟩
  conv=>whnf
  refine ⟨by simp; exact hne,?_⟩
  conv=>whnf
  refine ⟨E,by simp; omega,⟨t[i.toNat].mac,wh,now⟩,by rw [List.getElem_set_self]; rfl,by rw [List.getElem_set_self]; rfl,?_⟩
  conv=>whnf
  refine At 55 E ?_
  refine rg ?_;conv=>whnf
  refine Ac E (.cons .tmp .nil) (congrArg (SV.sl 3 As) ?_) E
  rw [hres,List.set_set,hmm]
 ·have h5:¬ 0 ≤ i:=by simp at h4 ⊢; omega
  rw [if_neg h5] at hres
  refine rg ?_;conv=>whnf
  refine ⟨fun h6=>?_,fun h6=>?_⟩
  ·have h7:t.length = 8:=by simp at h6; omega
   rw [if_pos h7] at hres
   have q5:=Ab0 t hl (by omega)
   have hol:=Ul t t.length (by omega) (Nat.le_refl _)
   refine rg ?_;conv=>whnf
   refine Aeu [55] q5 F292 E (.cons (.row E E) .nil) E E E ?_
   generalize oldestU t t.length = o at *
   have q6:=V9 t o hol hl
   refine rg ?_;conv=>whnf
   refine ⟨by unfold I64; omega,?_⟩
   conv=>whnf
   refine Ai (Ah [(0,55),(1,56)] E F293 q6 E ⟨E,Y⟩ E ⟨.inl E,.inr E,Y⟩) E E ?_
   refine rg ?_;conv=>whnf
   refine Ai (Ak Γ.toTy 60 rfl rfl rfl rfl rfl (.row rfl) (.lit (e:=As) (l:=[⟨m,wh,now⟩]) rfl rfl) (fun j hj=>by cases hj; decide) (by simp; omega) (by simp; omega)) rfl rfl ?_
   refine At 60 E ?_
   refine rg ?_;conv=>whnf
   refine Ac E (.cons .tmp .nil) (congrArg (SV.sl 3 As) ?_) E
   rw [hres,List.eraseIdx_eq_take_drop_succ]
  ·have h7:¬ t.length = 8:=by simp at h6; omega
   rw [if_neg h7] at hres
   refine rg ?_;conv=>whnf
   refine Ai (Ak Γ.toTy 60 rfl rfl rfl rfl rfl (.row rfl) (.lit (e:=As) (l:=[⟨m,wh,now⟩]) rfl rfl) (fun j hj=>by cases hj; decide) (by simp; omega) (by simp; omega)) rfl rfl ?_
   refine At 60 E ?_
   refine rg ?_;conv=>whnf
   exact Ac E (.cons .tmp .nil) (congrArg (SV.sl 3 As) hres) E
theorem Yw (l:List Int) (hl:l.length < 2147483648):Sy.Spec Tryz.prog 95 [.sl 1 Aa l] [] (.osl 0) [(0,.row 1 Aa l)]:=Ab Γ hm 100 F95 Tryz.ntmps95 rfl fun F hF=>by
 conv=>whnf
 refine C8 E (.inl E) E E E .sl E E ?_
 intro b hb
 cases b
 ·(refine rg ?_;(conv=>whnf);refine aF ?_;refine rg ?_;conv=>whnf)
  refine Ai (Ak Γ.toTy 7 E E E E E (.lit (e:=Aa) (l:=[]) E E) .sl (by simp) (by simp; omega) (by simp; omega)) E E ?_
  refine rg ?_;conv=>whnf
  exact done E (.cons .tmp .nil) [(0,7)] [(0,.row 1 Aa l)] (fun _ h=>h) E E ⟨Y,⟨.inl E,E,Y⟩,E,E⟩
 ·have h0:l = []:=List.eq_nil_of_length_eq_zero (hb rfl)
  subst h0
  (refine rg ?_;(conv=>whnf);refine aT ?_;refine rg ?_;conv=>whnf)
  refine B5 2 1000 1 Aa E E ?_
  exact done E (.cons .tmp .nil) [(0,1000)] [(0,.row 1 Aa [])] (fun _ h=>h) E E ⟨Y,⟨.inl E,E,Y⟩,E,E⟩
theorem Tg (l:List Int) (p:Int → Bool) (f:FuncId) (first cap:List SV) (hc:(SV.clo (.func f) first cap).inn [] = true) (hc0:(SV.clo (.func f) first cap).inn [0] = true) (hf:∀ x ∈ l,Hm Tryz.prog f (first ++ [Aa x] ++ cap) (Ad (p x))) (hl:Am l) :
  Sy.Spec Tryz.prog 291 [.osl 0,.clo (.func f) first cap] [(0,.row 1 Aa l)] (.osl 1) [(0,.non),(1,.row 1 Aa (l.filter fun x=>!(p x)))]:=Ab Γ hm 100 F291 Tryz.ntmps291 rfl fun F hF=>by
 have qi:=Ic l p f first cap hc hf hl
 unfold Am at hl
 have hin:∀ x:Int,B3 [] (first ++ [Aa x] ++ cap) = true:=fun x=>Co hc rfl
 conv=>whnf
 refine Aeu [0] qi F321 E (.cons (.row E E) (.cons (.refl _) .nil)) (by simp only [B3,hc,Bool.and_true]; rfl) E E ?_
 rcases Mu p l with ⟨h1,h2⟩ | ⟨i,hi,h1,h2,h3⟩
 ·rw [h1]
  have e1:(l.filter fun x=>!(p x)) = l:=List.filter_eq_self.2 (fun x hx=>by simp [h2 x hx])
  rw [e1]
  (refine rg ?_;(conv=>whnf);refine aT ?_;refine rg ?_;conv=>whnf)
  refine Ad1 0 1000 [0,4] E E (by decide) (by simp; exact ⟨E,E⟩) ?_
  exact done E (.cons .tmp .nil) [(0,0),(1,1000)] _ (fun _ h=>h) E E ⟨Y,⟨.inl E,E,.inl E,E,Y⟩,E,E⟩
 obtain ⟨f1,f2⟩:=Xa (fun x=>!(p x)) l i (by omega) (fun k hk hki=>by simp [h3 k hk hki])
 have g1:dfC (fun x=>!(p x)) l (i + 1 + 0) = l:=by
  show dfC (fun x=>!(p x)) l (i + 1) = l
  simp only [dfC,List.getElem?_eq_getElem hi]
  rw [if_neg (by simp [h2]),f1]
 have g2:Dz (fun x=>!(p x)) l (i + 1 + 0) = i:=by
  show Dz (fun x=>!(p x)) l (i + 1) = i
  simp only [Dz,List.getElem?_eq_getElem hi]
  rw [if_neg (by simp [h2]),f2]
 rw [h1]
 (refine rg ?_;(conv=>whnf);refine aF ?_;refine rg ?_;conv=>whnf)
 refine ⟨by unfold I64; omega,?_⟩
 conv=>whnf
 refine A0 (l.length - (i + 1)) (fun j=>[(0,.osl 0),(1,.clo (.func f) first cap),(5,Aa (Dz (fun x=>!(p x)) l (i + 1 + j))),(6,Aa ((i + 1 + j:Nat)))]) (fun j=>[(0,.row 1 Aa (dfC (fun x=>!(p x)) l (i + 1 + j)))]) []
  ⟨⟨rfl,rfl,A2 _,hc0,congrArg Aa (congrArg Int.ofNat g2),rfl,congrArg (fun z=>SV.val (.int .i64 z)) (by omega),rfl,trivial⟩,⟨.inl (congrArg (Ob.row 1 Aa) g1),rfl,trivial⟩,rfl,rfl⟩ ?_
 intro j hj
 have hcl:=Tn (fun x=>!(p x)) l (i + 1 + j)
 have hdl:=M0 (fun x=>!(p x)) l (i + 1 + j)
 have hget:=Aet (fun x=>!(p x)) l (i + 1 + j) (i + 1 + j) (Nat.le_refl _)
 have s1:∀ h:i + 1 + j < l.length,Dz (fun x=>!(p x)) l (i + 1 + (j + 1)) = if (!(p l[i + 1 + j])) = true then Dz (fun x=>!(p x)) l (i + 1 + j) + 1 else Dz (fun x=>!(p x)) l (i + 1 + j):=fun hlt=>by
  show Dz (fun x=>!(p x)) l (i + 1 + j + 1) = _
  simp only [Dz,List.getElem?_eq_getElem hlt]
 have s2:∀ h:i + 1 + j < l.length,dfC (fun x=>!(p x)) l (i + 1 + (j + 1)) = if (!(p l[i + 1 + j])) = true then (dfC (fun x=>!(p x)) l (i + 1 + j)).set (Dz (fun x=>!(p x)) l (i + 1 + j)) l[i + 1 + j] else dfC (fun x=>!(p x)) l (i + 1 + j):=fun hlt=>by
  show dfC (fun x=>!(p x)) l (i + 1 + j + 1) = _
  simp only [dfC,List.getElem?_eq_getElem hlt]
 have htk:=fun h=>Aba (fun x=>!(p x)) l (i + 1 + j) h
 obtain ⟨D,hD⟩:∃ D,dfC (fun x=>!(p x)) l (i + 1 + j) = D:=⟨_,rfl⟩
 obtain ⟨K,hK⟩:∃ K,Dz (fun x=>!(p x)) l (i + 1 + j) = K:=⟨_,rfl⟩
 rw [hD] at hdl hget s2 htk ⊢
 rw [hK] at hcl s1 s2 htk ⊢
 refine rg ?_;conv=>whnf
 refine ⟨fun h=>?_,fun h=>?_⟩
 ·have hlt:i + 1 + j < l.length:=by have:=of_decide_eq_true h; omega
  have hfx:=hf l[i + 1 + j] (List.getElem_mem hlt)
  have s1:=s1 hlt
  have s2:=s2 hlt
  rw [List.getElem?_eq_getElem hlt,List.getElem?_eq_getElem (by omega)] at hget
  have hget:=Option.some.inj hget
  obtain ⟨x,hx⟩:∃ x,l[i + 1 + j] = x:=⟨_,rfl⟩
  rw [hx] at hfx s1 s2 hget
  refine rg ?_;conv=>whnf
  refine ⟨by omega,by simp; omega,?_⟩
  conv=>whnf
  refine ⟨E,by omega,?_⟩
  rw [show D[((i + 1 + j:Nat):Int).toNat]'(by omega) = x from hget]
  conv=>whnf
  refine Du hfx E E E (by simp only [hin]; rfl) E E ?_
  cases hpx:p x
  ·rw [hpx] at s1 s2
   (refine rg ?_;(conv=>whnf);refine aT ?_;refine rg ?_;conv=>whnf)
   refine ⟨by omega,by simp; omega,?_⟩
   conv=>whnf
   refine ⟨E,by omega,x,E,E,?_⟩
   conv=>whnf
   refine ⟨by unfold I64; omega,?_⟩
   conv=>whnf
   refine ⟨by unfold I64; omega,?_⟩
   conv=>whnf
   exact Ar [] (by omega) ⟨⟨E,E,A2 _,hc0,congrArg Aa (congrArg Int.ofNat s1),E,congrArg (fun z=>SV.val (.int .i64 z)) (by omega),E,Y⟩,⟨.inl (congrArg (Ob.row 1 Aa) s2),E,Y⟩,E,E⟩
  ·rw [hpx] at s1 s2
   (refine rg ?_;(conv=>whnf);refine aF ?_;refine rg ?_;conv=>whnf)
   refine ⟨by unfold I64; omega,?_⟩
   conv=>whnf
   exact Ar [] (by omega) ⟨⟨E,E,A2 _,hc0,congrArg Aa (congrArg Int.ofNat s1),E,congrArg (fun z=>SV.val (.int .i64 z)) (by omega),E,Y⟩,⟨.inl (congrArg (Ob.row 1 Aa) s2),E,Y⟩,E,E⟩
 ·have hend:i + 1 + j = l.length:=by have:=of_decide_eq_false h; omega
  have hne:D ≠ []:=fun h=>by rw [h] at hdl; simp at hdl; omega
  have htk:=htk (by omega)
  rw [show l.take (i + 1 + j) = l from List.take_of_length_le (by omega)] at htk
  refine Ae2 0 [0] E hne (by simp; rfl) ?_
  intro b cap' hcap
  refine rg ?_;conv=>whnf
  refine Ai (Ch Γ.toTy E E E E (.inr ⟨_,_,E,E⟩) (.inl ⟨E,E⟩) (by omega) (by omega)) E E ?_
  refine rg ?_;conv=>whnf
  refine Ai (Id Γ.toTy 0 (k:=K) E E E E (by decide) E E E (by omega) (by omega)) E E ?_
  refine rg ?_;conv=>whnf
  refine Ai (Ch Γ.toTy E E E E (.inl ⟨E,E⟩) (.inr ⟨_,_,E,E⟩) (by omega) (by omega)) E E ?_
  refine rg ?_;conv=>whnf
  refine To 0 1000 [4] K E E (by rw [List.length_take]; omega) (fun i hi=>?_) ?_
  ·rw [List.mem_singleton] at hi
   subst hi
   show SV.val (.slice (some (if cap' = 0 then ⟨b,0,none⟩ else ⟨b,0 * 1,none⟩)) (K - 0) (cap' - 0)) = _
   split <;> simp
  refine done E (.cons .tmp .nil) [(0,0),(1,1000)] _ (fun _ h=>h) E E ⟨Y,⟨.inl E,E,.inl ?_,E,Y⟩,E,E⟩
  rw [← htk]
  exact congrArg (Ob.row 1 Aa) (by rw [List.take_take,Nat.min_self])
def Jr (n:Net) (fw:List Bool) (at_ from_:Int) (ml:List Int):SV :=
 .agg [.sl 5 Bj n.devices,.sl 7 A9 n.ports,.sl 3 Cg n.links,.sl 6 Au n.domains,.sl 4 Bg n.statics,.sl 4 Bz n.floods,.sl 5 Cu n.vrfs,.sl 5 Dn n.irbs,.sl 1 Ad fw,Aa at_,Aa from_,.sl 1 Aa ml]
theorem Akq (n:Net) (fw:List Bool) (p:Int) (h0:0 ≤ p) (hp:p < n.ports.length) (hl:(nth n.ports p).link < fw.length):Sy.Spec Tryz.prog 290 [Aq n,.sl 1 Ad fw,Aa p] [] (Ad (usableB n fw p)) []:=Ab Γ hm 100 F290 Tryz.ntmps290 rfl fun F hF=>by
 have hk:p.toNat < n.ports.length:=by omega
 have e1:nth n.ports p = n.ports[p.toNat]:=An hk
 have hu:=usableB.eq_1 n fw p
 generalize usableB n fw p = res at *
 rw [e1] at hu hl
 obtain ⟨q,hq⟩:∃ q,n.ports[p.toNat]'hk = q:=⟨_,rfl⟩
 rw [hq] at hu hl
 conv=>whnf
 refine ⟨E,h0,hk,?_⟩
 rw [hq]
 conv=>whnf
 refine ⟨fun h=>?_,fun h=>?_⟩
 ·rw [h,Bool.true_or] at hu
  subst hu
  refine rg ?_;conv=>whnf
  exact Ac E (.cons .tmp .nil) E E
 ·rw [h,Bool.false_or] at hu
  have h1:¬ q.link < 0:=of_decide_eq_false h
  have h2:q.link.toNat < fw.length:=by omega
  rw [List.getElem?_eq_getElem h2] at hu
  refine rg ?_;conv=>whnf
  refine ⟨E,by omega,h2,?_⟩
  conv=>whnf
  exact Ac E (.cons .tmp .nil) (congrArg Ad hu) E
theorem portsC (n:Net) (fw:List Bool) (at_ from_:Int) (ml:List Int) (p:Int) (h0:0 ≤ p) (hp:p < n.ports.length) (hl:(nth n.ports p).link < fw.length) :
  Sy.Spec Tryz.prog 289 [Aa p,.ref 1 (.ref 12 (Jr n fw at_ from_ ml) 0) 0] [] (Ad (decide (p = from_) || !(usableB n fw p))) []:=Ab Γ hm 100 F289 Tryz.ntmps289 rfl fun F hF=>by
 have q:=Akq n fw p h0 hp hl
 conv=>whnf
 refine ⟨fun h=>?_,fun h=>?_⟩
 ·have h1:p = from_:=by simpa using h
  refine rd (by kernel_rfl) ?_;conv=>whnf
  refine ⟨(by kernel_rfl),?_⟩
  conv=>whnf
  exact Ac E (.cons .tmp .nil) (congrArg Ad (by rw [decide_eq_true h1,Bool.true_or])) E
 ·have h1:¬ p = from_:=by simpa using h
  refine rd (by kernel_rfl) ?_;conv=>whnf
  refine Ay q F290 E E E (by kernel_rfl) E ?_
  refine rd (by kernel_rfl) ?_;conv=>whnf
  refine ⟨(by kernel_rfl),?_⟩
  conv=>whnf
  exact Ac E (.cons .tmp .nil) (congrArg Ad (by rw [decide_eq_false h1,Bool.false_or])) E
def Ae0 (n:Net) (fw:List Bool) (l:List Int):Prop:=∀ p ∈ l,0 ≤ p ∧ p < n.ports.length ∧ (nth n.ports p).link < fw.length
theorem Ace (n:Net) (fw:List Bool) (at_ from_:Int) (ml l:List Int) (hl:Am l) (hp:Ae0 n fw l) :
  Sy.Spec Tryz.prog 241 [.ref 12 (Jr n fw at_ from_ ml) 0,.sl 1 Aa l] [] (.sl 1 Aa (Dd n fw from_ l)) []:=Ab Γ hm 100 F241 Tryz.ntmps241 rfl fun F hF=>by
 have q:=Tg l (fun p=>decide (p = from_) || !(usableB n fw p)) 289 [] [.ref 1 (.ref 12 (Jr n fw at_ from_ ml) 0) 0] rfl rfl (fun p h=>⟨⟨_,_,F289⟩,portsC n fw at_ from_ ml p (hp p h).1 (hp p h).2.1 (hp p h).2.2⟩) hl
 unfold Am at hl
 conv=>whnf
 refine B1 2 1 (.ref 12 (Jr n fw at_ from_ ml) 0) E E E ?_
 refine rg ?_;conv=>whnf
 refine Ai (Ah [(0,55)] E F95 (Yw l hl) E Y E ⟨.inr E,Y⟩) E E ?_
 refine rg ?_;conv=>whnf
 refine Ai (Ah [(0,55),(1,56)] E F291 q E ⟨E,Y⟩ E ⟨.inl E,.inr E,Y⟩) E E ?_
 refine rg ?_;conv=>whnf
 refine At 56 E ?_
 exact Ac E (.cons .tmp .nil) E E
theorem Aef (n:Net) (hn:n.Fin) (fw:List Bool) (dom from_:Int) (ml:List Int) (hd:Aj dom n.domains.length = true) :
  Sy.Spec Tryz.prog 242 [.ref 12 (Jr n fw dom from_ ml) 0] [] (.sl 1 Aa (peersOut n dom from_)) []:=Ab Γ hm 100 F242 Tryz.ntmps242 rfl fun F hF=>by
 have hdi:=Bh hd
 have hd0:0 ≤ dom:=hdi.1
 have hkd:dom.toNat < n.domains.length:=by omega
 have e2:nth n.domains dom = n.domains[dom.toNat]:=An hkd
 have hpe:=hn.peers _ (List.getElem_mem hkd)
 have hres:=peersOut.eq_1 n dom from_
 generalize peersOut n dom from_ = res at *
 rw [e2] at hres
 obtain ⟨d,hdd⟩:∃ d,n.domains[dom.toNat]'hkd = d:=⟨_,rfl⟩
 rw [hdd] at hres hpe
 have qc:=Jl d.peers hpe
 conv=>whnf
 refine ⟨fun h=>?_,fun h=>?_⟩
 ·rw [if_pos (by simpa using h)] at hres
  subst hres
  refine rg ?_;conv=>whnf
  refine Ao 2 1 Aa E ?_
  exact Ac E (.cons .tmp .nil) E E
 ·rw [if_neg (by simpa using h)] at hres
  subst hres
  refine rg ?_;conv=>whnf
  refine ⟨E,hd0,hkd,?_⟩
  rw [hdd]
  conv=>whnf
  refine Ay qc F95 E E E (by kernel_rfl) E ?_
  refine rd (by kernel_rfl) ?_;conv=>whnf
  refine ⟨(by kernel_rfl),?_⟩
  conv=>whnf
  exact Ac E (.cons .tmp .nil) E E
def K9 (n:Net) (fw:List Bool) (dom:Int):Bool:=Aj dom n.domains.length && decide (fw.length = n.links.length) && Af n
theorem Aeb (n:Net) (hn:n.Fin) (fw:List Bool) (dom from_:Int) (h:K9 n fw dom = false) :
  Sy.Spec Tryz.prog 240 [Aq n,.sl 1 Ad fw,Aa dom,Aa from_] [] (.tup [.val (.pointer none),Ad false]) []:=Ab Γ hm 100 F240 Tryz.ntmps240 rfl fun F hF=>by
 have qr:=Bm n hn
 conv=>whnf
 refine ⟨fun h1=>?_,fun h1=>?_⟩
 ·(refine rg ?_;(conv=>whnf);refine aT ?_;refine rg ?_;(conv=>whnf);refine aT ?_;refine rg ?_;(conv=>whnf);refine aT ?_;refine rg ?_;conv=>whnf)
  exact Ac E (.cons .tmp (.cons .tmp .nil)) E E
 refine rg ?_;conv=>whnf
 refine ⟨fun h2=>?_,fun h2=>?_⟩
 ·(refine rg ?_;(conv=>whnf);refine aT ?_;refine rg ?_;(conv=>whnf);refine aT ?_;refine rg ?_;conv=>whnf)
  exact Ac E (.cons .tmp (.cons .tmp .nil)) E E
 refine rg ?_;conv=>whnf
 refine ⟨fun h3=>?_,fun h3=>?_⟩
 ·(refine rg ?_;(conv=>whnf);refine aT ?_;refine rg ?_;conv=>whnf)
  exact Ac E (.cons .tmp (.cons .tmp .nil)) E E
 refine rg ?_;conv=>whnf
 refine Ag qr F67 E E E E E ?_
 cases hbn:Af n
 ·(refine rg ?_;(conv=>whnf);refine aT ?_;refine rg ?_;conv=>whnf)
  exact Ac E (.cons .tmp (.cons .tmp .nil)) E E
 ·exfalso
  have h4:Aj dom n.domains.length = true:=Cb ⟨by simp at h1; omega,by simp at h2; omega⟩
  have h5:fw.length = n.links.length:=by simp at h3; omega
  simp [K9,h4,h5,hbn] at h
theorem Ah5 (n:Net) (hn:n.Fin) (fw:List Bool) (dom from_:Int) (h:K9 n fw dom = true) :
  Sy.Spec Tryz.prog 240 [Aq n,.sl 1 Ad fw,Aa dom,Aa from_] [] (.tup [.ref 12 (Jr n fw dom from_ (Ax n dom)) 0,Ad (decide (from_ = -1) || decide (from_ = -2) || inB (Ax n dom) from_)]) []:=Ab Γ hm 100 F240 Tryz.ntmps240 rfl fun F hF=>by
 have qr:=Bm n hn
 simp only [K9,Bool.and_eq_true,decide_eq_true_eq] at h
 obtain ⟨⟨hd,hfw⟩,hbn⟩:=h
 rw [hbn] at qr
 have hdi:=Bh hd
 have qm:=Vv n hn dom
 have qc:=C5 (Eu n dom) from_ (Um n hn dom)
 have hmt:Eu n dom = Ax n dom:=by rw [Eu,if_pos ⟨⟨hdi.1,hdi.2⟩,hbn⟩]
 rw [hmt] at qm qc
 generalize Ax n dom = ml at *
 conv=>whnf
 refine ⟨fun h1=>absurd h1 (by simp; omega),fun _=>?_⟩
 refine rg ?_;conv=>whnf
 refine ⟨fun h1=>absurd h1 (by simp; omega),fun _=>?_⟩
 refine rg ?_;conv=>whnf
 refine ⟨fun h1=>absurd h1 (by simp; omega),fun _=>?_⟩
 refine rg ?_;conv=>whnf
 refine Ag qr F67 E E E E E ?_
 (refine rg ?_;(conv=>whnf);refine aF ?_;refine rg ?_;conv=>whnf)
 refine Ay qm F288 E E E (by kernel_rfl) E ?_
 refine rd (by kernel_rfl) ?_;conv=>whnf
 refine ⟨(by kernel_rfl),?_⟩
 conv=>whnf
 refine ⟨fun h1=>?_,fun h1=>?_⟩
 ·have h2:from_ = -1:=by simpa using h1
  refine B1 41 12 (Jr n fw dom from_ ml) E E E ?_
  (refine rg ?_;(conv=>whnf);refine aT ?_;refine rg ?_;conv=>whnf)
  exact Ac E (.cons .tmp (.cons .tmp .nil)) (congrArg (fun z=>SV.tup [_,Ad z]) (by simp [h2])) E
 have h2:¬ from_ = -1:=by simpa using h1
 refine B1 41 12 (Jr n fw dom from_ ml) E E E ?_
 refine rg ?_;conv=>whnf
 refine ⟨fun h3=>?_,fun h3=>?_⟩
 ·have h4:from_ = -2:=by simpa using h3
  refine rg ?_;conv=>whnf
  exact Ac E (.cons .tmp (.cons .tmp .nil)) (congrArg (fun z=>SV.tup [_,Ad z]) (by simp [h4])) E
 have h4:¬ from_ = -2:=by simpa using h3
 refine rg ?_;conv=>whnf
 refine Ag qc F86 E E E E E ?_
 refine rg ?_;conv=>whnf
 exact Ac E (.cons .tmp (.cons .tmp .nil)) (congrArg (fun z=>SV.tup [_,Ad z]) (by simp [h2,h4])) E
theorem X1 {n:Net} (hb:Af n = true) {p:Int} (h0:0 ≤ p) (hp:p < n.ports.length):(nth n.ports p).link < n.links.length:=by
 have hk:p.toNat < n.ports.length:=by omega
 have e1:nth n.ports p = n.ports[p.toNat]:=An hk
 rw [e1]
 by_cases hl:0 ≤ n.ports[p.toNat].link
 ·have:=K5 hb hk hl
  omega
 ·omega
theorem Ui {n:Net} {fw:List Bool} (hb:Af n = true) (hf:fw.length = n.links.length) {l:List Int} (h:∀ p ∈ l,0 ≤ p ∧ p < n.ports.length):Ae0 n fw l:=fun p hp =>
 ⟨(h p hp).1,(h p hp).2,by rw [hf]; exact X1 hb (h p hp).1 (h p hp).2⟩
theorem Dj {n:Net} {dom:Int}:∀ p ∈ Ax n dom,0 ≤ p ∧ p < n.ports.length:=fun p hp=>by
 rw [Ax,Q3] at hp
 exact ⟨hp.1,hp.2.1⟩
theorem Iy {n:Net} (hn:n.Fin) (dom:Int):Am (Ax n dom):=by
 have h1:=Dy (Me n (nth n.domains dom)) n.ports.length
 have h2:=hn.ports
 unfold Am at *
 rw [Ax]
 omega
theorem Ko (n:Net) (fw:List Bool) (dom from_:Int):Kc n fw dom from_ = (K9 n fw dom && (decide (from_ = -1) || decide (from_ = -2) || inB (Ax n dom) from_)):=rfl
theorem floodS (n:Net) (hn:n.Fin) (fw:List Bool) (dom from_:Int) :
  Sy.Spec Tryz.prog 171 [Aq n,.sl 1 Ad fw,Aa dom,Aa from_] [] (.tup [.sl 1 Aa (floodT n fw dom from_).1,.sl 1 Aa (floodT n fw dom from_).2.1,Aa (floodT n fw dom from_).2.2]) []:=Ab Γ hm 100 F171 Tryz.ntmps171 rfl fun F hF=>by
 have hres:=floodT.eq_1 n fw dom from_
 generalize floodT n fw dom from_ = res at *
 rw [Ko] at hres
 cases hbase:K9 n fw dom
 ·rw [hbase,Bool.false_and,if_pos rfl] at hres
  subst hres
  have q:=Aeb n hn fw dom from_ hbase
  conv=>whnf
  refine Ag q F240 E E E E E ?_
  (refine rg ?_;(conv=>whnf);refine aT ?_;refine rg ?_;conv=>whnf)
  refine Ao 8 1 Aa E ?_
  refine Ao 9 1 Aa E ?_
  exact Ac E (.cons .tmp (.cons .tmp (.cons .tmp .nil))) E E
 rw [hbase,Bool.true_and] at hres
 have q:=Ah5 n hn fw dom from_ hbase
 have hb2:=hbase
 simp only [K9,Bool.and_eq_true,decide_eq_true_eq] at hb2
 obtain ⟨⟨hd,hfw⟩,hbn⟩:=hb2
 have qp:=Ace n fw dom from_ (Ax n dom) (Ax n dom) (Iy hn dom) (Ui hbn hfw Dj)
 have qe:=Aef n hn fw dom from_ (Ax n dom) hd
 generalize (decide (from_ = -1) || decide (from_ = -2) || inB (Ax n dom) from_) = ok at *
 generalize Ax n dom = ml at *
 conv=>whnf
 refine Ag q F240 E E E E E ?_
 cases ok
 ·rw [if_pos rfl] at hres
  subst hres
  (refine rg ?_;(conv=>whnf);refine aT ?_;refine rg ?_;conv=>whnf)
  refine Ao 8 1 Aa E ?_
  refine Ao 9 1 Aa E ?_
  exact Ac E (.cons .tmp (.cons .tmp (.cons .tmp .nil))) E E
 rw [if_neg (by decide)] at hres
 subst hres
 (refine rg ?_;(conv=>whnf);refine aF ?_;refine rg ?_;conv=>whnf)
 refine Ag qp F241 E E E E E ?_
 refine rg ?_;conv=>whnf
 refine Ag qe F242 E E E E E ?_
 refine rg ?_;conv=>whnf
 exact Ac E (.cons .tmp (.cons .tmp (.cons .tmp .nil))) E E
theorem Ox (l:List Static) (p:Static → Bool) (f:FuncId) (first cap:List SV) (hc:(SV.clo (.func f) first cap).inn [] = true) (hf:∀ x ∈ l,Hm Tryz.prog f (first ++ [Bg x] ++ cap) (Ad (p x))) (hl:Am l) :
  Sy.Spec Tryz.prog 346 [.sl 4 Bg l,.clo (.func f) first cap] [] (Aa (Dl p l)) []:=Ab Γ hm 100 F346 Tryz.ntmps346 rfl fun F hF=>by
 unfold Am at hl
 have hin:∀ x:Static,B3 [] (first ++ [Bg x] ++ cap) = true:=fun x=>Co hc rfl
 conv=>whnf
 refine Bc l.length (fun j=>Ep (fun _ x=>!(p x)) l j) (fun j=>[(0,.sl 4 Bg l),(1,.clo (.func f) first cap),(7,Aa l.length),(8,Aa j)]) (fun _=>[]) [] (Bf _ _) ⟨⟨E,E,A2 _,hc,E,E,E,E,Y⟩,Y,E,E⟩ ?_
 intro j hj hI
 refine rg ?_;conv=>whnf
 refine ⟨fun h=>?_,fun h=>?_⟩
 ·have h:=of_decide_eq_true h
  have hj2:j < l.length:=by omega
  refine rg ?_;conv=>whnf
  refine ⟨E,by omega,by omega,?_⟩
  conv=>whnf
  refine Du (hf l[j] (List.getElem_mem hj2)) E E E (by simp only [hin]; rfl) E E ?_
  refine rg ?_;conv=>whnf
  refine ⟨fun h2=>?_,fun h2=>?_⟩
  ·refine rg ?_;conv=>whnf
   refine Ac E (.cons .tmp .nil) (congrArg Aa ?_) E
   exact Ef hj2 (fun i hi hij=>by simpa using hI i hi hij) h2
  ·refine rg ?_;conv=>whnf
   refine ⟨by unfold I64; omega,?_⟩
   conv=>whnf
   exact Ba [] hI hj2 (Bb hI hj2 (by simp [h2])) ⟨⟨E,E,A2 _,hc,E,E,E,E,Y⟩,Y,E,E⟩
 ·have h:=of_decide_eq_false h
  refine rg ?_;conv=>whnf
  refine Ac E (.cons .tmp .nil) (congrArg Aa ?_) E
  exact E3 (fun i hi=>by simpa using hI i hi (by omega))
theorem entryC (dom:Int) (m:Nat) (s:Static):Sy.Spec Tryz.prog 347 [Bg s,.ref 1 (Aa dom) 0,.ref 1 (A7 m) 0] [] (Ad (decide (s.domain = dom) && decide (s.mac = (m:Int)))) []:=Ab Γ hm 100 F347 Tryz.ntmps347 rfl fun F hF=>by
 conv=>whnf
 refine ⟨fun h=>?_,fun h=>?_⟩
 ·refine rg ?_;conv=>whnf
  refine Ac E (.cons .tmp .nil) (congrArg Ad ?_) E
  have h1:s.domain = dom:=by simpa using h
  rw [decide_eq_true h1,Bool.true_and,Bool.eq_iff_iff]
  simp
 ·refine rg ?_;conv=>whnf
  refine Ac E (.cons .tmp .nil) (congrArg Ad ?_) E
  have h1:¬ s.domain = dom:=by simpa using h
  rw [decide_eq_false h1,Bool.false_and]
theorem entryI (n:Net) (hn:n.Fin) (dom:Int) (m:Nat):Sy.Spec Tryz.prog 333 [Aq n,Aa dom,A7 m] [] (Aa (C0 n dom m)) []:=Ab Γ hm 100 F333 Tryz.ntmps333 rfl fun F hF=>by
 have q:=Ox n.statics (fun s:Static=>decide (s.domain = dom) && decide (s.mac = (m:Int))) 347 [] [.ref 1 (Aa dom) 0,.ref 1 (A7 m) 0] rfl (fun x _=>⟨⟨_,_,F347⟩,entryC dom m x⟩) hn.statics
 conv=>whnf
 refine B1 4 1 (Aa dom) E E E ?_
 refine B1 5 1 (A7 m) E E E ?_
 refine rg ?_;conv=>whnf
 refine Ag q F346 E E E E E ?_
 refine rg ?_;conv=>whnf
 exact Ac E (.cons .tmp .nil) E E
def staticP (n:Net) (dom:Int) (m:Nat):Int:=if 0 ≤ C0 n dom m then (nth n.statics (C0 n dom m)).port else -1
theorem Adq (n:Net) (hn:n.Fin) (hb:Af n = true) (dom:Int) (m:Nat):Sy.Spec Tryz.prog 306 [Aq n,Aa dom,A7 m] [] (Aa (staticP n dom m)) []:=Ab Γ hm 100 F306 Tryz.ntmps306 rfl fun F hF=>by
 have q:=entryI n hn dom m
 have qr:=Bm n hn
 rw [hb] at qr
 have hlt:C0 n dom m < n.statics.length:=Hb _ _
 have hres:=staticP.eq_1 n dom m
 generalize staticP n dom m = res at *
 generalize C0 n dom m = i at *
 conv=>whnf
 refine Ag q F333 E E E E E ?_
 refine rg ?_;conv=>whnf
 refine ⟨fun h=>?_,fun h=>?_⟩
 ·rw [if_neg (by simp at h; omega)] at hres
  subst hres
  (refine rg ?_;(conv=>whnf);refine aT ?_;refine rg ?_;conv=>whnf)
  exact Ac E (.cons .tmp .nil) E E
 ·have h0:0 ≤ i:=by simp at h; omega
  have hk:i.toNat < n.statics.length:=by omega
  have e1:nth n.statics i = n.statics[i.toNat]:=An hk
  rw [if_pos h0,e1] at hres
  refine rg ?_;conv=>whnf
  refine Ag qr F67 E E E E E ?_
  (refine rg ?_;(conv=>whnf);refine aF ?_;refine rg ?_;conv=>whnf)
  refine ⟨E,h0,hk,?_⟩
  conv=>whnf
  exact Ac E (.cons .tmp .nil) (congrArg Aa hres) E
def knownT (n:Net) (fw:List Bool) (t:List EntryM) (dom from_:Int) (m:Nat):List Int × List Int × Bool :=
 if 0 ≤ staticP n dom m then (Dd n fw from_ [staticP n dom m],[],true)
 else if (findE t m).2 = false then ([],[],false)
 else if 0 ≤ (findE t m).1 ∧ inB (Ax n dom) (findE t m).1 = true then (Dd n fw from_ [(findE t m).1],[],true)
 else if (findE t m).1 < 0 ∧ inB (nth n.domains dom).peers (-1 - (findE t m).1) = true then (if from_ = -1 then ([],[],true) else ([],[-1 - (findE t m).1],true))
 else ([],[],false)
theorem Sb {n:Net} (hb:Af n = true) (dom:Int) (m:Nat) (h:0 ≤ staticP n dom m):staticP n dom m < n.ports.length:=by
 unfold staticP at h ⊢
 split at h
 ·rename_i h0
  rw [if_pos h0]
  have hlt:C0 n dom m < n.statics.length:=Hb _ _
  have hk:(C0 n dom m).toNat < n.statics.length:=by omega
  simp only [Af,Bool.and_eq_true] at hb
  have:=allB_iff.1 hb.1.1.1.2 _ hk
  simp only [Lh,Bool.and_eq_true,Aj,decide_eq_true_eq] at this
  rw [An hk]
  exact this.1.1.2.2
 ·omega
theorem knownS (n:Net) (hn:n.Fin) (fw:List Bool) (t:List EntryM) (dom from_:Int) (m:Nat) (hl:Am t) (hw:I64 (-1 - (findE t m).1)) (hbase:K9 n fw dom = true) :
  Sy.Spec Tryz.prog 249 [.ref 12 (Jr n fw dom from_ (Ax n dom)) 0,.sl 3 As t,A7 m] [] (.tup [.sl 1 Aa (knownT n fw t dom from_ m).1,.sl 1 Aa (knownT n fw t dom from_ m).2.1,Ad (knownT n fw t dom from_ m).2.2]) []:=Ab Γ hm 100 F249 Tryz.ntmps249 rfl fun F hF=>by
 simp only [K9,Bool.and_eq_true,decide_eq_true_eq] at hbase
 obtain ⟨⟨hd,hfw⟩,hbn⟩:=hbase
 have hdi:=Bh hd
 have hd0:0 ≤ dom:=hdi.1
 have hkd:dom.toNat < n.domains.length:=by omega
 have e2:nth n.domains dom = n.domains[dom.toNat]:=An hkd
 have hpe:=hn.peers _ (List.getElem_mem hkd)
 have hres:=knownT.eq_1 n fw t dom from_ m
 have qs:=Adq n hn hbn dom m
 have hsp:=Sb hbn dom m
 have qf:=Aho t m hl
 have qp:∀ p:Int,0 ≤ p → p < n.ports.length → _:=fun p h0 h1=>Ace n fw dom from_ (Ax n dom) [p] (by unfold Am; simp) (Ui hbn hfw (l:=[p]) (fun x hx=>by rw [List.mem_singleton] at hx; subst hx; exact ⟨h0,h1⟩))
 have hmem:∀ p,inB (Ax n dom) p = true → 0 ≤ p ∧ p < n.ports.length:=fun p hp=>Dj p (inB_mem.1 hp)
 have qc:=fun x=>C5 (Ax n dom) x (Iy hn dom)
 rw [e2] at hres
 obtain ⟨d,hdd⟩:∃ d,n.domains[dom.toNat]'hkd = d:=⟨_,rfl⟩
 rw [hdd] at hres hpe
 have qc2:=fun x=>C5 d.peers x hpe
 generalize knownT n fw t dom from_ m = res at *
 generalize staticP n dom m = sp at *
 generalize findE t m = fe at *
 obtain ⟨w,ok⟩:=fe
 dsimp only at hres hw qf
 generalize Ax n dom = ml at *
 conv=>whnf
 refine Ay qs F306 E E E (by kernel_rfl) E ?_
 refine rd (by kernel_rfl) ?_;conv=>whnf
 refine ⟨(by kernel_rfl),?_⟩
 conv=>whnf
 refine ⟨fun h1=>?_,fun h1=>?_⟩
 ·have h2:0 ≤ sp:=by simpa using h1
  rw [if_pos h2] at hres
  subst hres
  refine rg ?_;conv=>whnf
  refine Ei 25 Aa [sp] E E ?_
  refine At 25 E ?_
  refine Ag (qp sp h2 (hsp h2)) F241 E E E E E ?_
  refine rg ?_;conv=>whnf
  refine Ao 7 1 Aa E ?_
  exact Ac E (.cons .tmp (.cons .tmp (.cons .tmp .nil))) E E
 have h2:¬ 0 ≤ sp:=by simp at h1; omega
 rw [if_neg h2] at hres
 refine rg ?_;conv=>whnf
 refine Ag qf F307 E E E E E ?_
 cases ok
 ·rw [if_pos rfl] at hres
  subst hres
  (refine rg ?_;(conv=>whnf);refine aT ?_;refine rg ?_;conv=>whnf)
  refine Ao 6 1 Aa E ?_
  refine Ao 7 1 Aa E ?_
  exact Ac E (.cons .tmp (.cons .tmp (.cons .tmp .nil))) E E
 rw [if_neg (by decide)] at hres
 (refine rg ?_;(conv=>whnf);refine aF ?_;refine rg ?_;conv=>whnf)
 refine ⟨fun h3=>?_,fun h3=>?_⟩
 ·have h4:0 ≤ w:=by simpa using h3
  refine rg ?_;conv=>whnf
  refine Ag (qc w) F86 E E E E E ?_
  cases hin:inB ml w
  ·rw [if_neg (by simp [hin]),if_neg (by omega)] at hres
   subst hres
   (refine rg ?_;(conv=>whnf);refine aF ?_;refine rg ?_;conv=>whnf)
   refine ⟨fun h5=>absurd h5 (by simp; omega),fun _=>?_⟩
   refine rd (by kernel_rfl) ?_;conv=>whnf
   refine ⟨(by kernel_rfl),?_⟩
   ((conv=>whnf);refine aF ?_;refine rg ?_;conv=>whnf)
   refine Ao 6 1 Aa E ?_
   refine Ao 7 1 Aa E ?_
   exact Ac E (.cons .tmp (.cons .tmp (.cons .tmp .nil))) E E
  ·rw [if_pos ⟨h4,hin⟩] at hres
   subst hres
   (refine rg ?_;(conv=>whnf);refine aT ?_;refine rg ?_;conv=>whnf)
   refine Ei 49 Aa [w] E E ?_
   refine At 49 E ?_
   refine Ag (qp w h4 (hmem w hin).2) F241 E E E E E ?_
   refine rg ?_;conv=>whnf
   refine Ao 7 1 Aa E ?_
   exact Ac E (.cons .tmp (.cons .tmp (.cons .tmp .nil))) E E
 have h4:¬ 0 ≤ w:=by simp at h3; omega
 rw [if_neg (by omega)] at hres
 (refine rg ?_;(conv=>whnf);refine aF ?_;refine rg ?_;conv=>whnf)
 refine ⟨fun h5=>?_,fun h5=>absurd h5 (by simp; omega)⟩
 refine rd (by kernel_rfl) ?_;conv=>whnf
 refine ⟨E,hd0,hkd,?_⟩
 rw [hdd]
 conv=>whnf
 refine ⟨hw,?_⟩
 conv=>whnf
 refine Ay (qc2 (-1 - w)) F86 E E E (by kernel_rfl) E ?_
 cases hin:inB d.peers (-1 - w)
 ·rw [if_neg (by simp [hin])] at hres
  subst hres
  refine rd (by kernel_rfl) ?_;conv=>whnf
  refine ⟨(by kernel_rfl),?_⟩
  ((conv=>whnf);refine aF ?_;refine rg ?_;conv=>whnf)
  refine Ao 6 1 Aa E ?_
  refine Ao 7 1 Aa E ?_
  exact Ac E (.cons .tmp (.cons .tmp (.cons .tmp .nil))) E E
 rw [if_pos ⟨by omega,hin⟩] at hres
 refine rd (by kernel_rfl) ?_;conv=>whnf
 refine ⟨(by kernel_rfl),?_⟩
 ((conv=>whnf);refine aT ?_;refine rg ?_;conv=>whnf)
 refine ⟨fun h6=>?_,fun h6=>?_⟩
 ·rw [if_pos (by simpa using h6)] at hres
  subst hres
  refine rg ?_;conv=>whnf
  refine Ao 6 1 Aa E ?_
  refine Ao 7 1 Aa E ?_
  exact Ac E (.cons .tmp (.cons .tmp (.cons .tmp .nil))) E E
 ·rw [if_neg (by simpa using h6)] at hres
  subst hres
  refine rg ?_;conv=>whnf
  refine ⟨hw,?_⟩
  conv=>whnf
  refine Ao 6 1 Aa E ?_
  refine Ei 78 Aa [-1 - w] E E ?_
  refine At 78 E ?_
  exact Ac E (.cons .tmp (.cons .tmp (.cons .tmp .nil))) E E
theorem M8 {n:Net} (hb:Af n = true) (dom:Int) (m:Nat):(0 ≤ staticP n dom m ↔ 0 ≤ C0 n dom m) ∧ (0 ≤ C0 n dom m → staticP n dom m = (nth n.statics (C0 n dom m)).port):=by
 refine ⟨⟨fun h=>?_,fun h=>?_⟩,fun h=>by rw [staticP,if_pos h]⟩
 ·unfold staticP at h
  split at h
  ·assumption
  ·omega
 ·rw [staticP,if_pos h]
  have hlt:C0 n dom m < n.statics.length:=Hb _ _
  have hk:(C0 n dom m).toNat < n.statics.length:=by omega
  simp only [Af,Bool.and_eq_true] at hb
  have:=allB_iff.1 hb.1.1.1.2 _ hk
  simp only [Lh,Bool.and_eq_true,Aj,decide_eq_true_eq] at this
  rw [An hk]
  exact this.1.1.2.1
theorem Alt {n:Net} {fw:List Bool} {t:List EntryM} {dom from_:Int} {m:Nat} (hb:Af n = true) (hr:Kc n fw dom from_ = true) (hg:E4 m = false) :
  Cc n fw t dom from_ m = if (knownT n fw t dom from_ m).2.2 = true then ((knownT n fw t dom from_ m).1,(knownT n fw t dom from_ m).2.1,0) else (Dd n fw from_ (Ax n dom),peersOut n dom from_,0):=by
 obtain ⟨h1,h2⟩:=M8 hb dom m
 rw [Cc,if_neg (by rw [hr]; decide),if_neg (by rw [hg]; decide)]
 unfold knownT
 by_cases hs:0 ≤ C0 n dom m
 ·rw [if_pos hs,if_pos (h1.2 hs),h2 hs]; rfl
 rw [if_neg hs,if_neg (fun h=>hs (h1.1 h))]
 generalize findE t m = fe
 obtain ⟨w,ok⟩:=fe
 cases ok
 ·simp
 simp only [Bool.true_eq_false,if_false,true_and]
 by_cases ha:0 ≤ w ∧ inB (Ax n dom) w = true
 ·rw [if_pos ha,if_pos ha]; rfl
 rw [if_neg ha,if_neg ha]
 by_cases hc:w < 0 ∧ inB (nth n.domains dom).peers (-1 - w) = true
 ·rw [if_pos hc,if_pos hc]
  split <;> rfl
 ·rw [if_neg hc,if_neg hc]; rfl
theorem Alu (n:Net) (hn:n.Fin) (fw:List Bool) (t:List EntryM) (dom from_:Int) (m:Nat) (hl:Am t) (hw:I64 (-1 - (findE t m).1)) (hm64:m < 18446744073709551616) :
  Sy.Spec Tryz.prog 176 [Aq n,.sl 1 Ad fw,.sl 3 As t,Aa dom,Aa from_,A7 m] [] (.tup [.sl 1 Aa (Cc n fw t dom from_ m).1,.sl 1 Aa (Cc n fw t dom from_ m).2.1,Aa (Cc n fw t dom from_ m).2.2]) []:=Ab Γ hm 100 F176 Tryz.ntmps176 rfl fun F hF=>by
 cases hbase:K9 n fw dom
 ·have hres:Cc n fw t dom from_ m = ([],[],2):=by
   rw [Cc,if_pos (by rw [Ko,hbase]; rfl)]
  rw [hres]
  have q:=Aeb n hn fw dom from_ hbase
  conv=>whnf
  refine Ag q F240 E E E E E ?_
  (refine rg ?_;(conv=>whnf);refine aT ?_;refine rg ?_;conv=>whnf)
  refine Ao 12 1 Aa E ?_
  refine Ao 13 1 Aa E ?_
  exact Ac E (.cons .tmp (.cons .tmp (.cons .tmp .nil))) E E
 have q:=Ah5 n hn fw dom from_ hbase
 have qk:=knownS n hn fw t dom from_ m hl hw hbase
 have qg:=Jc m hm64
 have hb2:=hbase
 simp only [K9,Bool.and_eq_true,decide_eq_true_eq] at hb2
 obtain ⟨⟨hd,hfw⟩,hbn⟩:=hb2
 have qp:=Ace n fw dom from_ (Ax n dom) (Ax n dom) (Iy hn dom) (Ui hbn hfw Dj)
 have qe:=Aef n hn fw dom from_ (Ax n dom) hd
 have hroom:=Ko n fw dom from_
 rw [hbase,Bool.true_and] at hroom
 have hbad:Kc n fw dom from_ = false → Cc n fw t dom from_ m = ([],[],2):=fun h=>by rw [Cc,if_pos h]
 have hgrp:Kc n fw dom from_ = true → E4 m = true → Cc n fw t dom from_ m = (Dd n fw from_ (Ax n dom),peersOut n dom from_,0):=fun h h2=>by
  rw [Cc,if_neg (by rw [h]; decide),if_pos h2]
 have hkn:=fun h h2=>@Alt n fw t dom from_ m hbn h h2
 generalize Cc n fw t dom from_ m = res at *
 generalize knownT n fw t dom from_ m = kn at *
 obtain ⟨kp,ke,ko⟩:=kn
 generalize Kc n fw dom from_ = rm at *
 generalize (decide (from_ = -1) || decide (from_ = -2) || inB (Ax n dom) from_) = ok at *
 subst hroom
 generalize Ax n dom = ml at *
 dsimp only at hkn qk
 conv=>whnf
 refine Ag q F240 E E E E E ?_
 cases rm
 ·rw [hbad rfl]
  (refine rg ?_;(conv=>whnf);refine aT ?_;refine rg ?_;conv=>whnf)
  refine Ao 12 1 Aa E ?_
  refine Ao 13 1 Aa E ?_
  exact Ac E (.cons .tmp (.cons .tmp (.cons .tmp .nil))) E E
 (refine rg ?_;(conv=>whnf);refine aF ?_;refine rg ?_;conv=>whnf)
 refine Ag qg F162 E E E E E ?_
 cases hg:E4 m
 ·have hkn:=hkn rfl hg
  (refine rg ?_;(conv=>whnf);refine aT ?_;refine rg ?_;conv=>whnf)
  refine Ag qk F249 E E E E E ?_
  cases ko
  ·rw [if_neg (by decide)] at hkn
   subst hkn
   (refine rg ?_;(conv=>whnf);refine aF ?_;refine rg ?_;conv=>whnf)
   refine Ag qp F241 E E E E E ?_
   refine rg ?_;conv=>whnf
   refine Ag qe F242 E E E E E ?_
   refine rg ?_;conv=>whnf
   exact Ac E (.cons .tmp (.cons .tmp (.cons .tmp .nil))) E E
  ·rw [if_pos rfl] at hkn
   subst hkn
   (refine rg ?_;(conv=>whnf);refine aT ?_;refine rg ?_;conv=>whnf)
   exact Ac E (.cons .tmp (.cons .tmp (.cons .tmp .nil))) E E
 ·rw [hgrp rfl hg]
  (refine rg ?_;(conv=>whnf);refine aF ?_;refine rg ?_;conv=>whnf)
  refine Ag qp F241 E E E E E ?_
  refine rg ?_;conv=>whnf
  refine Ag qe F242 E E E E E ?_
  refine rg ?_;conv=>whnf
  exact Ac E (.cons .tmp (.cons .tmp (.cons .tmp .nil))) E E
theorem Y0 (t:List EntryM) (q:QueuedM) (now:Int) (ht:TabOK t) (hq:QueuedOK q):Sy.Spec Tryz.prog 172 [.sl 3 As t,A4 q,Aa now] [] (.sl 3 As (learnQ t q now)) []:=Ab Γ hm 100 F172 Tryz.ntmps172 rfl fun F hF=>by
 have hres:=learnQ.eq_1 t q now
 generalize learnQ t q now = res at *
 have hl:=ht.short
 have hl2:=hl
 unfold Am at hl2
 have hs:=hq.frame.src
 have h1:=hq.peer
 conv=>whnf
 refine ⟨fun h=>?_,fun h=>?_⟩
 ·rw [if_pos (by simpa using h)] at hres
  subst hres
  refine rg ?_;conv=>whnf
  refine Ai (Ah [(0,55)] E F48 (K7 res hl2) E Y E ⟨.inr E,Y⟩) E E ?_
  refine At 55 E ?_
  refine rg ?_;conv=>whnf
  exact Ac E (.cons .tmp .nil) E E
 rw [if_neg (by simpa using h)] at hres
 clear h
 refine rg ?_;conv=>whnf
 refine ⟨fun h=>?_,fun h=>?_⟩
 ·rw [if_pos (by simpa using h)] at hres
  subst hres
  refine rg ?_;conv=>whnf
  refine ⟨by unfold I64; omega,?_⟩
  conv=>whnf
  refine Ag (We t q.frame.src (-1 - q.peer) now hl ht.mac (by omega)) F243 E E E E E ?_
  refine rg ?_;conv=>whnf
  exact Ac E (.cons .tmp .nil) E E
 rw [if_neg (by simpa using h)] at hres
 subst hres
 refine rg ?_;conv=>whnf
 refine Ag (We t q.frame.src q.from_ now hl ht.mac (by omega)) F243 E E E E E ?_
 refine rg ?_;conv=>whnf
 exact Ac E (.cons .tmp .nil) E E
def Afx (k p d:Int):OutM:=⟨k,p,d,[],noF,0⟩
theorem Ale (k p d:Int) (b:List UInt8) (e:Int):Ot (Afx k p d) (b,e) = if e ≠ 0 then ⟨5,p,d,[],noF,e⟩ else ⟨k,p,d,b,noF,0⟩:=rfl
theorem M2 (l:List OutM) (k p d:Int) (b:List UInt8) (e:Int) (hl:l.length < 100000000000) :
  Sy.Spec Tryz.prog 175 [De (Afx k p d),.sl 1 Al b,Aa e,.ptr 0 0] [(0,.box [.osl 1]),(1,.row 9 De l)] (.tup []) [(0,.box [.osl 2]),(1,.non),(2,.row 9 De (l ++ [Ot (Afx k p d) (b,e)]))]:=Ab Γ hm 100 F175 Tryz.ntmps175 rfl fun F hF=>by
 have hres:=Ale k p d b e
 generalize Ot (Afx k p d) (b,e) = res at *
 conv=>whnf
 refine ⟨fun h=>?_,fun h=>?_⟩
 ·rw [if_pos (by simpa using h)] at hres
  refine rg ?_;conv=>whnf
  refine Q7 17 [De ⟨5,p,d,[],noF,e⟩] E (.cons (.agg (.cons (.refl _) (.cons (.refl _) (.cons (.refl _) (.cons .nil (.cons (.refl _) (.cons (.refl _) (.cons (.refl _) (.cons (.refl _) (.cons (.refl _) .nil)))))))))) .nil) E ?_
  refine Ai (Ak Γ.toTy 18 E E E E E (.row E) (.lit (e:=De) (l:=[res]) E (by rw [hres]; rfl)) (by decide) (by simp; omega) (by simp; omega)) E E ?_
  refine rg ?_;conv=>whnf
  exact Bi E .nil [(2,18)] [(0,.box [.osl 2]),(1,.non),(2,.row 9 De (l ++ [res]))] (fun _ h=>h) E E ⟨Y,⟨.inl E,E,.inl E,E,.inl E,E,Y⟩,E,E⟩
 ·rw [if_neg (by simpa using h)] at hres
  refine rg ?_;conv=>whnf
  refine Ai (Ak Γ.toTy 18 E E E E E (.row E) (.lit (e:=De) (l:=[res]) E (by rw [hres]; rfl)) (by decide) (by simp; omega) (by simp; omega)) E E ?_
  refine rg ?_;conv=>whnf
  exact Bi E .nil [(2,18)] [(0,.box [.osl 2]),(1,.non),(2,.row 9 De (l ++ [res]))] (fun _ h=>h) E E ⟨Y,⟨.inl E,E,.inl E,E,.inl E,E,Y⟩,E,E⟩
theorem Alo {t:List EntryM} (ht:TabOK t) (m:Nat):I64 (findE t m).1:=by
 unfold findE
 split
 ·unfold I64; dsimp only; omega
 ·rename_i h
  have hlt:Ds t m < t.length:=Hb _ _
  have hk:(Ds t m).toNat < t.length:=by omega
  dsimp only
  rw [List.getElem?_eq_getElem hk]
  exact ht.wh _ (List.getElem_mem hk)
theorem Hx {n:Net} {fw:List Bool} {fr:Int} {l:List Int} {p:Int} (h:p ∈ Dd n fw fr l):p ∈ l:=(List.mem_filter.1 h).1
theorem Yt {n:Net} (hb:Af n = true) (fw:List Bool) (t:List EntryM) (dom fr:Int) (m:Nat):∀ p ∈ (Cc n fw t dom fr m).1,0 ≤ p ∧ p < n.ports.length:=by
 intro p hp
 unfold Cc at hp
 split at hp
 ·cases hp
 split at hp
 ·exact Dj p (Hx hp)
 split at hp
 ·rename_i h1
  obtain ⟨hs1,hs2⟩:=M8 hb dom m
  have h2:=hs1.2 h1
  have h3:=Sb hb dom m h2
  have h4:=List.mem_singleton.1 (Hx hp)
  rw [h4,← hs2 h1]
  exact ⟨h2,h3⟩
 split at hp
 ·rename_i h1
  rw [List.mem_singleton.1 (Hx hp)]
  exact Dj _ (inB_mem.1 h1.2.2)
 split at hp
 ·cases hp
 ·exact Dj p (Hx hp)
theorem X0 (n:Net) (fw:List Bool) (fr:Int) (l:List Int):(Dd n fw fr l).length ≤ l.length:=List.length_filter_le _ _
theorem X2 {n:Net} (hn:n.Fin) (dom fr:Int) (hd:Aj dom n.domains.length = true):(peersOut n dom fr).length < 2147483648:=by
 unfold peersOut
 split
 ·decide
 ·have h:=H9 hd
  rw [An h.2]
  exact hn.peers _ (List.getElem_mem h.2)
theorem Vf {n:Net} (hn:n.Fin) (fw:List Bool) (t:List EntryM) (dom fr:Int) (m:Nat):(Cc n fw t dom fr m).1.length < 2147483648 ∧ (Cc n fw t dom fr m).2.1.length < 2147483648:=by
 have h1:=Aac n dom
 have h2:=hn.ports
 unfold Am at h2
 have h3:=fun l=>X0 n fw fr l
 unfold Cc
 split
 ·decide
 rename_i h
 have hd:Aj dom n.domains.length = true:=by
  cases hx:Aj dom n.domains.length
  ·exact absurd (by rw [Kc,hx]; rfl) h
  ·rfl
 have h4:=X2 hn dom fr hd
 split
 ·have:=h3 (Ax n dom); exact ⟨by dsimp only; omega,h4⟩
 split
 ·have:=h3 [(nth n.statics (C0 n dom m)).port]; simp only [List.length_cons,List.length_nil] at this; exact ⟨by dsimp only; omega,by show (0:Nat) < 2147483648; decide⟩
 split
 ·have:=h3 [(findE t m).1]; simp only [List.length_cons,List.length_nil] at this; exact ⟨by dsimp only; omega,by show (0:Nat) < 2147483648; decide⟩
 split
 ·refine ⟨by show (0:Nat) < 2147483648; decide,?_⟩
  dsimp only
  split <;> simp
 ·have:=h3 (Ax n dom); exact ⟨by dsimp only; omega,h4⟩
theorem Abi (n:Net) (hn:n.Fin) (hm0:n.Num) (fw:List Bool) (t:List EntryM) (dom:Int) (q:QueuedM) (now:Int) (ht:TabOK t) (hq:QueuedOK q) :
  Sy.Spec Tryz.prog 102 [Aq n,.sl 1 Ad fw,.sl 3 As t,Aa dom,A4 q,Aa now] [] (.tup [.sl 3 As (bridgeT n fw t dom q now).1,.sl 9 De (bridgeT n fw t dom q now).2.1,Aa (bridgeT n fw t dom q now).2.2]) []:=Ab Γ hm 100 F102 Tryz.ntmps102 rfl fun F hF=>by
 have hres:=bridgeT.eq_1 n fw t dom q now
 generalize bridgeT n fw t dom q now = res at *
 have qf:=floodS n hn fw dom q.from_
 have qr:=Lg t ht.short ht.mac
 conv=>whnf
 refine B1 6 8 (Aq n) E E E ?_
 refine B1 10 7 (A4 q) E E E ?_
 refine rg ?_;conv=>whnf
 cases hroom:Kc n fw dom q.from_
 ·rw [if_pos (.inl hroom)] at hres
  subst hres
  rw [floodT,if_pos hroom] at qf
  refine Ag qf F171 E E E E E ?_
  (refine rg ?_;(conv=>whnf);refine aT ?_;refine rg ?_;(conv=>whnf);refine aT ?_;refine rg ?_;conv=>whnf)
  refine A1 13 [.sl 9 De []] E (.cons .nil .nil) ?_
  refine Ao 12 3 As E ?_
  exact Ac E (.cons .tmp (.cons (.cell E E E E) (.cons .tmp .nil))) E E
 rw [floodT,if_neg (by rw [hroom]; decide)] at qf
 refine Ag qf F171 E E E E E ?_
 (refine rg ?_;(conv=>whnf);refine aF ?_;refine rg ?_;conv=>whnf)
 refine Ag qr F47 E E E E E ?_
 cases htb:tableB t
 ·rw [if_pos (.inr htb)] at hres
  subst hres
  (refine rg ?_;(conv=>whnf);refine aT ?_;refine rg ?_;conv=>whnf)
  refine A1 13 [.sl 9 De []] E (.cons .nil .nil) ?_
  refine Ao 12 3 As E ?_
  exact Ac E (.cons .tmp (.cons (.cell E E E E) (.cons .tmp .nil))) E E
 rw [if_neg (by simp [hroom,htb])] at hres
 have ql:=Y0 t q now ht hq
 have hu:=Ln ht hq now
 generalize learnQ t q now = u at *
 have qro:=Y6 n hn hm0 dom q.frame.dst
 generalize routerT n dom q.frame.dst = ro at *
 obtain ⟨irb,ok⟩:=ro
 dsimp only at hres qro
 have hbn:Af n = true:=by
  simp only [Kc,Bool.and_eq_true] at hroom
  exact hroom.1.2
 (refine rg ?_;(conv=>whnf);refine aF ?_;refine rg ?_;conv=>whnf)
 refine Ag ql F172 E E E E E ?_
 refine rg ?_;conv=>whnf
 refine Ag qro F173 E E E E E ?_
 cases ok
 rotate_left
 ·rw [if_pos rfl] at hres
  have qh:=Afl n hn hm0 irb q.frame hq.frame
  generalize hopT n irb q.frame = hp at *
  obtain ⟨to,g,e⟩:=hp
  dsimp only at hres qh
  (refine rg ?_;(conv=>whnf);refine aT ?_;refine rg ?_;conv=>whnf)
  refine Ag qh F174 E E E E E ?_
  refine rg ?_;conv=>whnf
  refine ⟨fun h=>?_,fun h=>?_⟩
  ·rw [if_pos (by simpa using h)] at hres
   subst hres
   refine rg ?_;conv=>whnf
   refine A1 13 [.sl 9 De []] E (.cons .nil .nil) ?_
   exact Ac E (.cons .tmp (.cons (.cell E E E E) (.cons .tmp .nil))) E E
  ·rw [if_neg (by simpa using h)] at hres
   subst hres
   refine rg ?_;conv=>whnf
   refine ⟨(by kernel_rfl),?_⟩
   conv=>whnf
   refine Q7 84 [De ⟨4,0,to,[],g,0⟩] E (.cons (.agg (.cons (.refl _) (.cons (.refl _) (.cons (.refl _) (.cons .nil (.cons (.refl _) (.cons (.refl _) (.cons (.refl _) (.cons (.refl _) (.cons (.refl _) .nil)))))))))) .nil) E ?_
   refine Ei 84 De [⟨4,0,to,[],g,0⟩] E E ?_
   refine At 84 E ?_
   exact Ac E (.cons .tmp (.cons (.cell E E E E) (.cons .tmp .nil))) E E
 rw [if_neg (by decide)] at hres
 have hs:=hq.frame.src
 have hd2:=hq.frame.dst
 have hfw:=Alo hu q.frame.dst
 have qd:=Alu n hn fw u dom q.from_ q.frame.dst hu.short (by unfold I64 at *; omega) (by omega)
 have hports:=Yt hbn fw u dom q.from_ q.frame.dst
 have hfew:=Vf hn fw u dom q.from_ q.frame.dst
 generalize Cc n fw u dom q.from_ q.frame.dst = dc at *
 obtain ⟨ports,peers,e0⟩:=dc
 dsimp only at hres qd hports hfew
 obtain ⟨hf1,hf2⟩:=hfew
 (refine rg ?_;(conv=>whnf);refine aF ?_;refine rg ?_;conv=>whnf)
 refine Ag qd F176 E E E E E ?_
 refine rg ?_;conv=>whnf
 refine Abu 13 0 1000 9 De E E E E ?_
 refine A0 ports.length (fun j=>[(3,Aa dom),(6,.ref 8 (Aq n) 0),(10,.ref 7 (A4 q) 0),(12,.sl 3 As u),(13,.ptr 13 0),(23,.clo (.func 175) [] [.ptr 13 0]),(25,.sl 1 Aa peers),(100,.sl 1 Aa ports),(101,Aa ports.length),(102,Aa j)])
  (fun j=>[(13,.box [.osl 1000]),(1000,.row 9 De ((ports.take j).map (Vt n dom q.frame)))]) [(13,13),(1000,1000)] ⟨⟨rfl,rfl,rfl,rfl,rfl,rfl,rfl,rfl,rfl,rfl,rfl,rfl,rfl,rfl,rfl,rfl,rfl,rfl,rfl,rfl,trivial⟩,⟨.inl rfl,rfl,.inl rfl,rfl,trivial⟩,rfl,rfl⟩ ?_
 intro j hj
 refine rg ?_;conv=>whnf
 refine ⟨fun h=>?_,fun h=>?_⟩
 ·have hlt:j < ports.length:=by have:=of_decide_eq_true h; omega
  have hj0:((j:Nat):Int).toNat < ports.length:=by simpa using hlt
  obtain ⟨p,hp⟩:∃ p,ports[j] = p:=⟨_,rfl⟩
  have e1:ports[((j:Nat):Int).toNat]'hj0 = p:=hp
  have hs:(ports.take (j + 1)).map (Vt n dom q.frame) = (ports.take j).map (Vt n dom q.frame) ++ [Vt n dom q.frame p]:=by
   rw [List.take_succ_eq_append_getElem hlt,List.map_append,hp]; rfl
  have hal:((ports.take j).map (Vt n dom q.frame)).length = j:=by rw [List.length_map,List.length_take]; omega
  have hpi:=hports p (by rw [← hp]; exact List.getElem_mem hlt)
  have hpk:p.toNat < n.ports.length:=by omega
  have ql:=Ai8 n hn p dom q.frame hq.frame
  have hop:Vt n dom q.frame p = Ot (Afx (if (nth n.ports p).link < 0 then 1 else 2) p 0) ((leaveT n p dom q.frame).1,(leaveT n p dom q.frame).2):=rfl
  rw [hop,An hpk] at hs
  clear hop
  obtain ⟨acc,hacc⟩:∃ acc,(ports.take j).map (Vt n dom q.frame) = acc:=⟨_,rfl⟩
  rw [hacc] at hs hal ⊢
  obtain ⟨x,hx⟩:∃ x,n.ports[p.toNat]'hpk = x:=⟨_,rfl⟩
  rw [hx] at hs
  clear h
  refine rg ?_;conv=>whnf
  refine ⟨E,by omega,hj0,?_⟩
  rw [e1]
  conv=>whnf
  refine ⟨E,hpi.1,hpk,?_⟩
  rw [hx]
  conv=>whnf
  refine ⟨fun h=>?_,fun h=>?_⟩
  ·rw [if_neg (by have:=of_decide_eq_true h; omega)] at hs
   refine rg ?_;conv=>whnf
   refine Ag ql F177 E E E E E ?_
   refine rg ?_;conv=>whnf
   refine Ai (K2 [(0,13),(1,1000),(2,1001)] [] (Eh E E F175) (M2 acc 2 p 0 (leaveT n p dom q.frame).1 (leaveT n p dom q.frame).2 (by omega)) (.cons (.agg (.cons (.refl _) (.cons (.refl _) (.cons (.refl _) (.cons .nil (.cons (.refl _) (.cons (.refl _) (.cons (.refl _) (.cons .nil (.cons (.refl _) .nil)))))))))) (.cons (.refl _) (.cons (.refl _) (.cons (.refl _) .nil)))) ⟨E,E,Y⟩ E ⟨.inl E,.inl E,.inr E,Y⟩ E) E E ?_
   refine rg ?_;conv=>whnf
   refine ⟨by unfold I64; omega,?_⟩
   conv=>whnf
   exact Ar [(13,13),(1000,1001)] hlt ⟨⟨E,E,E,E,E,E,E,E,E,E,E,E,E,E,E,E,E,E,E,E,Y⟩,⟨.inl E,E,.inl (congrArg (Ob.row 9 De) hs),E,Y⟩,E,E⟩
  ·rw [if_pos (by have:=of_decide_eq_false h; omega)] at hs
   refine rg ?_;conv=>whnf
   refine Ag ql F177 E E E E E ?_
   refine rg ?_;conv=>whnf
   refine Ai (K2 [(0,13),(1,1000),(2,1001)] [] (Eh E E F175) (M2 acc 1 p 0 (leaveT n p dom q.frame).1 (leaveT n p dom q.frame).2 (by omega)) (.cons (.agg (.cons (.refl _) (.cons (.refl _) (.cons (.refl _) (.cons .nil (.cons (.refl _) (.cons (.refl _) (.cons (.refl _) (.cons .nil (.cons (.refl _) .nil)))))))))) (.cons (.refl _) (.cons (.refl _) (.cons (.refl _) .nil)))) ⟨E,E,Y⟩ E ⟨.inl E,.inl E,.inr E,Y⟩ E) E E ?_
   refine rg ?_;conv=>whnf
   refine ⟨by unfold I64; omega,?_⟩
   conv=>whnf
   exact Ar [(13,13),(1000,1001)] hlt ⟨⟨E,E,E,E,E,E,E,E,E,E,E,E,E,E,E,E,E,E,E,E,Y⟩,⟨.inl E,E,.inl (congrArg (Ob.row 9 De) hs),E,Y⟩,E,E⟩
 have hjj:j = ports.length:=by have:=of_decide_eq_false h; omega
 subst hjj
 clear h
 rw [List.take_length]
 obtain ⟨acc0,hacc0⟩:∃ acc0,ports.map (Vt n dom q.frame) = acc0:=⟨_,rfl⟩
 have hal0:acc0.length = ports.length:=by rw [← hacc0,List.length_map]
 rw [hacc0] at hres ⊢
 refine rg ?_;conv=>whnf
 refine A0 peers.length (fun j=>[(3,Aa dom),(6,.ref 8 (Aq n) 0),(10,.ref 7 (A4 q) 0),(12,.sl 3 As u),(13,.ptr 13 0),(23,.clo (.func 175) [] [.ptr 13 0]),(130,.sl 1 Aa peers),(131,Aa peers.length),(132,Aa j)])
  (fun j=>[(13,.box [.osl 1000]),(1000,.row 9 De (acc0 ++ (peers.take j).map (X5 n dom q.frame)))]) [(13,13),(1000,1000)] ⟨⟨rfl,rfl,rfl,rfl,rfl,rfl,rfl,rfl,rfl,rfl,rfl,rfl,rfl,rfl,rfl,rfl,rfl,rfl,trivial⟩,⟨.inl rfl,rfl,.inl (congrArg (Ob.row 9 De) (by simp)),rfl,trivial⟩,rfl,rfl⟩ ?_
 intro j hj
 refine rg ?_;conv=>whnf
 refine ⟨fun h=>?_,fun h=>?_⟩
 ·have hlt:j < peers.length:=by have:=of_decide_eq_true h; omega
  have hj0:((j:Nat):Int).toNat < peers.length:=by simpa using hlt
  obtain ⟨p,hp⟩:∃ p,peers[j] = p:=⟨_,rfl⟩
  have e1:peers[((j:Nat):Int).toNat]'hj0 = p:=hp
  have hs:acc0 ++ (peers.take (j + 1)).map (X5 n dom q.frame) = (acc0 ++ (peers.take j).map (X5 n dom q.frame)) ++ [X5 n dom q.frame p]:=by
   rw [List.take_succ_eq_append_getElem hlt,List.map_append,hp,List.append_assoc]; rfl
  have hal:(acc0 ++ (peers.take j).map (X5 n dom q.frame)).length ≤ ports.length + j:=by rw [List.length_append,List.length_map,List.length_take]; omega
  have ql:=Acz n hn hm0 dom p q.frame hq.frame
  have hop:X5 n dom q.frame p = Ot (Afx 3 0 p) ((meshT n dom p q.frame).1,(meshT n dom p q.frame).2):=rfl
  rw [hop] at hs
  clear hop
  obtain ⟨acc,hacc⟩:∃ acc,acc0 ++ (peers.take j).map (X5 n dom q.frame) = acc:=⟨_,rfl⟩
  rw [hacc] at hs hal ⊢
  clear h
  refine rg ?_;conv=>whnf
  refine ⟨E,by omega,hj0,?_⟩
  rw [e1]
  conv=>whnf
  refine Ag ql F178 E E E E E ?_
  refine rg ?_;conv=>whnf
  refine Ai (K2 [(0,13),(1,1000),(2,1001)] [] (Eh E E F175) (M2 acc 3 0 p (meshT n dom p q.frame).1 (meshT n dom p q.frame).2 (by omega)) (.cons (.agg (.cons (.refl _) (.cons (.refl _) (.cons (.refl _) (.cons .nil (.cons (.refl _) (.cons (.refl _) (.cons (.refl _) (.cons .nil (.cons (.refl _) .nil)))))))))) (.cons (.refl _) (.cons (.refl _) (.cons (.refl _) .nil)))) ⟨E,E,Y⟩ E ⟨.inl E,.inl E,.inr E,Y⟩ E) E E ?_
  refine rg ?_;conv=>whnf
  refine ⟨by unfold I64; omega,?_⟩
  conv=>whnf
  exact Ar [(13,13),(1000,1001)] hlt ⟨⟨E,E,E,E,E,E,E,E,E,E,E,E,E,E,E,E,E,E,Y⟩,⟨.inl E,E,.inl (congrArg (Ob.row 9 De) hs),E,Y⟩,E,E⟩
 have hjj:j = peers.length:=by have:=of_decide_eq_false h; omega
 subst hjj
 clear h
 rw [List.take_length]
 subst hres
 refine rg ?_;conv=>whnf
 refine ⟨(by kernel_rfl),?_⟩
 conv=>whnf
 refine At 1000 E ?_
 exact Ac E (.cons .tmp (.cons (.cell E E E E) (.cons .tmp .nil))) E E
theorem Jw {l:List QueuedM} (h:D1 l):l.length < 1000000 ∧ Le l:=⟨by have:=h.1; omega,fun q hq=>by have:=(h.2 q hq).frame.body; omega⟩
theorem O5 {α:Type} {l:List α} {i:Nat} (h:i < l.length) (d:α):(l[i]?).getD d = l[i]:=by
 rw [List.getElem?_eq_getElem h]; rfl
theorem placeB_iff {d:Int} {k:Nat}:Aj d k = true ↔ 0 ≤ d ∧ d.toNat < k:=by
 simp only [Aj,Bool.and_eq_true,decide_eq_true_eq]; omega
theorem Yx (l:List EntryM) (hl:l.length < 2147483648):Sy.Spec Tryz.prog 48 [.sl 3 As l] [] (.sl 3 As l) []:=Ab Γ hm 100 F48 Tryz.ntmps48 rfl fun F hF=>by
 conv=>whnf
 refine C8 E (.inl E) E E E .sl E E ?_
 intro b hb
 cases b
 ·(refine rg ?_;(conv=>whnf);refine aF ?_;refine rg ?_;conv=>whnf)
  refine Ai (Ak Γ.toTy 7 E E E E E (.lit (e:=As) (l:=[]) E E) .sl (by simp) (by simp; omega) (by simp; omega)) E E ?_
  refine At 7 E ?_
  refine rg ?_;conv=>whnf
  exact Ac E (.cons .tmp .nil) E E
 ·have h0:l = []:=List.eq_nil_of_length_eq_zero (hb rfl)
  subst h0
  (refine rg ?_;(conv=>whnf);refine aT ?_;refine rg ?_;conv=>whnf)
  refine Ao 2 3 As E ?_
  exact Ac E (.cons .tmp .nil) E E
def loadT (m:MacM) (dom:Int) (t:List EntryM):MacM × Int:=if Aj dom m.queues.length = true ∧ tableB t = true then (Dq m dom t,0) else (m,2)
theorem Ahw (n:Net) (m:MacM) (d:Bool) (dom:Int) (t:List EntryM) (hq:m.tables.length = m.queues.length) (hl:Am t) (hmac:∀ e ∈ t,e.mac < 18446744073709551616) :
  Sy.Spec Tryz.prog 19 [.ptr 0 0,Aa dom,.sl 3 As t] (B6 n m d) (Aa (loadT m dom t).2) (B6 n (loadT m dom t).1 d):=Ab Γ hm 100 F19 Tryz.ntmps19 rfl fun F hF=>by
 have hl2:=hl
 unfold Am at hl2
 have hres:=loadT.eq_1 m dom t
 generalize loadT m dom t = res at *
 have h1:=Xq n m d dom
 have hpl:=placeB_iff (d:=dom) (k:=m.queues.length)
 generalize Aj dom m.queues.length = b at *
 ((conv=>whnf);refine aF ?_;refine rg ?_;conv=>whnf)
 refine Ai (Ah [] E F46 h1 E ⟨E,E,E,E,Y⟩ E ⟨.inl E,.inl E,.inl E,.inl E,Y⟩) E E ?_
 refine rg ?_;conv=>whnf
 cases b
 ·rw [if_neg (by simp)] at hres
  subst hres
  (refine ⟨fun _=>?_,fun h=>False.elim (absurd h (by decide))⟩;refine rg ?_;(conv=>whnf);refine aT ?_;refine rg ?_;conv=>whnf)
  exact done E (.cons .tmp .nil) [] (B6 n m d) (fun _ h=>h) E E ⟨Y,⟨.inl E,E,.inl E,E,.inl E,E,.inl E,E,Y⟩,E,E⟩
 have hd:=hpl.1 rfl
 (refine ⟨fun h=>False.elim (absurd h (by decide)),fun _=>?_⟩;refine rg ?_;conv=>whnf)
 refine Ag (Lg t hl hmac) F47 E E E E E ?_
 generalize tableB t = c at *
 refine rg ?_;conv=>whnf
 cases c
 ·rw [if_neg (by simp)] at hres
  subst hres
  (refine ⟨fun _=>?_,fun h=>False.elim (absurd h (by decide))⟩;refine rg ?_;conv=>whnf)
  exact done E (.cons .tmp .nil) [] (B6 n m d) (fun _ h=>h) E E ⟨Y,⟨.inl E,E,.inl E,E,.inl E,E,.inl E,E,Y⟩,E,E⟩
 rw [if_pos ⟨rfl,rfl⟩] at hres
 subst hres
 (refine ⟨fun h=>False.elim (absurd h (by decide)),fun _=>?_⟩;refine rg ?_;conv=>whnf)
 refine Ay (Yx t hl2) F48 E E E (by kernel_rfl) E ?_
 refine rd (by kernel_rfl) ?_;conv=>whnf
 refine ⟨hd.1,by omega,?_⟩
 conv=>whnf
 refine ⟨E,by omega,t,E,E,?_⟩
 conv=>whnf
 refine ⟨(by kernel_rfl),?_⟩
 conv=>whnf
 exact done E (.cons .tmp .nil) [] (B6 n (Dq m dom t) d) (fun _ h=>h) E E ⟨Y,⟨.inl E,E,.inl E,E,.inl E,E,.inl E,E,Y⟩,E,E⟩
theorem Afg (n:Net) (m:MacM) (d:Bool) (dom:Int) (hl:D1 (queueL m dom)) :
  Sy.Spec Tryz.prog 57 [.ptr 0 0,Aa dom] (B6 n m d) (.sl 7 A4 (if Aj dom m.queues.length then queueL m dom else [])) (B6 n m d):=Ab Γ hm 100 F57 Tryz.ntmps57 rfl fun F hF=>by
 have h1:=Xq n m d dom
 have hpl:=placeB_iff (d:=dom) (k:=m.queues.length)
 generalize Aj dom m.queues.length = b at *
 have hb:=Jw hl
 have h2:=Ug _ (-1) hb.1 hb.2
 have h3:takeT (queueL m dom) (-1) = (noQ,queueL m dom,false):=by rw [takeT]; exact if_pos (.inl (by decide))
 rw [h3] at h2
 clear h3 hb hl
 have hres:=queueL.eq_1 m dom
 generalize queueL m dom = res at *
 conv=>whnf
 refine Ai (Ah [] E F46 h1 E ⟨E,E,E,E,Y⟩ E ⟨.inl E,.inl E,.inl E,.inl E,Y⟩) E E ?_
 refine rg ?_;conv=>whnf
 cases b
 ·(refine ⟨fun _=>?_,fun h=>False.elim (absurd h (by decide))⟩;refine rg ?_;conv=>whnf)
  refine Ao 4 7 A4 E ?_
  exact done E (.cons .tmp .nil) [] (B6 n m d) (fun _ h=>h) E E ⟨Y,⟨.inl E,E,.inl E,E,.inl E,E,.inl E,E,Y⟩,E,E⟩
 have hd:=hpl.1 rfl
 have hlt:dom.toNat < m.queues.length:=hd.2
 rw [O5 hlt] at hres
 subst hres
 (refine ⟨fun h=>False.elim (absurd h (by decide)),fun _=>?_⟩;refine rg ?_;conv=>whnf)
 refine ⟨hd.1,by omega,?_⟩
 conv=>whnf
 refine ⟨E,hlt,?_⟩
 conv=>whnf
 refine Ag h2 F106 E E E E E ?_
 refine rg ?_;conv=>whnf
 exact done E (.cons .tmp .nil) [] (B6 n m d) (fun _ h=>h) E E ⟨Y,⟨.inl E,E,.inl E,E,.inl E,E,.inl E,E,Y⟩,E,E⟩
def Lv (m:MacM):Prop:=∀ i,0 ≤ m.drops i ∧ m.drops i ≤ 1000000000000
theorem Oc (n:Net) (m:MacM) (d:Bool) (dom:Int) (q:QueuedM) (e:Int) (he:0 ≤ e ∧ e < 64) (hd:e = 0 → 0 ≤ dom ∧ dom.toNat < m.queues.length) (hb:Lv m) (hl:D1 (queueL m dom)) (hq:QueuedOK q) :
  Sy.Spec Tryz.prog 101 [.ptr 0 0,Aa dom,A4 q,Aa e] (B6 n m d) (.tup []) (B6 n (comeM m dom q e) d):=Ab Γ hm 100 F101 Tryz.ntmps101 rfl fun F hF=>by
 have hqb:=Jw hl
 have hp:=Z0 _ q hqb.1 hqb.2 (by have:=hq.frame.body; omega)
 have h1:=Aa8 n m d e he.1 he.2 (hb _)
 have h3:=Aa8 n m d 3 (by decide) (by decide) (hb _)
 have hres:=comeM.eq_1 m dom q e
 generalize comeM m dom q e = res at *
 conv=>whnf
 refine ⟨fun h=>?_,fun h=>?_⟩
 ·rw [if_pos (by simpa using h)] at hres
  subst hres
  refine rg ?_;conv=>whnf
  refine Ai (Ah [] E F104 h1 E ⟨E,E,E,E,Y⟩ E ⟨.inl E,.inl E,.inl E,.inl E,Y⟩) E E ?_
  refine rg ?_;conv=>whnf
  exact done E .nil [] (B6 n (B0 m e) d) (fun _ h=>h) E E ⟨Y,⟨.inl E,E,.inl E,E,.inl E,E,.inl E,E,Y⟩,E,E⟩
 have h0:e = 0:=by simpa using h
 have hd:=hd h0
 rw [if_neg (by rw [h0]; decide)] at hres
 clear h hqb h1 hl he
 have hq0:=queueL.eq_1 m dom
 rw [O5 hd.2] at hq0
 generalize queueL m dom = l at *
 generalize pushT l q = r at *
 obtain ⟨l2,ok⟩:=r
 subst hq0
 refine rg ?_;conv=>whnf
 refine ⟨hd.1,hd.2,?_⟩
 conv=>whnf
 refine ⟨E,hd.2,?_⟩
 conv=>whnf
 refine Ay hp F170 E E E (by kernel_rfl) E ?_
 refine rd (by kernel_rfl) ?_;conv=>whnf
 refine ⟨(by kernel_rfl),?_⟩
 conv=>whnf
 cases ok
 ·rw [if_neg (by simp)] at hres
  subst hres
  (refine ⟨fun _=>?_,fun h=>False.elim (by simp at h)⟩;refine rg ?_;conv=>whnf)
  refine Ai (Ah [] E F104 h3 E ⟨E,E,E,E,Y⟩ E ⟨.inl E,.inl E,.inl E,.inl E,Y⟩) E E ?_
  refine rg ?_;conv=>whnf
  exact done E .nil [] (B6 n (B0 m 3) d) (fun _ h=>h) E E ⟨Y,⟨.inl E,E,.inl E,E,.inl E,E,.inl E,E,Y⟩,E,E⟩
 ·rw [if_pos rfl] at hres
  subst hres
  (refine ⟨fun h=>False.elim (by simp at h),fun _=>?_⟩;refine rg ?_;conv=>whnf)
  refine ⟨hd.1,hd.2,?_⟩
  conv=>whnf
  refine ⟨E,hd.2,l2,E,E,?_⟩
  conv=>whnf
  exact Bi E .nil [] (B6 n (Xt m dom l2) d) (fun _ h=>h) E E ⟨Y,⟨.inl E,E,.inl E,E,.inl E,E,.inl E,E,Y⟩,E,E⟩
theorem Zm (n:Net) (m:MacM) (d:Bool) (dom at_:Int) (hl:D1 (queueL m dom)) :
  Sy.Spec Tryz.prog 53 [.ptr 0 0,Aa dom,Aa at_] (B6 n m d) (.tup [A4 (takeM m dom at_).2.1,Ad (takeM m dom at_).2.2]) (B6 n (takeM m dom at_).1 d):=Ab Γ hm 100 F53 Tryz.ntmps53 rfl fun F hF=>by
 have hqb:=Jw hl
 have hp:=Ug _ at_ hqb.1 hqb.2
 have h1:=Xq n m d dom
 have hpl:=placeB_iff (d:=dom) (k:=m.queues.length)
 have hres:=takeM.eq_1 m dom at_
 generalize takeM m dom at_ = res at *
 generalize Aj dom m.queues.length = b at *
 have hq0:=queueL.eq_1 m dom
 clear hl hqb
 generalize queueL m dom = l at *
 generalize takeT l at_ = r at *
 obtain ⟨q,l2,ok⟩:=r
 conv=>whnf
 refine Ai (Ah [] E F46 h1 E ⟨E,E,E,E,Y⟩ E ⟨.inl E,.inl E,.inl E,.inl E,Y⟩) E E ?_
 refine rg ?_;conv=>whnf
 cases b
 ·rw [if_pos rfl] at hres
  subst hres
  (refine ⟨fun _=>?_,fun h=>False.elim (absurd h (by decide))⟩;refine rg ?_;conv=>whnf)
  refine A1 6 [Aa 0,Aa 0,Aa 0,A7 0,A7 0,Aa 0,.sl 1 Al []] E (.cons (.refl _) (.cons (.refl _) (.cons (.refl _) (.cons (.refl _) (.cons (.refl _) (.cons (.refl _) (.cons .nil .nil))))))) ?_
  exact done E (.cons (.cell E E E E) (.cons .tmp .nil)) [] (B6 n m d) (fun _ h=>h) E E ⟨Y,⟨.inl E,E,.inl E,E,.inl E,E,.inl E,E,Y⟩,E,E⟩
 have hd:=hpl.1 rfl
 rw [O5 hd.2] at hq0
 subst hq0
 rw [if_neg (by simp)] at hres
 subst hres
 (refine ⟨fun h=>False.elim (absurd h (by decide)),fun _=>?_⟩;refine rg ?_;conv=>whnf)
 refine ⟨hd.1,hd.2,?_⟩
 conv=>whnf
 refine ⟨E,hd.2,?_⟩
 conv=>whnf
 refine Ag hp F106 E E E E E ?_
 refine rg ?_;conv=>whnf
 refine ⟨hd.1,hd.2,?_⟩
 conv=>whnf
 refine ⟨E,hd.2,l2,E,E,?_⟩
 conv=>whnf
 exact done E (.cons (.cell E E E E) (.cons .tmp .nil)) [] (B6 n (Xt m dom l2) d) (fun _ h=>h) E E ⟨Y,⟨.inl E,E,.inl E,E,.inl E,E,.inl E,E,Y⟩,E,E⟩
theorem Ab6 (n:Net) (hn:n.Fin) (m:MacM) (d:Bool) (J D:Int) (hm0:MacOK n m J D) (hJ:J < 1000000000000) (hD:D ≤ 1000000000000) (port:Int) (b:List UInt8) (hb:b.length < 100000) :
  Sy.Spec Tryz.prog 51 [.ptr 0 0,Aa port,.sl 1 Al b] (B6 n m d) (.tup []) (B6 n (injectT n m port b) d):=Ab Γ hm 100 F51 Tryz.ntmps51 rfl fun F hF=>by
 have hres:=injectT.eq_1 n m port b
 generalize injectT n m port b = res at *
 have hpl:=placeB_iff (d:=port) (k:=n.ports.length)
 have hinj:=hm0.inj
 have hok:MacOK n ⟨m.up,m.tables,m.queues,m.now,m.injected + 1,m.drops⟩ (J + 1) D:=⟨hm0.up,hm0.tabs,hm0.ques,hm0.tab,hm0.que,hm0.now,⟨by dsimp only; omega,by dsimp only; omega⟩,hm0.drp⟩
 have hdr:Lv ⟨m.up,m.tables,m.queues,m.now,m.injected + 1,m.drops⟩:=fun i=>⟨(hm0.drp i).1,by have:=(hm0.drp i).2; dsimp only at *; omega⟩
 have he:=U8 n port b
 have hdom:=U9 (n:=n) (port:=port) (b:=b)
 have q1:=Aa4 n hn port b hb
 have hfr:=Q5 n port b
 generalize enterT n port b = r at *
 have q2:=fun (hp:0 ≤ port ∧ port.toNat < n.ports.length)=>Oc n ⟨m.up,m.tables,m.queues,m.now,m.injected + 1,m.drops⟩ d r.1 ⟨port,0,m.injected + 1,r.2.1⟩ r.2.2 ⟨he.1,by have:=he.2; omega⟩ (fun h=>by
  have:=hdom h
  exact ⟨this.1,by show r.1.toNat < m.queues.length; rw [hm0.ques]; exact this.2⟩) hdr (Dw hok _) (El hfr _ ⟨by omega,by have:=hn.ports; unfold Am at this; omega⟩ (by decide))
 conv=>whnf
 refine ⟨fun h=>?_,fun h=>?_⟩
 ·have h:=of_decide_eq_true h
  rw [if_pos (.inl (by cases hx:Aj port n.ports.length; rfl; exact absurd (hpl.1 hx) (by omega)))] at hres
  subst hres
  (refine rg ?_;(conv=>whnf);refine aT ?_;refine rg ?_;(conv=>whnf);refine aT ?_;refine rg ?_;conv=>whnf)
  (skip)
  exact done E .nil [] (B6 n res d) (fun _ h=>h) E E ⟨Y,⟨.inl E,E,.inl E,E,.inl E,E,.inl E,E,Y⟩,E,E⟩
 have h0:=of_decide_eq_false h
 clear h
 refine rg ?_;conv=>whnf
 refine ⟨fun h=>?_,fun h=>?_⟩
 ·have h:=of_decide_eq_true h
  rw [if_pos (.inl (by cases hx:Aj port n.ports.length; rfl; exact absurd (hpl.1 hx) (by omega)))] at hres
  subst hres
  (refine rg ?_;(conv=>whnf);refine aT ?_;refine rg ?_;conv=>whnf)
  (skip)
  exact done E .nil [] (B6 n res d) (fun _ h=>h) E E ⟨Y,⟨.inl E,E,.inl E,E,.inl E,E,.inl E,E,Y⟩,E,E⟩
 have h1:=of_decide_eq_false h
 clear h
 have hp:0 ≤ port ∧ port.toNat < n.ports.length:=by omega
 rw [hpl.2 hp,An hp.2] at hres
 obtain ⟨p,hpp⟩:∃ p,n.ports[port.toNat]'hp.2 = p:=⟨_,rfl⟩
 rw [hpp] at hres
 refine rg ?_;conv=>whnf
 refine ⟨E,hp.1,hp.2,?_⟩
 rw [hpp]
 conv=>whnf
 refine ⟨fun h=>?_,fun h=>?_⟩
 ·have h:=of_decide_eq_true h
  rw [if_pos (.inr h)] at hres
  subst hres
  refine rg ?_;conv=>whnf
  exact done E .nil [] (B6 n res d) (fun _ h=>h) E E ⟨Y,⟨.inl E,E,.inl E,E,.inl E,E,.inl E,E,Y⟩,E,E⟩
 have h2:=of_decide_eq_false h
 clear h
 rw [if_neg (by simp; omega)] at hres
 subst hres
 refine rg ?_;conv=>whnf
 refine ⟨by unfold I64; omega,?_⟩
 conv=>whnf
 refine Ag q1 F100 E E E E E ?_
 refine rg ?_;conv=>whnf
 refine Bu (Ah [] E F101 (q2 hp) E ⟨E,E,E,E,Y⟩ E ⟨.inl E,.inl E,.inl E,.inl E,Y⟩) (by kernel_rfl) E ?_
 refine rd (by kernel_rfl) ?_;conv=>whnf
 refine ⟨(by kernel_rfl),?_⟩
 conv=>whnf
 refine Bi E .nil [] (B6 n (comeM _ _ _ _) d) (fun _ h=>h) E E ⟨Y,⟨.inl E,E,.inl E,E,.inl E,E,.inl E,E,Y⟩,E,E⟩
theorem Tx (n:Net) (hn:n.Fin) (m:MacM) (d:Bool) (J D:Int) (hm0:MacOK n m J D) (hD:D ≤ 1000000000000) (o:OutM) (ho:OutOK n o) (origin:Int) :
  Sy.Spec Tryz.prog 105 [.ptr 0 0,De o,Aa origin] (B6 n m d) (.sl 3 Bp (goesM n m o origin).2) (B6 n (goesM n m o origin).1 d):=Ab Γ hm 100 F105 Tryz.ntmps105 rfl fun F hF=>by
 have hres:=goesM.eq_1 n m o origin
 generalize goesM n m o origin = res at *
 have hdr:Lv m:=fun i=>⟨(hm0.drp i).1,by have:=(hm0.drp i).2; omega⟩
 have hbl:o.bytes.length < 100000:=by have:=ho.bytes; omega
 have hin:∀ {x:Int},DomIn n x → 0 ≤ x ∧ x.toNat < m.queues.length:=fun h=>by rw [hm0.ques]; exact h
 conv=>whnf
 refine ⟨fun h=>?_,fun h=>?_⟩
 ·have h1:o.kind = 1:=by simpa using h
  rw [if_pos h1] at hres
  subst hres
  refine rg ?_;conv=>whnf
  refine Ei 34 Bp [⟨o.port,origin,o.bytes⟩] E E ?_
  refine At 34 E ?_
  exact done E (.cons .tmp .nil) [] (B6 n m d) (fun _ h=>h) E E ⟨Y,⟨.inl E,E,.inl E,E,.inl E,E,.inl E,E,Y⟩,E,E⟩
 have h1:¬ o.kind = 1:=by simpa using h
 rw [if_neg h1] at hres
 clear h
 refine rg ?_;conv=>whnf
 refine ⟨fun h=>?_,fun h=>?_⟩
 ·have h2:o.kind = 2:=by simpa using h
  rw [if_pos h2] at hres
  have q1:=Ac0 n hn o.port o.bytes hbl
  have he:=Agb n o.port o.bytes
  have hd:=fun h=>hin (Agc (n:=n) (port:=o.port) (b:=o.bytes) h)
  have hf:=Aal n o.port o.bytes
  have ht:=Aak hn o.port o.bytes
  generalize linkT n o.port o.bytes = r at *
  have q2:=Oc n m d r.2.1 ⟨r.1,0,origin,r.2.2.1⟩ r.2.2.2 he hd hdr (Dw hm0 _) (El hf _ (by omega) (by decide))
  subst hres
  refine rg ?_;conv=>whnf
  refine Ay q1 F182 E E E (by kernel_rfl) E ?_
  refine rd (by kernel_rfl) ?_;conv=>whnf
  refine ⟨(by kernel_rfl),?_⟩
  conv=>whnf
  refine ⟨(by kernel_rfl),?_⟩
  conv=>whnf
  refine Ai (Ah [] E F101 q2 E ⟨E,E,E,E,Y⟩ E ⟨.inl E,.inl E,.inl E,.inl E,Y⟩) E E ?_
  refine rg ?_;conv=>whnf
  refine Ao 6 3 Bp E ?_
  exact done E (.cons .tmp .nil) [] (B6 n (comeM _ _ _ _) d) (fun _ h=>h) E E ⟨Y,⟨.inl E,E,.inl E,E,.inl E,E,.inl E,E,Y⟩,E,E⟩
 have h2:¬ o.kind = 2:=by simpa using h
 rw [if_neg h2] at hres
 clear h
 refine rg ?_;conv=>whnf
 refine ⟨fun h=>?_,fun h=>?_⟩
 ·have h2:o.kind = 3:=by simpa using h
  rw [if_pos h2] at hres
  have q1:=Ac1 n hn o.bytes hbl
  have he:=Agv n o.bytes
  have hd:=fun h=>hin (Xf (n:=n) (b:=o.bytes) h).2
  have hf:=Abe n o.bytes
  have ht:=Vh hn o.bytes
  generalize comeT n o.bytes = r at *
  have q2:=Oc n m d r.2.1 ⟨-1,r.1,origin,r.2.2.1⟩ r.2.2.2 he hd hdr (Dw hm0 _) (El hf _ (by decide) ht)
  subst hres
  refine rg ?_;conv=>whnf
  refine Ay q1 F183 E E E (by kernel_rfl) E ?_
  refine rd (by kernel_rfl) ?_;conv=>whnf
  refine ⟨(by kernel_rfl),?_⟩
  conv=>whnf
  refine ⟨(by kernel_rfl),?_⟩
  conv=>whnf
  refine Ai (Ah [] E F101 q2 E ⟨E,E,E,E,Y⟩ E ⟨.inl E,.inl E,.inl E,.inl E,Y⟩) E E ?_
  refine rg ?_;conv=>whnf
  refine Ao 6 3 Bp E ?_
  exact done E (.cons .tmp .nil) [] (B6 n (comeM _ _ _ _) d) (fun _ h=>h) E E ⟨Y,⟨.inl E,E,.inl E,E,.inl E,E,.inl E,E,Y⟩,E,E⟩
 have h3:¬ o.kind = 3:=by simpa using h
 rw [if_neg h3] at hres
 clear h
 refine rg ?_;conv=>whnf
 refine ⟨fun h=>?_,fun h=>?_⟩
 ·have h4:o.kind = 4:=by simpa using h
  rw [if_pos h4] at hres
  have hf:=ho.frame h4
  have q2:=Oc n m d o.domain ⟨-2,0,origin,o.frame⟩ 0 (by decide) (fun _=>hin hf.2) hdr (Dw hm0 _) (El hf.1 _ (by decide) (by decide))
  subst hres
  refine rg ?_;conv=>whnf
  refine Ai (Ah [] E F101 q2 E ⟨E,E,E,E,Y⟩ E ⟨.inl E,.inl E,.inl E,.inl E,Y⟩) E E ?_
  refine rg ?_;conv=>whnf
  refine Ao 6 3 Bp E ?_
  exact done E (.cons .tmp .nil) [] (B6 n (comeM _ _ _ _) d) (fun _ h=>h) E E ⟨Y,⟨.inl E,E,.inl E,E,.inl E,E,.inl E,E,Y⟩,E,E⟩
 have h4:¬ o.kind = 4:=by simpa using h
 rw [if_neg h4] at hres
 have h5:o.kind = 5:=by have:=ho.kind; omega
 have he:=ho.err h5
 have q2:=Aa8 n m d o.error he.1 he.2 (hdr _)
 subst hres
 clear h
 refine rg ?_;conv=>whnf
 refine Ai (Ah [] E F104 q2 E ⟨E,E,E,E,Y⟩ E ⟨.inl E,.inl E,.inl E,.inl E,Y⟩) E E ?_
 refine rg ?_;conv=>whnf
 refine Ao 6 3 Bp E ?_
 exact done E (.cons .tmp .nil) [] (B6 n (B0 m o.error) d) (fun _ h=>h) E E ⟨Y,⟨.inl E,E,.inl E,E,.inl E,E,.inl E,E,Y⟩,E,E⟩
def Aaa (up:List Bool) (dn lk:Int) (fw:List Bool):List SV:=[.sl 1 Ad up,.val (.int .u32 dn),.val (.int .i32 lk),.val (.int .u32 0),.sl 1 Ad fw]
def L0 (n:Net) (up:List Bool) (dn lk:Int) (fw:List Bool):Obs:=[(1,.box (Aaa up dn lk fw)),(2,.box [.ptr 1 0]),(3,.box (Aab n))]
theorem Af4 (n:Net) (hn:n.Fin) (up fw:List Bool) (dn lk:Int) :
  Sy.Spec Tryz.prog 180 [.ptr 3 0,.ptr 2 0] (L0 n up dn lk fw) (.tup []) (L0 n up dn lk (I2 n up)):=Ab Γ hm 100 F180 Tryz.ntmps180 rfl fun F hF=>by
 have hf:∃ e,Sy.Spec Tryz.prog 44 [Aq n,.sl 1 Ad up] [] (.tup [.sl 1 Ad (I2 n up),Aa e]) []:=by
  unfold I2
  split
  ·rename_i h; exact ⟨0,W6 n up hn h⟩
  ·rename_i h; exact ⟨2,U3 n up hn (by simpa using h)⟩
 obtain ⟨e,hf⟩:=hf
 generalize I2 n up = r at *
 conv=>whnf
 refine Ay hf F44 E E E (by kernel_rfl) E ?_
 refine rd (by kernel_rfl) ?_;conv=>whnf
 refine ⟨(by kernel_rfl),?_⟩
 conv=>whnf
 exact Bi E .nil [] (L0 n up dn lk r) (fun _ h=>h) E E ⟨Y,⟨.inl E,E,.inl E,E,.inl E,E,Y⟩,E,E⟩
theorem Ai3 (a:Addr) (x:Int) (w:World) (hc:w.cell? a = some (.int .u32 x)):(callFunc 312 #[.pointer (some a)]).run Tryz.prog w = .ok (.value (.int .u32 x)) w :=
 run_call_load Tryz.func312 (by kernel_rfl) (by kernel_rfl) (by kernel_rfl) .u32 (by kernel_rfl) hc
theorem Wo (n:Net) (up fw:List Bool) (dn lk:Int):Sy.Spec Tryz.prog 255 [.ptr 1 1] (L0 n up dn lk fw) (Ad (dn != 0)) (L0 n up dn lk fw):=Ab Γ hm 100 F255 Tryz.ntmps255 rfl fun F hF=>by
 conv=>whnf
 refine Ai (V6 Ai3 E E E E) E E ?_
 refine rg ?_;conv=>whnf
 exact done E (.cons .tmp .nil) [] (L0 n up dn lk fw) (fun _ h=>h) E E ⟨Y,⟨.inl E,E,.inl E,E,.inl E,E,Y⟩,E,E⟩
theorem Oi (w:World):(callFunc 348 #[]).run Tryz.prog w = .ok (.value (.tuple #[])) w:=run_call_mark0 Tryz.func348 (by kernel_rfl) (by kernel_rfl) (by kernel_rfl) .disable (by kernel_rfl) w
theorem Sk (w:World):(callFunc 350 #[]).run Tryz.prog w = .ok (.value (.tuple #[])) w:=run_call_mark0 Tryz.func350 (by kernel_rfl) (by kernel_rfl) (by kernel_rfl) .enable (by kernel_rfl) w
theorem Xz (a:Addr) (w:World):(callFunc 351 #[.pointer (some a)]).run Tryz.prog w = .ok (.value (.tuple #[])) w:=run_call_marked Tryz.func351 (by kernel_rfl) (by kernel_rfl) (by kernel_rfl) .acquire (by kernel_rfl) a w
theorem Xy (a:Addr) (w:World):(callFunc 353 #[.pointer (some a)]).run Tryz.prog w = .ok (.value (.tuple #[])) w:=run_call_marked Tryz.func353 (by kernel_rfl) (by kernel_rfl) (by kernel_rfl) .releaseMerge (by kernel_rfl) a w
theorem Tv (a:Addr) (x:Value) (u:FrameMode) (w:World) (hc:w.cell? a = some x) (hz:w.frozen? a = false) :
  CallsD Tryz.prog 315 #[.pointer (some a),.bool true] u w fun e u' w'=>u' = u ∧ (e = .returned (.tuple #[]) ∧ w' = w.drew.setCell a (.int .u32 1)):=by
 have hc':w.drew.cell? a = some x:=by go_simp
 have hz':w.drew.frozen? a = false:=by go_simp
 have hst:=run_call_store (P:=Tryz.prog) Tryz.func336 (by kernel_rfl) (by kernel_rfl) (by kernel_rfl) (by kernel_rfl) (k:=.u32) (y:=1) hc' hz'
 go_enter_d Tryz.func315,Tryz.ntmps315
 go_wp2
 go_region_calls
 all_goals (go_end0; exact ⟨rfl,rfl⟩)
theorem S7 (a:Addr) (u:FrameMode) (w:World) (hc:w.cell? a = some (.int .i32 1)) (hz:w.frozen? a = false) :
  CallsD Tryz.prog 314 #[.pointer (some a)] u w fun e u' w'=>u' = u ∧ (e = .returned (.tuple #[]) ∧ w' = w.setCell a (.int .i32 0)):=by
 have hd:=Oi
 have he:=Sk
 have hr:=Xy
 have hadd:=run_call_add (P:=Tryz.prog) Tryz.func354 (by kernel_rfl) (by kernel_rfl) (by kernel_rfl) .i32 (by kernel_rfl) (y:=-1) (s:=0) hc hz (by simp [go_sem]; rfl)
 have hcv:=run_convert_to_unsafe (P:=Tryz.prog) (src:=440) (dst:=444) Tryz.underlying440 Tryz.underlying444 (by kernel_rfl) hc
 go_enter_d Tryz.func314,Tryz.ntmps314
 go_wp2
 go_end0
 go_wp2
 go_end0
 exact ⟨E,E⟩
theorem Af9 (a:Addr) (w:World) (hc:w.cell? a = some (.int .i32 0)) (hz:w.frozen? a = false) :
  Calls Tryz.prog 313 #[.pointer (some a)] w fun e w'=>e = .returned (.tuple #[]) ∧ w' = w.setCell a (.int .i32 1):=by
 have hd:=Oi
 have he:=Sk
 have ha:=Xz
 have hcas:=run_call_cas_hit (P:=Tryz.prog) Tryz.func349 (by kernel_rfl) (by kernel_rfl) (by kernel_rfl) .i32 (by kernel_rfl) (y:=1) hc hz
 have hc':(w.setCell a (.int .i32 1)).cell? a = some (.int .i32 1):=World.cell?_setCell_same w a _ hc
 have hcv:=run_convert_to_unsafe (P:=Tryz.prog) (src:=440) (dst:=444) Tryz.underlying440 Tryz.underlying444 (by kernel_rfl) hc'
 go_enter Tryz.func313,Tryz.ntmps313
 go_wp2
 first | go_end0 | (simp only [Exit.inBlock,Exit.then]; refine bodyPost_ret (results_none rfl _ _ _) rfl ?_) | refine bodyPost_ret (results_none rfl _ _ _) rfl ?_
 go_wp2
 go_end0
 exact ⟨E,E⟩
end Go.Sy.YtmelpejjondedaaGreat
namespace Go.Sy.YtmelpejjondedaaGreat
open Go.Proofs
set_option maxRecDepth 100000
set_option maxHeartbeats 4000000
theorem Ctx.behind {K:Nat → Prop} {κ κ2:Ka} {w w1 w2:World} (s:Step K κ w κ w1) (c:Ctx ⟨w1,κ⟩ κ2 w2):Ctx ⟨w,κ⟩ κ2 w2 where
 size:=Nat.le_trans s.size c.size
 os:=c.os.trans s.os
 tape:=c.tape.trans s.tape
 output:=c.output.trans s.output
 M:=c.M
 old:=fun b hb h=>by
  refine (c.old b (Nat.lt_of_lt_of_le hb s.size) h).trans ?_
  by_cases hm:κ.M b
  ·exact s.mkeep b hm
  ·exact s.blk b hb (fun ho=>by
    rcases ho with ⟨k,hk⟩ | ho
    ·exact h k hk
    ·exact hm ho)
 own:=fun k b hk=>by
  rcases c.own k b hk with h | h
  ·exact .inl (Nat.le_trans s.size h)
  ·exact .inr h
 nam:=c.nam
theorem Ags {κ:Ka} {w:World} (hi:Inv κ w):Step (fun _=>False) κ w κ w.drew ∧ Inv κ w.drew:=by
 have g:=Grew.drew w
 exact ⟨⟨g.size,g.os,g.tape,g.output,E,fun b _=>rfl,fun b _ _=>rfl,fun _ _ _ _=>rfl,fun _ _=>rfl,fun _ h=>h.elim,fun _ h=>.inl h⟩,⟨hi.inj,hi.bnd,hi.apart,hi.mbnd⟩⟩
theorem Af3 (n:Net) (hn:n.Fin) (up fw:List Bool) :
  Sy.Spec Tryz.prog 256 [.ptr 1 1,.clo (.func 180) [] [.ptr 3 0,.ptr 2 0]] (L0 n up 0 0 fw) (.tup []) (L0 n up 1 0 (I2 n up)):=by
 intro κ w vs hi hnew hvs hok
 have o1:=hok (1,.box (Aaa up 0 0 fw)) (by simp [L0])
 have o2:=hok (2,.box [.ptr 1 0]) (by simp [L0])
 have o3:=hok (3,.box (Aab n)) (by simp [L0])
 obtain ⟨b,e1,c1,c2,st1,inv1,ob1⟩:=Hi (off:=2) (x:=.val (.int .i32 1)) (v:=.int .i32 1) hi o1 rfl (fun _ _=>by simp only [Rd]) rfl
 obtain ⟨b2,_,_,_,e2,_⟩:=id o2
 obtain ⟨b3,_,_,_,e3,_⟩:=id o3
 simp only [RdL,Rd,e1,e2,e3] at hvs
 obtain ⟨v0,r0,rfl,rfl,v1,r1,rfl,⟨fs,cs,rfl,hfs,hcs⟩,rfl⟩:=hvs
 subst hfs
 obtain ⟨p3,q3,rfl,rfl,p2,q2,rfl,rfl,rfl⟩:=hcs
 have hcl:=Af4 n hn up fw 0 1 κ (w.setCell ⟨b,2,none⟩ (.int .i32 1)) [.pointer (some ⟨b3,0,none⟩),.pointer (some ⟨b2,0,none⟩)] inv1 hnew (by simp only [RdL,Rd,e2,e3]; exact ⟨_,_,rfl,rfl,_,_,rfl,rfl,rfl⟩) (fun p hp=>by
  simp only [L0,List.mem_cons,List.not_mem_nil,or_false] at hp
  rcases hp with rfl | rfl | rfl
  ·exact ob1
  ·exact ObOK.step st1 (show ¬ (2:Nat) = 1 by decide) _ o2
  ·exact ObOK.step st1 (show ¬ (3:Nat) = 1 by decide) _ o3)
 obtain ⟨u1,hu1,hr1⟩:=c1 1 (.val (.int .u32 0)) rfl
 obtain ⟨u2,hu2,hr2⟩:=c1 2 (.val (.int .i32 0)) rfl
 rw [hr1.val] at hu1
 rw [hr2.val] at hu2
 have f1:=c2 1 (show 1 < 5 by decide)
 have f2:=c2 2 (show 2 < 5 by decide)
 have hl:=Ai3 ⟨b,1,none⟩ 0 (w.setCell ⟨b,2,none⟩ (.int .i32 1)) ((World.cell?_setCell_other _ ⟨b,2,none⟩ ⟨b,1,none⟩ _ (by simp)).trans hu1)
 have hnot:∀ (x:Bool) (w:World),(Op.unary .not (.bool x)).run Tryz.prog w = .ok (.bool (!x)) w:=fun _ _=>rfl
 go_enter_defers Tryz.func256,Tryz.ntmps256
 go_wp2_with (first | (go_at_call 313; refine (Af9 ⟨b,2,none⟩ _ (by assumption) (by assumption)).mono ?_; rintro e w' ⟨rfl,rfl⟩) | (go_at_call 180; refine hcl.mono ?_; rintro e w' ⟨v,κ2,rfl,hc2,hi2,hv2,ok2⟩) | (go_at_call 255; go_in))
 have p1:=ok2 (1,.box (Aaa up 0 1 (I2 n up))) (by simp [L0])
 have k1:κ2 1 = .blk b:=by
  obtain ⟨bb,_,_,_,q1,_⟩:=id p1
  rcases hc2.nam 1 (by rw [e1]; intro h; cases h) with h | h
  ·rw [h]; exact e1
  ·rw [h] at q1; cases q1
 obtain ⟨ba,a1,a2,a3,_,_,_⟩:=Hi (off:=1) (x:=.val (.int .u32 1)) (v:=.int .u32 1) hi2 p1 rfl (fun _ _=>by simp only [Rd]) rfl
 rw [k1] at a1
 cases a1
 obtain ⟨std,invd⟩:=Ags hi2
 have p2:=ObOK.step std (k:=1) (fun h=>h) _ p1
 obtain ⟨ba,a1,_,_,st3,inv3,ob3⟩:=Hi (off:=1) (x:=.val (.int .u32 1)) (v:=.int .u32 1) invd p2 rfl (fun _ _=>by simp only [Rd]) rfl
 rw [k1] at a1
 cases a1
 have ob3:ObOK κ2 (w'.drew.setCell ⟨b,1,none⟩ (.int .u32 1)) 1 (.box (Aaa up 1 1 (I2 n up))):=ob3
 obtain ⟨ba,a1,a4,a5,st4,inv4,ob4⟩:=Hi (off:=2) (x:=.val (.int .i32 0)) (v:=.int .i32 0) inv3 ob3 rfl (fun _ _=>by simp only [Rd]) rfl
 rw [k1] at a1
 cases a1
 have ob4:ObOK κ2 ((w'.drew.setCell ⟨b,1,none⟩ (.int .u32 1)).setCell ⟨b,2,none⟩ (.int .i32 0)) 1 (.box (Aaa up 1 0 (I2 n up))):=ob4
 obtain ⟨v1,hv1,hr1⟩:=a2 1 (.val (.int .u32 0)) rfl
 rw [hr1.val] at hv1
 obtain ⟨v2,hv2,hr2⟩:=a4 2 (.val (.int .i32 1)) rfl
 rw [hr2.val] at hv2
 refine leaves_cons (f:=315) (args:=#[.pointer (some ⟨b,1,none⟩),.bool true]) (by simp) (by simp [go_sem]) ?_
 refine (Tv ⟨b,1,none⟩ (.int .u32 0) .returning _ hv1 (a3 1 (show 1 < 5 by decide))).mono ?_
 rintro e u' w'' ⟨rfl,rfl,rfl⟩
 refine leaves_cons (f:=314) (args:=#[.pointer (some ⟨b,2,none⟩)]) (by simp [settle]) (by simp [go_sem]) ?_
 refine (S7 ⟨b,2,none⟩ _ _ hv2 (a5 2 (show 2 < 5 by decide))).mono ?_
 rintro e u' w'' ⟨rfl,rfl,rfl⟩
 have hst:Step (· = 1) κ2 w' κ2 ((w'.drew.setCell ⟨b,1,none⟩ (.int .u32 1)).setCell ⟨b,2,none⟩ (.int .i32 0)):=(std.weaken (fun _ h=>h.elim)).trans (st3.trans st4)
 refine ⟨.tuple #[],by simp [results,Tryz.results256],.tuple #[],κ2,E,Ctx.behind st1 (hc2.step inv4 hst),inv4,⟨[],E,E⟩,fun p hp=>?_⟩
 simp only [L0,List.mem_cons,List.not_mem_nil,or_false] at hp
 rcases hp with rfl | rfl | rfl
 ·exact ob4
 ·exact ObOK.step hst (show ¬ (2:Nat) = 1 by decide) _ (ok2 (2,.box [.ptr 1 0]) (by simp [L0]))
 ·exact ObOK.step hst (show ¬ (3:Nat) = 1 by decide) _ (ok2 (3,.box (Aab n)) (by simp [L0]))
end Go.Sy.YtmelpejjondedaaGreat
namespace Go.Sy.YtmelpejjondedaaGreat
open Go.Proofs
attribute [local irreducible] Go.Sy.G Go.Sy.DR
set_option maxRecDepth 100000
set_option maxHeartbeats 4000000
def Qd (n:Net) (up:List Bool) (d:Bool):Obs:=[(1,.box (Io n up d)),(2,.box [.ptr 1 0]),(3,.box (Aab n))]
theorem Ald (n:Net) (hn:n.Fin) (up:List Bool) :
  Sy.Spec Tryz.prog 179 [.ptr 1 1,.clo (.func 180) [] [.ptr 3 0,.ptr 2 0]] (Qd n up false) (.tup []) (Qd n up true):=Ab Γ hm 100 F179 Tryz.ntmps179 rfl fun F hF=>by
 have q1:Sy.Spec Tryz.prog 255 [.ptr 1 1] (Qd n up false) (Ad false) (Qd n up false):=Wo n up [] 0 0
 have q2:Sy.Spec Tryz.prog 256 [.ptr 1 1,.clo (.func 180) [] [.ptr 3 0,.ptr 2 0]] (Qd n up false) (.tup []) (Qd n up true):=Af3 n hn up []
 conv=>whnf
 refine Ai (Ah [] E F255 q1 E ⟨E,E,E,Y⟩ E ⟨.inl E,.inl E,.inl E,Y⟩) E E ?_
 (refine rg ?_;(conv=>whnf);refine aT ?_;refine rg ?_;conv=>whnf)
 refine Ai (Ah [] E F256 q2 E ⟨E,E,E,Y⟩ E ⟨.inl E,.inl E,.inl E,Y⟩) E E ?_
 refine rg ?_;conv=>whnf
 exact Bi E .nil [] (Qd n up true) (fun _ h=>h) E E ⟨Y,⟨.inl E,E,.inl E,E,.inl E,E,Y⟩,E,E⟩
theorem Alc (n:Net) (up:List Bool) :
  Sy.Spec Tryz.prog 179 [.ptr 1 1,.clo (.func 180) [] [.ptr 3 0,.ptr 2 0]] (Qd n up true) (.tup []) (Qd n up true):=Ab Γ hm 100 F179 Tryz.ntmps179 rfl fun F hF=>by
 have q1:Sy.Spec Tryz.prog 255 [.ptr 1 1] (Qd n up true) (Ad true) (Qd n up true):=Wo n up (I2 n up) 1 0
 conv=>whnf
 refine Ai (Ah [] E F255 q1 E ⟨E,E,E,Y⟩ E ⟨.inl E,.inl E,.inl E,Y⟩) E E ?_
 (refine rg ?_;(conv=>whnf);refine aF ?_;refine rg ?_;conv=>whnf)
 exact Bi E .nil [] (Qd n up true) (fun _ h=>h) E E ⟨Y,⟨.inl E,E,.inl E,E,.inl E,E,Y⟩,E,E⟩
theorem Alb (n:Net) (hn:n.Fin) (up:List Bool) (d:Bool) :
  Sy.Spec Tryz.prog 179 [.ptr 1 1,.clo (.func 180) [] [.ptr 3 0,.ptr 2 0]] (Qd n up d) (.tup []) (Qd n up true):=by
 cases d
 ·exact Ald n hn up
 ·exact Alc n up
theorem Afh (n:Net) (hn:n.Fin) (up:List Bool) (d:Bool) :
  Sy.Spec Tryz.prog 103 [.ptr 1 0,Aq n] [(1,.box (Io n up d))] (.sl 1 Ad (I2 n up)) [(1,.box (Io n up true))]:=Ab Γ hm 100 F103 Tryz.ntmps103 rfl fun F hF=>by
 conv=>whnf
 refine Ai (Ah [] E F179 (Alb n hn up d) E ⟨E,E,E,Y⟩ E ⟨.inl E,.inl E,.inl E,Y⟩) E E ?_
 refine rg ?_;conv=>whnf
 exact done E (.cons .tmp .nil) [] [(1,.box (Io n up true))] (fun _ h=>h) E E ⟨Y,⟨.inl E,E,Y⟩,E,E⟩
end Go.Sy.YtmelpejjondedaaGreat
namespace Go.Sy.YtmelpejjondedaaGreat
open Go.Proofs
theorem S0 {n:Net} {fw:List Bool} {t:List EntryM} {dom:Int} {q:QueuedM} {now:Int} (ht:TabOK t) (hq:QueuedOK q):TabOK (bridgeT n fw t dom q now).1:=by
 unfold bridgeT
 split
 ·exact Qx
 split
 ·split
  ·exact Ln ht hq now
  ·exact Ln ht hq now
 ·exact Ln ht hq now
theorem S1 {n:Net} (hn:n.Fin) (hm0:n.Num) {fw:List Bool} {t:List EntryM} {dom:Int} {q:QueuedM} {now:Int} (hq:QueuedOK q):∀ o ∈ (bridgeT n fw t dom q now).2.1,OutOK n o:=by
 intro o ho
 unfold bridgeT at ho
 split at ho
 ·cases ho
 rename_i h0
 have hb:Af n = true:=by
  cases hx:Af n
  ·exact absurd (.inl (by unfold Kc; rw [hx]; simp)) h0
  ·rfl
 split at ho
 ·split at ho
  ·cases ho
  ·rename_i h1
   have h1:=Decidable.not_not.1 h1
   have hin:∀ (d:Int),(lookT n (routerT n dom q.frame.dst).1 d).2 = true → 0 ≤ (lookT n (routerT n dom q.frame.dst).1 d).1 ∧ (lookT n (routerT n dom q.frame.dst).1 d).1.toNat < n.irbs.length:=fun d h=>Aah h
   rw [List.mem_singleton.1 ho]
   exact ⟨by dsimp only; omega,by simp,fun _=>⟨Alk n hm0 _ _ hin,Aje hin h1⟩,fun h=>by dsimp only at h; omega⟩
 ·rcases List.mem_append.1 ho with h | h
  ·obtain ⟨p,_,rfl⟩:=List.mem_map.1 h
   unfold Vt
   exact Aag (by dsimp only; split <;> omega) (Vx _ _ _ _ hq.frame) (Acy _ _ _ _)
  ·obtain ⟨p,_,rfl⟩:=List.mem_map.1 h
   unfold X5
   exact Aag (by dsimp only; omega) (by have:=Ya n dom p q.frame; omega) (Af8 _ _ _ _)
theorem K8 {n:Net} (hn:n.Fin) (fw:List Bool) (t:List EntryM) (dom:Int) (q:QueuedM) (now:Int):(bridgeT n fw t dom q now).2.1.length < 4294967296:=by
 unfold bridgeT
 split
 ·show (0:Nat) < 4294967296; decide
 split
 ·split
  ·show (0:Nat) < 4294967296; decide
  ·show (1:Nat) < 4294967296; decide
 ·have:=Vf hn fw (learnQ t q now) dom q.from_ q.frame.dst
  simp only [List.length_append,List.length_map]
  omega
theorem O4 (n:Net) (origin:Int):∀ (a b:List OutM) (m:MacM),Be n m origin (a ++ b) = ((Be n (Be n m origin a).1 origin b).1,(Be n m origin a).2 ++ (Be n (Be n m origin a).1 origin b).2)
 | [],b,m=>by simp [Be]
 | o :: a,b,m=>by
  rw [List.cons_append,Be,Be,O4 n origin a b]
  simp
theorem Mx (n:Net) (m:MacM) (origin:Int) (l:List OutM) (j:Nat) (hj:j < l.length) :
  Be n m origin (l.take (j + 1)) = ((goesM n (Be n m origin (l.take j)).1 l[j] origin).1,(Be n m origin (l.take j)).2 ++ (goesM n (Be n m origin (l.take j)).1 l[j] origin).2):=by
 rw [List.take_succ_eq_append_getElem hj,O4]
 simp [Be]
theorem Lo (n:Net) (m:MacM) (o:OutM) (origin:Int):(goesM n m o origin).2.length ≤ 1:=by
 unfold goesM
 split
 ·simp
 split
 ·simp
 split
 ·simp
 split <;> simp
theorem Jf (n:Net) (origin:Int):∀ (l:List OutM) (m:MacM),(Be n m origin l).2.length ≤ l.length
 | [],m=>by simp [Be]
 | o :: l,m=>by
  rw [Be]
  have h1:=Jf n origin l (goesM n m o origin).1
  have h2:=Lo n m o origin
  simp only [List.length_append,List.length_cons]
  omega
end Go.Sy.YtmelpejjondedaaGreat
