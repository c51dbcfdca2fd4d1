/-
  K36 K37 K38 A7 D5 D6 K39 K40 K41 K42 K8 K9 K10 K11 K15 K16 K17 K18 K19 K20 K21: parts of a proof, joined by program.
-/
import Derived.Test.YtmelpejjondedaaGreatU7
import Derived.Test.YtmelpejjondedaaGreatU4
import Derived.Test.YtmelpejjondedaaGreatU3
import Derived.Test.YtmelpejjondedaaGreatU5
import Derived.Test.YtmelpejjondedaaGreatU6
namespace Go.Sy.YtmelpejjondedaaGreat
open Go.Proofs
attribute [local irreducible] Go.Sy.G Go.Sy.DR
set_option maxRecDepth 100000
set_option maxHeartbeats 4000000
theorem Acm (b:List UInt8) (hb:b.length<100000) :
  Sy.Spec Tryz.prog 224 [.sl 1 Aj b] [] (.tup [B6 (unwrapT b).1,B6 (unwrapT b).2.1,Aa (unwrapT b).2.2.1,Bh (unwrapT b).2.2.2.1,Aa (unwrapT b).2.2.2.2]) []:=Ab Γ hm 100 F224 Tryz.ntmps224 rfl fun F hF=>by
 have hres:=unwrapT.eq_1 b
 have ho:=outerT.eq_1 b
 generalize unwrapT b=res at *
 have q1:=S5 b hb
 have hok:=@Aeb b
 generalize takeF b=tk at *
 obtain ⟨f,e⟩:=tk
 dsimp only at ho q1 hok
 conv=>whnf
 refine Ah q1 F75 E E E E E ?_
 refine rg ?_;conv=>whnf
 by_cases he:e=0
 rotate_left
 ·rw[if_pos he]at ho
  rw[ho,if_pos he]at hres
  subst hres
  refine⟨fun h=>absurd (show e=0 by simpa using h) he,fun _=>?_⟩
  (refine rg ?_;(conv=>whnf);refine aF ?_;refine rg ?_;conv=>whnf)
  refine⟨fun _=>?_,fun h=>absurd (show e=0 by simpa using h) he⟩
  refine rg ?_;conv=>whnf
  refine⟨qy,?_⟩
  conv=>whnf
  refine Av 5 zF E (.cons (.refl _) (.cons (.refl _) (.cons (.refl _) (.cons .nil .nil)))) ?_
  exact Ac E (.cons .tmp (.cons .tmp (.cons .tmp (.cons (.cell E E E E) (.cons .tmp .nil))))) E E
 subst he
 rw[if_neg za]at ho
 have hfb:=(hok rfl).body
 (refine⟨fun _=>?_,fun h=>False.elim (absurd h qz)⟩;refine rg ?_;conv=>whnf)
 by_cases ht:f.typ=2048
 rotate_left
 ·rw[if_pos ht]at ho
  rw[ho,if_pos za]at hres
  subst hres
  refine⟨fun _=>?_,fun h=>absurd (show (f.typ:Int)=2048 by simpa using h) qn⟩
  (refine rg ?_;(conv=>whnf);refine aT ?_;refine rg ?_;conv=>whnf)
  refine⟨qy,?_⟩
  conv=>whnf
  refine Av 5 zF E (.cons (.refl _) (.cons (.refl _) (.cons (.refl _) (.cons .nil .nil)))) ?_
  exact Ac E (.cons .tmp (.cons .tmp (.cons .tmp (.cons (.cell E E E E) (.cons .tmp .nil))))) E E
 rw[if_neg (fun h=>h ht)]at ho
 refine⟨fun h=>absurd (show ¬ (f.typ:Int)=2048 by simpa using h) qn,fun _=>?_⟩
 have q2:=Yf f.body qn
 have hio:=@Y6 f.body
 generalize ipTakeT f.body=ip at *
 obtain ⟨p,e⟩:=ip
 dsimp only at ho q2 hio
 (refine rg ?_;(conv=>whnf);refine aF ?_;refine rg ?_;conv=>whnf)
 refine Ah q2 F214 E E E E E ?_
 refine rg ?_;conv=>whnf
 by_cases he:e=0
 rotate_left
 ·rw[if_pos he]at ho
  rw[ho,if_pos he]at hres
  subst hres
  refine⟨fun h=>absurd (show e=0 by simpa using h) he,fun _=>?_⟩
  (refine rg ?_;(conv=>whnf);refine aF ?_;refine rg ?_;conv=>whnf)
  refine⟨fun _=>?_,fun h=>absurd (show e=0 by simpa using h) he⟩
  refine rg ?_;conv=>whnf
  refine⟨qy,?_⟩
  conv=>whnf
  refine Av 5 zF E (.cons (.refl _) (.cons (.refl _) (.cons (.refl _) (.cons .nil .nil)))) ?_
  exact Ac E (.cons .tmp (.cons .tmp (.cons .tmp (.cons (.cell E E E E) (.cons .tmp .nil))))) E E
 subst he
 rw[if_neg za]at ho
 have hpl:=(hio rfl).2
 (refine⟨fun _=>?_,fun h=>False.elim (absurd h qz)⟩;refine rg ?_;conv=>whnf)
 by_cases hp:p.proto=17
 rotate_left
 ·rw[if_pos hp]at ho
  rw[ho,if_pos za]at hres
  subst hres
  refine⟨fun _=>?_,fun h=>absurd (show (p.proto:Int)=17 by simpa using h) qn⟩
  (refine rg ?_;(conv=>whnf);refine aT ?_;refine rg ?_;conv=>whnf)
  refine⟨qy,?_⟩
  conv=>whnf
  refine Av 5 zF E (.cons (.refl _) (.cons (.refl _) (.cons (.refl _) (.cons .nil .nil)))) ?_
  exact Ac E (.cons .tmp (.cons .tmp (.cons .tmp (.cons (.cell E E E E) (.cons .tmp .nil))))) E E
 rw[if_neg (fun h=>h hp)]at ho
 refine⟨fun h=>absurd (show ¬ (p.proto:Int)=17 by simpa using h) qn,fun _=>?_⟩
 rw[ho,if_neg za]at hres
 clear ho
 dsimp only at hres
 have hi:=innerT.eq_1 p.body
 generalize innerT p.body=inn at *
 have q3:=Ahu p.body qn
 have hul:=@Aqs p.body
 generalize udpTakeT p.body=u at *
 obtain ⟨u1,u2,u3,e⟩:=u
 dsimp only at hi q3 hul
 (refine rg ?_;(conv=>whnf);refine aF ?_;refine rg ?_;conv=>whnf)
 refine Ah q3 F279 E E E E E ?_
 refine rg ?_;conv=>whnf
 by_cases he:e=0
 rotate_left
 ·rw[if_pos he]at hi
  rw[hi,if_pos he]at hres
  subst hres
  refine⟨fun h=>absurd (show e=0 by simpa using h) he,fun _=>?_⟩
  (refine rg ?_;(conv=>whnf);refine aF ?_;refine rg ?_;conv=>whnf)
  refine⟨fun _=>?_,fun h=>absurd (show e=0 by simpa using h) he⟩
  refine rg ?_;conv=>whnf
  refine⟨qy,?_⟩
  conv=>whnf
  refine Av 5 zF E (.cons (.refl _) (.cons (.refl _) (.cons (.refl _) (.cons .nil .nil)))) ?_
  exact Ac E (.cons .tmp (.cons .tmp (.cons .tmp (.cons (.cell E E E E) (.cons .tmp .nil))))) E E
 subst he
 rw[if_neg za]at hi
 (refine⟨fun _=>?_,fun h=>False.elim (absurd h qz)⟩;refine rg ?_;conv=>whnf)
 by_cases h2:u2=4789
 rotate_left
 ·rw[if_pos h2]at hi
  rw[hi,if_pos za]at hres
  subst hres
  refine⟨fun _=>?_,fun h=>absurd (show u2=4789 by simpa using h) h2⟩
  (refine rg ?_;(conv=>whnf);refine aT ?_;refine rg ?_;conv=>whnf)
  refine⟨qy,?_⟩
  conv=>whnf
  refine Av 5 zF E (.cons (.refl _) (.cons (.refl _) (.cons (.refl _) (.cons .nil .nil)))) ?_
  exact Ac E (.cons .tmp (.cons .tmp (.cons .tmp (.cons (.cell E E E E) (.cons .tmp .nil))))) E E
 rw[if_neg (fun h=>h h2)]at hi
 refine⟨fun h=>absurd h2 (by simpa using h),fun _=>?_⟩
 have q4:=Alr u3 qn
 have hvl:=@vniT_body u3
 generalize vniT u3=w at *
 obtain ⟨w1,w2,e⟩:=w
 dsimp only at hi q4 hvl
 (refine rg ?_;(conv=>whnf);refine aF ?_;refine rg ?_;conv=>whnf)
 refine Ah q4 F280 E E E E E ?_
 refine rg ?_;conv=>whnf
 by_cases he:e=0
 rotate_left
 ·rw[if_pos he]at hi
  rw[hi,if_pos he]at hres
  subst hres
  refine⟨fun _=>?_,fun h=>absurd (show e=0 by simpa using h) he⟩
  refine rg ?_;conv=>whnf
  refine⟨qy,?_⟩
  conv=>whnf
  refine Av 5 zF E (.cons (.refl _) (.cons (.refl _) (.cons (.refl _) (.cons .nil .nil)))) ?_
  exact Ac E (.cons .tmp (.cons .tmp (.cons .tmp (.cons (.cell E E E E) (.cons .tmp .nil))))) E E
 subst he
 rw[if_neg za]at hi
 (refine⟨fun h=>False.elim (absurd h qz),fun _=>?_⟩;refine rg ?_;conv=>whnf)
 have q5:=S5 w2 qn
 generalize takeF w2=tk at *
 obtain ⟨g,e⟩:=tk
 dsimp only at hi q5
 refine Ah q5 F75 E E E E E ?_
 refine rg ?_;conv=>whnf
 by_cases he:e=0
 rotate_left
 ·rw[if_pos he]at hi
  rw[hi,if_pos he]at hres
  subst hres
  refine⟨fun h=>absurd (show e=0 by simpa using h) he,fun _=>?_⟩
  (refine rg ?_;(conv=>whnf);refine aF ?_;refine rg ?_;conv=>whnf)
  refine⟨fun _=>?_,fun h=>absurd (show e=0 by simpa using h) he⟩
  refine rg ?_;conv=>whnf
  refine⟨qy,?_⟩
  conv=>whnf
  refine Av 5 zF E (.cons (.refl _) (.cons (.refl _) (.cons (.refl _) (.cons .nil .nil)))) ?_
  exact Ac E (.cons .tmp (.cons .tmp (.cons .tmp (.cons (.cell E E E E) (.cons .tmp .nil))))) E E
 subst he
 rw[if_neg za]at hi
 (refine⟨fun _=>?_,fun h=>False.elim (absurd h qz)⟩;refine rg ?_;conv=>whnf)
 by_cases hg:g.typ=33024
 ·rw[if_pos hg]at hi
  rw[hi,if_pos za]at hres
  subst hres
  refine⟨fun _=>?_,fun h=>absurd (show ¬ (g.typ:Int)=33024 by simpa using h) qn⟩
  (refine rg ?_;(conv=>whnf);refine aT ?_;refine rg ?_;conv=>whnf)
  refine⟨qy,?_⟩
  conv=>whnf
  refine Av 5 zF E (.cons (.refl _) (.cons (.refl _) (.cons (.refl _) (.cons .nil .nil)))) ?_
  exact Ac E (.cons .tmp (.cons .tmp (.cons .tmp (.cons (.cell E E E E) (.cons .tmp .nil))))) E E
 rw[if_neg hg]at hi
 rw[hi,if_neg za]at hres
 subst hres
 refine⟨fun h=>absurd (show (g.typ:Int)=33024 by simpa using h) qn,fun _=>?_⟩
 (refine rg ?_;(conv=>whnf);refine aF ?_;refine rg ?_;conv=>whnf)
 refine⟨qy,?_⟩
 conv=>whnf
 exact Ac E (.cons .tmp (.cons .tmp (.cons .tmp (.cons (.cell E E E E) (.cons .tmp .nil))))) E E
theorem endsC1 (dst:Int) (d:Device):Sy.Spec Tryz.prog 319 [Bt d,.ref 1 (B6 dst) 0] [] (Ad (decide (d.vtep=dst))) []:=Ab Γ hm 100 F319 Tryz.ntmps319 rfl fun F hF=>by
 conv=>whnf
 refine Ac E (.cons .tmp .nil) (congrArg Ad ?_) E
 rw[Bool.eq_iff_iff]
 simp
theorem endsC2 (dev vni:Int) (d:Domain):Sy.Spec Tryz.prog 320 [A1 d,.ref 1 (Aa dev) 0,.ref 1 (Aa vni) 0] [] (Ad (decide (d.dev=dev) && decide (d.vni=vni))) []:=Ab Γ hm 100 F320 Tryz.ntmps320 rfl fun F hF=>by
 conv=>whnf
 refine⟨fun h=>?_,fun h=>?_⟩
 ·have h1:d.dev=dev:=by simpa using h
  refine rg ?_;conv=>whnf
  refine Ac E (.cons .tmp .nil) (congrArg Ad ?_) E
  rw[decide_eq_true h1,Bool.true_and,Bool.eq_iff_iff]
  simp
 ·have h1:¬ d.dev=dev:=by simpa using h
  refine rg ?_;conv=>whnf
  refine Ac E (.cons .tmp .nil) (congrArg Ad ?_) E
  rw[decide_eq_false h1,Bool.false_and]
theorem endsC3 (n:Net) (hb:Ag n=true) (src:Int) (k:Int) (hk:DomIn n k):Sy.Spec Tryz.prog 322 [Aa k,.ref 8 (Ap n) 0,.ref 1 (B6 src) 0] [] (Ad (decide (Er n k=src))) []:=Ab Γ hm 100 F322 Tryz.ntmps322 rfl fun F hF=>by
 have q:=Tb n hb k hk
 conv=>whnf
 refine Au q F254 E E E qy E ?_
 refine rd qy ?_;conv=>whnf
 refine⟨qy,?_⟩
 conv=>whnf
 refine Ac E (.cons .tmp .nil) (congrArg Ad ?_) E
 rw[Bool.eq_iff_iff]
 simp
theorem endsS (n:Net) (hn:n.Fin) (hb:Ag n=true) (src dst:Nat) (vni:Int) :
  Sy.Spec Tryz.prog 260 [Ap n,B6 src,B6 dst,Aa vni] [] (.tup [Aa (endsT n src dst vni).1,Aa (endsT n src dst vni).2]) []:=Ab Γ hm 100 F260 Tryz.ntmps260 rfl fun F hF=>by
 have hres:=endsT.eq_1 n src dst vni
 dsimp only at hres
 generalize endsT n src dst vni=res at *
 have q1:=Uu n.devices (fun d=>decide (d.vtep=(dst:Int))) 319 [] [.ref 1 (B6 dst) 0] rfl (fun d _=>⟨⟨_,_,F319⟩,endsC1 dst d⟩) hn.devices
 generalize Dh (fun d:Device=>decide (d.vtep=(dst:Int))) n.devices=dev at *
 have q2:=Ig n.domains (fun d=>decide (d.dev=dev) && decide (d.vni=vni)) 320 [] [.ref 1 (Aa dev) 0,.ref 1 (Aa vni) 0] rfl (fun d _=>⟨⟨_,_,F320⟩,endsC2 dev vni d⟩) hn.domains
 have hlt:=I3 (fun d:Domain=>decide (d.dev=dev) && decide (d.vni=vni)) n.domains
 generalize Dh (fun d:Domain=>decide (d.dev=dev) && decide (d.vni=vni)) n.domains=dom at *
 conv=>whnf
 refine Bg 4 8 (Ap n) E E E ?_
 refine Bg 5 1 (B6 src) E E E ?_
 refine Bg 6 1 (B6 dst) E E E ?_
 refine Bg 7 1 (Aa vni) E E E ?_
 refine rg ?_;conv=>whnf
 refine Ah q1 F318 E E E E E ?_
 refine rg ?_;conv=>whnf
 refine Bg 10 1 (Aa dev) E E E ?_
 refine rg ?_;conv=>whnf
 refine Ah q2 F262 E E E E E ?_
 refine rg ?_;conv=>whnf
 refine⟨fun h=>?_,fun h=>?_⟩
 ·rw[if_pos (.inl (of_decide_eq_true h))]at hres
  subst hres
  (refine rg ?_;(conv=>whnf);refine aT ?_;refine rg ?_;conv=>whnf)
  exact Ac E (.cons .tmp (.cons .tmp .nil)) E E
 have h1:=of_decide_eq_false h
 clear h
 refine rg ?_;conv=>whnf
 refine⟨fun h=>?_,fun h=>?_⟩
 ·rw[if_pos (.inr (of_decide_eq_true h))]at hres
  subst hres
  refine rg ?_;conv=>whnf
  exact Ac E (.cons .tmp (.cons .tmp .nil)) E E
 have h2:=of_decide_eq_false h
 clear h
 rw[if_neg (fun h=>h.elim h1 h2)]at hres
 have hd0:0≤dom:=by omega
 have hkd:dom.toNat<n.domains.length:=by omega
 have e2:nth n.domains dom=n.domains[dom.toNat]:=Ao hkd
 have hpe:=hn.peers _ (List.getElem_mem hkd)
 have hpin:∀ k∈(n.domains[dom.toNat]'hkd).peers,DomIn n k:=fun k hk=>Ys hb hkd hk
 obtain ⟨d,hdd⟩:∃ d,n.domains[dom.toNat]'hkd=d:=⟨_,rfl⟩
 rw[hdd]at e2 hpe hpin
 rw[e2]at hres
 have q3:=Kk d.peers (fun k=>decide (Er n k=(src:Int))) 322 [] [.ref 8 (Ap n) 0,.ref 1 (B6 src) 0] rfl (fun k hk=>⟨⟨_,_,F322⟩,endsC3 n hb src k (hpin k hk)⟩) hpe
 have hlt2:=I3 (fun k:Int=>decide (Er n k=(src:Int))) d.peers
 generalize Dh (fun k:Int=>decide (Er n k=(src:Int))) d.peers=i at *
 refine rg ?_;conv=>whnf
 refine⟨E,hd0,hkd,?_⟩
 rw[hdd]
 conv=>whnf
 refine Ah q3 F321 E E E E E ?_
 refine rg ?_;conv=>whnf
 refine⟨fun h=>?_,fun h=>?_⟩
 ·rw[if_pos (of_decide_eq_true h)]at hres
  subst hres
  refine rg ?_;conv=>whnf
  exact Ac E (.cons .tmp (.cons .tmp .nil)) E E
 have h3:=of_decide_eq_false h
 clear h
 rw[if_neg h3]at hres
 have hki:i.toNat<d.peers.length:=by omega
 rw[Ao hki]at hres
 subst hres
 refine rg ?_;conv=>whnf
 refine⟨E,by omega,hki,?_⟩
 conv=>whnf
 exact Ac E (.cons .tmp (.cons .tmp .nil)) E E
theorem Aip (n:Net) (hn:n.Fin) (b:List UInt8) (hb:b.length<100000) :
  Sy.Spec Tryz.prog 183 [Ap n,.sl 1 Aj b] [] (.tup [Aa (comeT n b).1,Aa (comeT n b).2.1,Bh (comeT n b).2.2.1,Aa (comeT n b).2.2.2]) []:=Ab Γ hm 100 F183 Tryz.ntmps183 rfl fun F hF=>by
 have hres:=comeT.eq_1 n b
 generalize comeT n b=res at *
 have hr:=B5 n hn
 conv=>whnf
 refine Bg 2 8 (Ap n) E E E ?_
 refine rg ?_;conv=>whnf
 refine Ah hr F67 E E E E E ?_
 cases hbn:Ag n
 ·rw[if_pos hbn]at hres
  subst hres
  (refine rg ?_;(conv=>whnf);refine aT ?_;refine rg ?_;conv=>whnf)
  refine Av 6 zF E (.cons (.refl _) (.cons (.refl _) (.cons (.refl _) (.cons .nil .nil)))) ?_
  exact Ac E (.cons .tmp (.cons .tmp (.cons (.cell E E E E) (.cons .tmp .nil)))) E E
 rw[if_neg (by rw[hbn];decide)]at hres
 have q1:=Akv b hb
 have huo:=Sr b
 generalize unwrapT b=u at *
 obtain ⟨src,dst,vni,f,e⟩:=u
 dsimp only at hres q1 huo
 have hsrc:=huo.2.2.2.src
 (refine rg ?_;(conv=>whnf);refine aF ?_;refine rg ?_;conv=>whnf)
 refine Ah q1 F259 E E E E E ?_
 refine rg ?_;conv=>whnf
 refine⟨fun h=>?_,fun h=>?_⟩
 ·rw[if_pos (by simpa using h)]at hres
  subst hres
  refine rg ?_;conv=>whnf
  refine Av 6 zF E (.cons (.refl _) (.cons (.refl _) (.cons (.refl _) (.cons .nil .nil)))) ?_
  exact Ac E (.cons .tmp (.cons .tmp (.cons (.cell E E E E) (.cons .tmp .nil)))) E E
 rw[if_neg (by simpa using h)]at hres
 clear h
 have q2:=endsS n hn hbn src dst vni
 generalize endsT n src dst vni=en at *
 obtain ⟨fr,dom⟩:=en
 dsimp only at hres q2
 refine rg ?_;conv=>whnf
 refine Ah q2 F260 E E E E E ?_
 refine rg ?_;conv=>whnf
 refine⟨fun h=>?_,fun h=>?_⟩
 ·rw[if_pos (of_decide_eq_true h)]at hres
  subst hres
  refine rg ?_;conv=>whnf
  refine Av 6 zF E (.cons (.refl _) (.cons (.refl _) (.cons (.refl _) (.cons .nil .nil)))) ?_
  exact Ac E (.cons .tmp (.cons .tmp (.cons (.cell E E E E) (.cons .tmp .nil)))) E E
 rw[if_neg (of_decide_eq_false h)]at hres
 clear h
 have qg:=Lv f.src qn
 refine rg ?_;conv=>whnf
 refine Ah qg F162 E E E E E ?_
 cases hg:D1 f.src
 rotate_left
 ·rw[if_pos hg]at hres
  subst hres
  (refine rg ?_;(conv=>whnf);refine aT ?_;refine rg ?_;conv=>whnf)
  refine Av 6 zF E (.cons (.refl _) (.cons (.refl _) (.cons (.refl _) (.cons .nil .nil)))) ?_
  exact Ac E (.cons .tmp (.cons .tmp (.cons (.cell E E E E) (.cons .tmp .nil)))) E E
 rw[if_neg (by rw[hg];decide)]at hres
 subst hres
 (refine rg ?_;(conv=>whnf);refine aF ?_;refine rg ?_;conv=>whnf)
 refine⟨qy,?_⟩
 conv=>whnf
 exact Ac E (.cons .tmp (.cons .tmp (.cons (.cell E E E E) (.cons .tmp .nil)))) E E
theorem Ahp (n:Net) (hn:n.Fin) (hb:Ag n=true) (src dst:Nat) (vni:Int) :
  Sy.Spec Tryz.prog 225 [Ap n,B6 src,B6 dst,Aa vni] [] (.tup [Aa (endsT n src dst vni).1,Aa (endsT n src dst vni).2]) []:=Ab Γ hm 100 F225 Tryz.ntmps225 rfl fun F hF=>by
 have hres:=endsT.eq_1 n src dst vni
 dsimp only at hres
 generalize endsT n src dst vni=res at *
 have hsd:=hn.devices
 have hsm:=hn.domains
 unfold Ar at hsd hsm
 conv=>whnf
 refine Bg 4 8 (Ap n) E E E ?_
 refine A2 n.devices.length (fun j=>∀ i (h:i<n.devices.length),i<j→decide (n.devices[i].vtep=(dst:Int))=false) (fun j=>[(1,B6 src),(2,B6 dst),(3,Aa vni),(4,.ref 8 (Ap n) 0),(10,Aa j)]) (fun _=>[]) [] (fun i h h2=>by omega) ⟨⟨E,E,E,E,E,E,E,E,E,E,Y⟩,Y,E,E⟩ ?_
 intro j hj hI
 refine rg ?_;conv=>whnf
 refine⟨fun h=>?_,fun h=>?_⟩
 ·have hlt:j<n.devices.length:=by have:=of_decide_eq_true h;omega
  have hj0:((j:Nat):Int).toNat<n.devices.length:=by simpa using hlt
  obtain ⟨d,hd⟩:∃ d,n.devices[j]=d:=⟨_,rfl⟩
  have e1:n.devices[((j:Nat):Int).toNat]'hj0=d:=hd
  clear h
  refine rg ?_;conv=>whnf
  refine⟨E,by omega,hj0,?_⟩
  rw[e1]
  conv=>whnf
  refine⟨fun h=>?_,fun h=>?_⟩
  ·have hne:¬ d.vtep=(dst:Int):=by simpa using h
   refine rg ?_;conv=>whnf
   refine⟨by unfold I64;omega,?_⟩
   conv=>whnf
   refine Aw [] hI hlt (fun i hi h2=>?_) ⟨⟨E,E,E,E,E,E,E,E,E,E,Y⟩,Y,E,E⟩
   by_cases hij:i=j
   ·subst hij;rw[hd];exact decide_eq_false hne
   ·exact hI i hi qn
  have heq:d.vtep=(dst:Int):=by simpa using h
  clear h
  have hdev:Dh (fun d:Device=>decide (d.vtep=(dst:Int))) n.devices=(j:Int):=C1 hlt hI (by rw[hd];exact decide_eq_true heq)
  rw[hdev]at hres
  refine rg ?_;conv=>whnf
  refine A2 n.domains.length (fun k=>∀ i (h:i<n.domains.length),i<k→(decide (n.domains[i].dev=(j:Int)) && decide (n.domains[i].vni=vni))=false) (fun k=>[(1,B6 src),(3,Aa vni),(4,.ref 8 (Ap n) 0),(10,Aa j),(11,Aa k)]) (fun _=>[]) [] (fun i h h2=>by omega) ⟨⟨E,E,E,E,E,E,E,E,E,E,Y⟩,Y,E,E⟩ ?_
  intro k hk hK
  refine rg ?_;conv=>whnf
  refine⟨fun h=>?_,fun h=>?_⟩
  ·have hlk:k<n.domains.length:=by have:=of_decide_eq_true h;omega
   have hk0:((k:Nat):Int).toNat<n.domains.length:=by simpa using hlk
   have hpe:=hn.peers _ (List.getElem_mem hlk)
   have hpin:∀ z∈(n.domains[k]'hlk).peers,DomIn n z:=fun z hz=>Ys hb hlk hz
   obtain ⟨x,hx⟩:∃ x,n.domains[k]=x:=⟨_,rfl⟩
   have e2:n.domains[((k:Nat):Int).toNat]'hk0=x:=hx
   have e3:nth n.domains (k:Int)=x:=by rw[Ao hk0];exact hx
   rw[hx]at hpe hpin
   clear h
   have next:(decide (x.dev=(j:Int)) && decide (x.vni=vni))=false→∀ i (h:i<n.domains.length),i<k+1→(decide (n.domains[i].dev=(j:Int)) && decide (n.domains[i].vni=vni))=false:=fun hf i hi h2=>by
    by_cases hik:i=k
    ·subst hik;rw[hx];exact hf
    ·exact hK i hi qn
   refine rg ?_;conv=>whnf
   refine⟨E,by omega,hk0,?_⟩
   rw[e2]
   conv=>whnf
   refine⟨fun h=>?_,fun h=>?_⟩
   ·have hne:¬ x.dev=(j:Int):=by simpa using h
    (refine rg ?_;(conv=>whnf);refine aT ?_;refine rg ?_;conv=>whnf)
    refine⟨by unfold I64;omega,?_⟩
    conv=>whnf
    exact Aw [] hK hlk (next (by rw[decide_eq_false hne,Bool.false_and])) ⟨⟨E,E,E,E,E,E,E,E,E,E,Y⟩,Y,E,E⟩
   have hxd:x.dev=(j:Int):=by simpa using h
   clear h
   refine rg ?_;conv=>whnf
   refine⟨E,by omega,hk0,?_⟩
   rw[e2]
   conv=>whnf
   refine⟨fun h=>?_,fun h=>?_⟩
   ·have hne:¬ x.vni=vni:=by simpa using h
    refine rg ?_;conv=>whnf
    refine⟨by unfold I64;omega,?_⟩
    conv=>whnf
    exact Aw [] hK hlk (next (by rw[decide_eq_false hne,Bool.and_false])) ⟨⟨E,E,E,E,E,E,E,E,E,E,Y⟩,Y,E,E⟩
   have hxv:x.vni=vni:=by simpa using h
   clear h
   have hdom:Dh (fun d:Domain=>decide (d.dev=(j:Int)) && decide (d.vni=vni)) n.domains=(k:Int):=C1 hlk hK (by rw[hx,decide_eq_true hxd,decide_eq_true hxv];rfl)
   rw[hdom,if_neg qn,e3]at hres
   unfold Ar at hpe
   refine rg ?_;conv=>whnf
   refine A2 x.peers.length (fun m=>∀ i (h:i<x.peers.length),i<m→decide (Er n x.peers[i]=(src:Int))=false) (fun m=>[(1,B6 src),(4,.ref 8 (Ap n) 0),(11,Aa k),(12,Aa m)]) (fun _=>[]) [] (fun i h h2=>by omega) ⟨⟨E,E,E,E,E,E,E,E,Y⟩,Y,E,E⟩ ?_
   intro m hm0 hM
   refine rg ?_;conv=>whnf
   refine⟨E,by omega,hk0,?_⟩
   rw[e2]
   conv=>whnf
   refine⟨fun h=>?_,fun h=>?_⟩
   ·have hlm:m<x.peers.length:=by have:=of_decide_eq_true h;omega
    have hm1:((m:Nat):Int).toNat<x.peers.length:=by simpa using hlm
    obtain ⟨z,hz⟩:∃ z,x.peers[m]=z:=⟨_,rfl⟩
    have e4:x.peers[((m:Nat):Int).toNat]'hm1=z:=hz
    have qv:=S3 n hb z (hpin z (by rw[← hz];exact List.getElem_mem hlm))
    clear h
    refine rg ?_;conv=>whnf
    refine⟨E,by omega,hk0,?_⟩
    rw[e2]
    conv=>whnf
    refine⟨E,by omega,hm1,?_⟩
    rw[e4]
    conv=>whnf
    refine Au qv F223 E E E qy E ?_
    refine rd qy ?_;conv=>whnf
    refine⟨qy,?_⟩
    conv=>whnf
    refine⟨fun h=>?_,fun h=>?_⟩
    ·have hzv:Er n z=(src:Int):=by simpa using h
     have hidx:Dh (fun k:Int=>decide (Er n k=(src:Int))) x.peers=(m:Int):=C1 hlm hM (by rw[hz];exact decide_eq_true hzv)
     have e5:nth x.peers (m:Int)=z:=by rw[Ao hm1];exact hz
     rw[hidx,if_neg qn,e5]at hres
     subst hres
     refine rg ?_;conv=>whnf
     refine⟨E,by omega,hk0,?_⟩
     rw[e2]
     conv=>whnf
     refine⟨E,by omega,hm1,?_⟩
     rw[e4]
     conv=>whnf
     exact Ac E (.cons .tmp (.cons .tmp .nil)) E E
    ·have hne:¬ Er n z=(src:Int):=by simpa using h
     refine rg ?_;conv=>whnf
     refine⟨by unfold I64;omega,?_⟩
     conv=>whnf
     refine Aw [] hM hlm (fun i hi h2=>?_) ⟨⟨E,E,E,E,E,E,E,E,Y⟩,Y,E,E⟩
     by_cases him:i=m
     ·subst him;rw[hz];exact decide_eq_false hne
     ·exact hM i hi qn
   ·have hmm:m=x.peers.length:=by have:=of_decide_eq_false h;omega
    subst hmm
    have hidx:Dh (fun k:Int=>decide (Er n k=(src:Int))) x.peers=-1:=Dc (fun i hi=>hM i hi hi)
    rw[hidx,if_pos qz]at hres
    subst hres
    refine rg ?_;conv=>whnf
    exact Ac E (.cons .tmp (.cons .tmp .nil)) E E
  ·have hkk:k=n.domains.length:=by have:=of_decide_eq_false h;omega
   subst hkk
   have hdom:Dh (fun d:Domain=>decide (d.dev=(j:Int)) && decide (d.vni=vni)) n.domains=-1:=Dc (fun i hi=>hK i hi hi)
   rw[hdom,if_pos (.inr qz)]at hres
   subst hres
   refine rg ?_;conv=>whnf
   exact Ac E (.cons .tmp (.cons .tmp .nil)) E E
 ·have hjj:j=n.devices.length:=by have:=of_decide_eq_false h;omega
  subst hjj
  have hdev:Dh (fun d:Device=>decide (d.vtep=(dst:Int))) n.devices=-1:=Dc (fun i hi=>hI i hi hi)
  rw[hdev,if_pos (.inl qz)]at hres
  subst hres
  refine rg ?_;conv=>whnf
  exact Ac E (.cons .tmp (.cons .tmp .nil)) E E
theorem Ahq (n:Net) (hn:n.Fin) (b:List UInt8) (hb:b.length<100000) :
  Sy.Spec Tryz.prog 152 [Ap n,.sl 1 Aj b] [] (.tup [Aa (comeT n b).1,Aa (comeT n b).2.1,Bh (comeT n b).2.2.1,Aa (comeT n b).2.2.2]) []:=Ab Γ hm 100 F152 Tryz.ntmps152 rfl fun F hF=>by
 have hres:=comeT.eq_1 n b
 generalize comeT n b=res at *
 have hr:=Dq n hn
 conv=>whnf
 refine Bg 2 8 (Ap n) E E E ?_
 refine rg ?_;conv=>whnf
 refine Ah hr F74 E E E E E ?_
 cases hbn:Ag n
 ·rw[if_pos hbn]at hres
  subst hres
  (refine rg ?_;(conv=>whnf);refine aT ?_;refine rg ?_;conv=>whnf)
  refine Av 6 zF E (.cons (.refl _) (.cons (.refl _) (.cons (.refl _) (.cons .nil .nil)))) ?_
  exact Ac E (.cons .tmp (.cons .tmp (.cons (.cell E E E E) (.cons .tmp .nil)))) E E
 rw[if_neg (by rw[hbn];decide)]at hres
 have q1:=Acm b hb
 have huo:=Sr b
 generalize unwrapT b=u at *
 obtain ⟨src,dst,vni,f,e⟩:=u
 dsimp only at hres q1 huo
 have hsrc:=huo.2.2.2.src
 (refine rg ?_;(conv=>whnf);refine aF ?_;refine rg ?_;conv=>whnf)
 refine Ah q1 F224 E E E E E ?_
 refine rg ?_;conv=>whnf
 refine⟨fun h=>?_,fun h=>?_⟩
 ·rw[if_pos (by simpa using h)]at hres
  subst hres
  refine rg ?_;conv=>whnf
  refine Av 6 zF E (.cons (.refl _) (.cons (.refl _) (.cons (.refl _) (.cons .nil .nil)))) ?_
  exact Ac E (.cons .tmp (.cons .tmp (.cons (.cell E E E E) (.cons .tmp .nil)))) E E
 rw[if_neg (by simpa using h)]at hres
 clear h
 have q2:=Ahp n hn hbn src dst vni
 generalize endsT n src dst vni=en at *
 obtain ⟨fr,dom⟩:=en
 dsimp only at hres q2
 refine rg ?_;conv=>whnf
 refine Ah q2 F225 E E E E E ?_
 refine rg ?_;conv=>whnf
 refine⟨fun h=>?_,fun h=>?_⟩
 ·rw[if_pos (of_decide_eq_true h)]at hres
  subst hres
  refine rg ?_;conv=>whnf
  refine Av 6 zF E (.cons (.refl _) (.cons (.refl _) (.cons (.refl _) (.cons .nil .nil)))) ?_
  exact Ac E (.cons .tmp (.cons .tmp (.cons (.cell E E E E) (.cons .tmp .nil)))) E E
 rw[if_neg (of_decide_eq_false h)]at hres
 clear h
 have qg:=I7 f.src qn
 refine rg ?_;conv=>whnf
 refine Ah qg F77 E E E E E ?_
 cases hg:D1 f.src
 rotate_left
 ·rw[if_pos hg]at hres
  subst hres
  (refine rg ?_;(conv=>whnf);refine aT ?_;refine rg ?_;conv=>whnf)
  refine Av 6 zF E (.cons (.refl _) (.cons (.refl _) (.cons (.refl _) (.cons .nil .nil)))) ?_
  exact Ac E (.cons .tmp (.cons .tmp (.cons (.cell E E E E) (.cons .tmp .nil)))) E E
 rw[if_neg (by rw[hg];decide)]at hres
 subst hres
 (refine rg ?_;(conv=>whnf);refine aF ?_;refine rg ?_;conv=>whnf)
 refine⟨qy,?_⟩
 conv=>whnf
 exact Ac E (.cons .tmp (.cons .tmp (.cons (.cell E E E E) (.cons .tmp .nil)))) E E
end Go.Sy.YtmelpejjondedaaGreat
namespace Go.Sy.YtmelpejjondedaaGreat
open Go.Proofs
set_option maxRecDepth 20000
set_option maxHeartbeats 4000000
theorem Amj {x:Int} (h0:0≤x) (h1:x<4294967297):IntKind.i64.wrap x=x:=by
 rw[IntKind.wrap_i64];omega
theorem Alh (b:Int) (h:0≤b∧b≤32):Aes b=((2 ^ (32-b).toNat-1:Nat):Int):=by
 obtain ⟨k,hk,hk2⟩:∃ k:Nat,(32-b).toNat=k∧k≤32:=⟨_,rfl,by omega⟩
 have h1:min (32-b).toNat IntKind.u32.bits=k:=by show min (32-b).toNat 32=k;omega
 have hp:=Nat.pow_le_pow_right (n:=2) qz hk2
 have e32:(2:Nat) ^ 32=4294967296:=rfl
 rw[e32]at hp
 have h0:=Nat.one_le_two_pow (n:=k)
 rw[Aes,h1,hk,IntKind.wrap_u32,IntKind.wrap_u32,show (2:Int) ^ k=((2 ^ k:Nat):Int) by rw[Int.natCast_pow];rfl]
 generalize 2 ^ k=q at *
 omega
theorem Apo (a b x:Int) (hb:0≤b∧b≤32) (ha:0≤a∧a<4294967296) (hx:0≤x∧x<4294967296):Aad a b x=true↔Jl a b≤x∧x≤lastI a b:=by
 obtain ⟨a,rfl⟩:=Int.eq_ofNat_of_zero_le ha.1
 obtain ⟨x,rfl⟩:=Int.eq_ofNat_of_zero_le hx.1
 obtain ⟨k,hk,hk2⟩:∃ k:Nat,(32-b).toNat=k∧k≤32:=⟨_,rfl,by omega⟩
 have h0:=Nat.one_le_two_pow (n:=k)
 rw[Aad,Alh b hb,hk,masked a x k qn qn hk2,decide_eq_true_iff,Ala a x (2 ^ k) qn,Mr a k b hb hk,Abi a k b hb hk]
 omega
theorem Apd (a b:Int) (ha:0≤a∧a<4294967296):0≤lastI a b∧lastI a b<4294967296:=by
 by_cases hb:0≤b∧b≤32
 ·obtain ⟨a,rfl⟩:=Int.eq_ofNat_of_zero_le ha.1
  obtain ⟨k,hk,hk2⟩:∃ k:Nat,(32-b).toNat=k∧k≤32:=⟨_,rfl,by omega⟩
  have h0:=Nat.one_le_two_pow (n:=k)
  rw[Abi a k b hb hk]
  have hd:a-a % 2 ^ k=2 ^ k * (a / 2 ^ k):=by have:=Nat.div_add_mod a (2 ^ k);omega
  have h32:2 ^ k * 2 ^ (32-k)=4294967296:=by
   rw[← Nat.pow_add,show k+(32-k)=32 by omega]
  have:a / 2 ^ k<2 ^ (32-k):=by rw[Nat.div_lt_iff_lt_mul qn,Nat.mul_comm,h32];omega
  have:2 ^ k * (a / 2 ^ k)+2 ^ k≤2 ^ k * 2 ^ (32-k):=by
   rw[← Nat.mul_succ];exact Nat.mul_le_mul_left _ this
  omega
 ·rw[lastI,if_neg hb];omega
theorem Amq (a b:Int) (ha:0≤a∧a<4294967296):0≤Jl a b∧Jl a b<4294967296:=by
 by_cases hb:0≤b∧b≤32
 ·obtain ⟨a,rfl⟩:=Int.eq_ofNat_of_zero_le ha.1
  rw[Mr a _ b hb rfl]
  omega
 ·rw[Jl,if_neg hb];omega
end Go.Sy.YtmelpejjondedaaGreat
namespace Go.Sy.YtmelpejjondedaaGreat
open Go.Proofs
attribute [local irreducible] Go.Sy.G Go.Sy.DR
set_option maxRecDepth 20000
set_option maxHeartbeats 8000000
theorem Aof (a:Nat) (bits:Int) (ha:a<4294967296):Sy.Spec Tryz.prog 326 [Ls a bits] [] (B6 (lastI a bits)) []:=Ab Γ hm 100 F326 Tryz.ntmps326 rfl fun F hF=>by
 have hr:=Ld a bits
 have hl:=lastI.eq_1 a bits
 by_cases hb:0≤bits∧bits≤32
 ·have hf:=Aa0 a bits ha
  have hs:=Aeu a bits hb
  have hle:=Amq a bits ⟨by omega,by omega⟩
  have hll:=Apd a bits ⟨by omega,by omega⟩
  rw[decide_eq_true hb]at hr
  rw[if_pos hb]at hl
  obtain ⟨k,hk,hk2⟩:∃ k:Nat,(32-bits).toNat=k∧k≤32:=⟨_,rfl,by omega⟩
  have h1:=Nat.one_le_two_pow (n:=k)
  have hp:2 ^ k≤2 ^ 32:=Nat.pow_le_pow_right qz hk2
  have e32:(2:Nat) ^ 32=4294967296:=rfl
  rw[e32]at hp
  rw[hk]at hs hl
  rw[show (2:Int) ^ k=((2 ^ k:Nat):Int) by rw[Int.natCast_pow];rfl]at hl
  generalize 2 ^ k=q at *
  generalize Jl a bits=f at *
  generalize lastI a bits=l at *
  conv=>whnf
  refine Bg 1 2 (Ls a bits) E E E ?_
  refine rg ?_;conv=>whnf
  refine Ah hr F324 E E E E E ?_
  (refine rg ?_;(conv=>whnf);refine aF ?_;refine rg ?_;conv=>whnf)
  refine Au hf F325 E E E qy E ?_
  refine rd qy ?_;conv=>whnf
  refine Au hs F341 E E E qy E ?_
  refine rd qy ?_;conv=>whnf
  rw[Amj hle.1 qn]
  refine⟨by unfold I64;omega,?_⟩
  conv=>whnf
  refine⟨by unfold I64;omega,?_⟩
  conv=>whnf
  refine⟨qy,?_⟩
  conv=>whnf
  refine Ac E (.cons .tmp .nil) (congrArg (fun z=>SV.val (.int .u32 z)) ?_) E
  rw[IntKind.wrap_u32]
  omega
 ·rw[if_neg hb]at hl
  rw[hl]
  rw[decide_eq_false hb]at hr
  conv=>whnf
  refine Bg 1 2 (Ls a bits) E E E ?_
  refine rg ?_;conv=>whnf
  refine Ah hr F324 E E E E E ?_
  (refine rg ?_;(conv=>whnf);refine aT ?_;refine rg ?_;conv=>whnf)
  exact Ac E (.cons .tmp .nil) E E
theorem Aq9 (a b x:Int) (hb:0≤b∧b≤32) (ha:0≤a∧a<4294967296) (hx:0≤x∧x<4294967296):Sy.Spec Tryz.prog 270 [Ae9 a b,B6 x] [] (Ad (Aad a b x)) []:=Ab Γ hm 100 F270 Tryz.ntmps270 rfl fun F hF=>by
 have hi:=Apo a b x hb ha hx
 generalize Aad a b x=r at *
 obtain ⟨y,hy⟩:=Int.eq_ofNat_of_zero_le ha.1
 have hr:=Ld a b
 have hf:=Aa0 y b qn
 have hl:=Aof y b qn
 rw[decide_eq_true hb]at hr
 rw[← hy]at hf hl
 generalize Jl a b=f at *
 generalize lastI a b=l at *
 conv=>whnf
 refine Bg 2 2 (Ae9 a b) E E E ?_
 refine rg ?_;conv=>whnf
 refine Ah hr F324 E E E E E ?_
 (refine rg ?_;(conv=>whnf);refine aT ?_;refine rg ?_;conv=>whnf)
 refine Ah hf F325 E E E E E ?_
 refine rg ?_;conv=>whnf
 refine⟨fun h=>?_,fun h=>?_⟩
 ·have h1:f≤x:=of_decide_eq_true h
  refine rg ?_;conv=>whnf
  refine Ah hl F326 E E E E E ?_
  refine rg ?_;conv=>whnf
  refine Ac E (.cons .tmp .nil) (congrArg Ad ?_) E
  cases r
  ·refine(decide_eq_false (fun h2=>?_)).symm
   simpa using hi.2 ⟨h1,h2⟩
  ·exact(decide_eq_true (hi.1 E).2).symm
 ·have h1:¬ f≤x:=of_decide_eq_false h
  refine rg ?_;conv=>whnf
  refine Ac E (.cons .tmp .nil) (congrArg Ad ?_) E
  cases r
  ·rfl
  ·exact absurd (hi.1 E).1 h1
theorem Aln (n:Net) (hn:n.Fin) (i k:Int) (hi:0≤i∧i.toNat<n.vrfs.length) (hk:0≤k∧k.toNat<n.vrfs.length) :
  Sy.Spec Tryz.prog 271 [Ap n,Aa i,Aa k] [] (Ad (leaksB n i k)) []:=Ab Γ hm 100 F271 Tryz.ntmps271 rfl fun F hF=>by
 have hp1:=A6 i n.vrfs.length
 have hp2:=A6 k n.vrfs.length
 rw[Cg ⟨hi.1,by omega⟩]at hp1
 rw[Cg ⟨hk.1,by omega⟩]at hp2
 have him:=hn.imports _ (List.getElem_mem hk.2)
 have hex:=hn.exports _ (List.getElem_mem hi.2)
 unfold Ar at hex
 have hlk:=leaksB.eq_1 n i k
 rw[Ao hi.2,Ao hk.2,Y9]at hlk
 generalize leaksB n i k=res at *
 conv=>whnf
 refine Bg 3 8 (Ap n) E E E ?_
 refine rg ?_;conv=>whnf
 refine Ah hp1 F35 E E E E E ?_
 (refine rg ?_;(conv=>whnf);refine aF ?_;refine rg ?_;conv=>whnf)
 refine Ah hp2 F35 E E E E E ?_
 (refine rg ?_;(conv=>whnf);refine aF ?_;refine rg ?_;conv=>whnf)
 refine⟨fun h=>?_,fun h=>?_⟩
 ·rw[h,Bool.true_or]at hlk
  subst hlk
  refine rg ?_;conv=>whnf
  exact Ac E (.cons .tmp .nil) E E
 rw[h,Bool.false_or]at hlk
 refine rg ?_;conv=>whnf
 refine A2 (n.vrfs[i.toNat]'hi.2).exports.length (fun j=>∀ q (hq:q<(n.vrfs[i.toNat]'hi.2).exports.length),q<j→((n.vrfs[i.toNat]'hi.2).dev == (n.vrfs[k.toNat]'hk.2).dev && inB (n.vrfs[k.toNat]'hk.2).imports (n.vrfs[i.toNat]'hi.2).exports[q])=false) (fun j=>[(1,Aa i),(2,Aa k),(3,.ref 8 (Ap n) 0),(7,Aa j)]) (fun _=>[]) [] (fun q _ h=>absurd h qn) ⟨⟨E,E,E,E,E,E,E,E,Y⟩,Y,E,E⟩ ?_
 intro j hj hI
 refine rg ?_;conv=>whnf
 refine⟨E,hi.1,hi.2,?_⟩
 conv=>whnf
 refine⟨fun h=>?_,fun h=>?_⟩
 ·have hlt:j<(n.vrfs[i.toNat]'hi.2).exports.length:=by simpa using h
  have hj0:((j:Nat):Int).toNat<(n.vrfs[i.toNat]'hi.2).exports.length:=by simpa using hlt
  have hin:=Et (n.vrfs[k.toNat]'hk.2).imports ((n.vrfs[i.toNat]'hi.2).exports[((j:Nat):Int).toNat]'hj0) him
  have hnx:((n.vrfs[i.toNat]'hi.2).dev == (n.vrfs[k.toNat]'hk.2).dev && inB (n.vrfs[k.toNat]'hk.2).imports ((n.vrfs[i.toNat]'hi.2).exports[((j:Nat):Int).toNat]'hj0))=false→∀ q (hq:q<(n.vrfs[i.toNat]'hi.2).exports.length),q<j+1→((n.vrfs[i.toNat]'hi.2).dev == (n.vrfs[k.toNat]'hk.2).dev && inB (n.vrfs[k.toNat]'hk.2).imports (n.vrfs[i.toNat]'hi.2).exports[q])=false:=fun hz q hq hqj=>by
   rcases Nat.lt_or_ge q j with h1 | h1
   ·exact hI q hq h1
   ·have:q=j:=by omega
    subst this;exact hz
  refine rg ?_;conv=>whnf
  refine⟨E,hi.1,hi.2,?_⟩
  conv=>whnf
  refine⟨E,hk.1,hk.2,?_⟩
  conv=>whnf
  refine⟨fun h=>?_,fun h=>?_⟩
  ·have hdv:=h
   rw[h,Bool.true_and]at hlk
   refine rd qy ?_;conv=>whnf
   refine⟨E,hk.1,hk.2,?_⟩
   conv=>whnf
   refine⟨E,hi.1,hi.2,?_⟩
   conv=>whnf
   refine⟨E,by omega,hj0,?_⟩
   conv=>whnf
   refine Au hin F142 E E E qy E ?_
   refine rd qy ?_;conv=>whnf
   refine⟨qy,?_⟩
   conv=>whnf
   refine⟨fun h=>?_,fun h=>?_⟩
   ·have e:(n.vrfs[i.toNat]'hi.2).exports.any (inB (n.vrfs[k.toNat]'hk.2).imports)=true:=List.any_eq_true.2 ⟨_,List.getElem_mem hlt,h⟩
    rw[e]at hlk
    subst hlk
    refine rg ?_;conv=>whnf
    exact Ac E (.cons .tmp .nil) E E
   ·refine rg ?_;conv=>whnf
    refine⟨by unfold I64;omega,?_⟩
    conv=>whnf
    exact Aw [] hI qn (hnx (by rw[hdv,h];rfl)) ⟨⟨E,E,E,E,E,E,E,E,Y⟩,Y,E,E⟩
  ·have hdv:=h
   rw[h,Bool.false_and]at hlk
   refine rd qy ?_;conv=>whnf
   refine⟨qy,?_⟩
   ((conv=>whnf);refine aF ?_;refine rg ?_;conv=>whnf)
   refine⟨by unfold I64;omega,?_⟩
   conv=>whnf
   exact Aw [] hI qn (hnx (by rw[hdv];rfl)) ⟨⟨E,E,E,E,E,E,E,E,Y⟩,Y,E,E⟩
 ·have:j=(n.vrfs[i.toNat]'hi.2).exports.length:=by have:=of_decide_eq_false h;omega
  subst this
  have e:((n.vrfs[i.toNat]'hi.2).dev == (n.vrfs[k.toNat]'hk.2).dev && (n.vrfs[i.toNat]'hi.2).exports.any (inB (n.vrfs[k.toNat]'hk.2).imports))=false:=by
   cases hd:(n.vrfs[i.toNat]'hi.2).dev == (n.vrfs[k.toNat]'hk.2).dev
   ·rfl
   ·rw[Bool.true_and,List.any_eq_false]
    intro x hx
    obtain ⟨q,hq,rfl⟩:=List.getElem_of_mem hx
    have:=hI q hq hq
    rw[hd,Bool.true_and]at this
    simp[this]
  rw[e]at hlk
  subst hlk
  refine rg ?_;conv=>whnf
  exact Ac E (.cons .tmp .nil) E E
theorem X9 (n:Net) (hb:Ag n=true) (i:Int) (hi:InIrbs n i):Sy.Spec Tryz.prog 269 [Ap n,Aa i] [] (Aa (D0 n i)) []:=Ab Γ hm 100 F269 Tryz.ntmps269 rfl fun F hF=>by
 have hf:=(Da hb hi.2).1
 rw[D0,Ao hi.2,Ao hf.2]
 obtain ⟨x,hx⟩:∃ x,n.irbs[i.toNat]'hi.2=x:=⟨_,rfl⟩
 have hf2:(0≤x.domain∧x.domain.toNat<n.domains.length):=by rw[← hx];exact hf
 have e:n.domains[(n.irbs[i.toNat]'hi.2).domain.toNat]'hf.2=n.domains[x.domain.toNat]'hf2.2:=by simp only[hx]
 rw[e]
 obtain ⟨d,hd⟩:∃ d,n.domains[x.domain.toNat]'hf2.2=d:=⟨_,rfl⟩
 rw[hd]
 conv=>whnf
 refine⟨E,hi.1,hi.2,?_⟩
 rw[hx]
 conv=>whnf
 refine⟨E,hf2.1,hf2.2,?_⟩
 rw[hd]
 conv=>whnf
 refine⟨qy,?_⟩
 conv=>whnf
 exact Ac E (.cons .tmp .nil) E E
theorem Ahk (n:Net) (irb a b:Int) (hk:InIrbs n irb) (ha:InIrbs n a) (hb:InIrbs n b) :
  Sy.Spec Tryz.prog 272 [Ap n,Aa irb,Aa a,Aa b] [] (Ad (decide (0<cmpR n irb a b))) []:=Ab Γ hm 100 F272 Tryz.ntmps272 rfl fun F hF=>by
 have hc:=cmpR.eq_1 n irb a b
 unfold Z6 at hc
 rw[Ao hk.2,Ao ha.2,Ao hb.2]at hc
 generalize cmpR n irb a b=r at *
 conv=>whnf
 refine⟨E,ha.1,ha.2,?_⟩
 conv=>whnf
 refine⟨E,hb.1,hb.2,?_⟩
 conv=>whnf
 refine⟨qy,?_⟩
 conv=>whnf
 refine⟨fun h=>?_,fun h=>?_⟩
 ·have h1:(n.irbs[a.toNat]'ha.2).bits≠(n.irbs[b.toNat]'hb.2).bits:=by simpa using h
  rw[if_pos h1]at hc
  subst hc
  refine rg ?_;conv=>whnf
  refine⟨E,ha.1,ha.2,?_⟩
  conv=>whnf
  refine⟨E,hb.1,hb.2,?_⟩
  conv=>whnf
  refine⟨qy,?_⟩
  conv=>whnf
  refine Ac E (.cons .tmp .nil) (congrArg Ad ?_) E
  refine decide_eq_decide.2 ?_
  omega
 ·have h1:¬ (n.irbs[a.toNat]'ha.2).bits≠(n.irbs[b.toNat]'hb.2).bits:=by simpa using h
  rw[if_neg h1]at hc
  refine rg ?_;conv=>whnf
  refine⟨E,ha.1,ha.2,?_⟩
  conv=>whnf
  refine⟨E,hk.1,hk.2,?_⟩
  conv=>whnf
  refine⟨fun h=>?_,fun h=>?_⟩
  ·have h2:(n.irbs[a.toNat]'ha.2).vrf=(n.irbs[irb.toNat]'hk.2).vrf:=by simpa using h
   rw[if_pos h2]at hc
   refine rd qy ?_;conv=>whnf
   refine⟨E,hb.1,hb.2,?_⟩
   conv=>whnf
   refine⟨E,hk.1,hk.2,?_⟩
   conv=>whnf
   refine⟨qy,?_⟩
   conv=>whnf
   refine Ac E (.cons .tmp .nil) (congrArg Ad ?_) E
   subst hc
   split<;>simp_all
  ·have h2:¬ (n.irbs[a.toNat]'ha.2).vrf=(n.irbs[irb.toNat]'hk.2).vrf:=by simpa using h
   rw[if_neg h2]at hc
   refine rd qy ?_;conv=>whnf
   refine⟨qy,?_⟩
   conv=>whnf
   refine Ac E (.cons .tmp .nil) (congrArg Ad ?_) E
   subst hc
   split<;>simp_all
def Ey (c:Int→Int→Int) (l:List Int):Int:=if l=[] then -1 else Q5 c l (l.length-1)
theorem Afi (c:Int→Int→Int) (l:List Int) (x:Int) (j:Nat) (h:j+1≤l.length):Q5 c (l++[x]) j=Q5 c l j:=by
 rw[Q5,Q5,List.drop_append_of_le_length qn,List.take_append_of_le_length (by simp;omega)]
 congr 1
 cases l with
 | nil=>simp at h
 | cons a l=>rfl
theorem Ajk (c:Int→Int→Int) (l:List Int) (x:Int) (h:l≠[]):Ey c (l++[x])=if 0<c x (Ey c l) then x else Ey c l:=by
 have hl:0<l.length:=List.length_pos_iff.2 h
 rw[Ey,if_neg za,Ey,if_neg h]
 have e:(l++[x]).length-1=(l.length-1)+1:=by simp;omega
 rw[e,Vt c (l++[x]) (l.length-1) (by simp;omega),Afi c l x (l.length-1) qn]
 have e2:(l++[x])[l.length-1+1]'(by simp;omega)=x:=by
  have:l.length-1+1=l.length:=by omega
  simp[this]
 rw[e2]
theorem Am3 (c:Int→Int→Int) (x:Int):Ey c [x]=x:=by
 rw[Ey,if_neg za];rfl
theorem Ab2 (c:Int→Int→Int) (l:List Int) (h:l≠[]):Ey c l∈l:=by
 have hl:0<l.length:=List.length_pos_iff.2 h
 rw[Ey,if_neg h]
 exact Un c l hl _ qn
theorem filtI_in {p:Nat→Bool} {j:Nat} {x:Int} (h:x∈El p j):0≤x∧x<j:=by
 have:=filtI_mem.1 h
 omega
theorem Aij {n:Net} {irb dst:Int} (h:∀ i,i<n.irbs.length→Ho n irb dst i=false) :
  lookT n irb dst=if Lj n irb dst=[] then (0,false) else (Ey (cmpR n irb) (Lj n irb dst),true):=by
 have:¬ (List.range n.irbs.length).any (Ho n irb dst)=true:=fun ha=>by
  obtain ⟨i,hi,ht⟩:=List.any_eq_true.1 ha
  rw[h i (List.mem_range.1 hi)]at ht
  cases ht
 rw[lookT,if_neg this]
 split
 ·rfl
 ·rename_i hw
  rw[Ey,if_neg hw]
set_option maxHeartbeats 16000000 in
theorem Ahj (n:Net) (hn:n.Fin) (hb:Ag n=true) (hu:Addrs n) (irb dst:Int) (hk:InIrbs n irb) (hd:0≤dst∧dst<4294967296) :
  Sy.Spec Tryz.prog 216 [Ap n,Aa irb,B6 dst] [] (.tup [Aa (lookT n irb dst).1,Ad (lookT n irb dst).2]) []:=Ab Γ hm 100 F216 Tryz.ntmps216 rfl fun F hF=>by
 have hp:=A6 irb n.irbs.length
 rw[Cg ⟨hk.1,by have:=hk.2;omega⟩]at hp
 have hlk:=Aij (n:=n) (irb:=irb) (dst:=dst)
 have hlk0:=lookT.eq_1 n irb dst
 have hwl:Lj n irb dst=El (Kq n irb dst) n.irbs.length:=rfl
 generalize lookT n irb dst=res at *
 have hsi:=hn.irbs
 unfold Ar at hsi
 have qk:=X9 n hb irb hk
 have hfk:=(Da hb hk.2).2.1
 conv=>whnf
 refine Bg 3 8 (Ap n) E E E ?_
 refine rg ?_;conv=>whnf
 refine Ah hp F35 E E E E E ?_
 (refine rg ?_;(conv=>whnf);refine aF ?_;refine rg ?_;conv=>whnf)
 refine A2 n.irbs.length (fun j=>∀ i,i<j→Ho n irb dst i=false) (fun j=>[(1,Aa irb),(2,B6 dst),(3,.ref 8 (Ap n) 0),(8,Aa (Ey (cmpR n irb) (El (Kq n irb dst) j))),(9,Aa j)]) (fun _=>[]) [] (fun i hi=>absurd hi qn) ⟨⟨E,E,E,E,E,E,E,E,E,E,Y⟩,Y,E,E⟩ ?_
 intro j hj hI
 refine rg ?_;conv=>whnf
 refine⟨fun h=>?_,fun h=>?_⟩
 ·have hlt:j<n.irbs.length:=by simpa using h
  have hj0:((j:Nat):Int).toNat<n.irbs.length:=by simpa using hlt
  have hij:InIrbs n (j:Int):=⟨by omega,hj0⟩
  have qj:=X9 n hb j hij
  have hsucc:=Ms (Kq n irb dst) j
  have hta:Ho n irb dst j=(D0 n j == D0 n irb && (nth n.irbs j).addr == dst):=rfl
  have hwa:Kq n irb dst j=(Aad (nth n.irbs j).addr (nth n.irbs j).bits dst && Aax n irb j):=rfl
  have hse:Aax n irb j=(D0 n irb == D0 n j && leaksB n (nth n.irbs j).vrf (nth n.irbs irb).vrf):=rfl
  have enj:nth n.irbs (j:Int)=n.irbs[((j:Nat):Int).toNat]'hj0:=Ao (l:=n.irbs) (i:=(j:Int)) hj0
  rw[enj]at hta hwa hse
  rw[Ao hk.2]at hse
  have hfj:=Da hb hj0
  have hua:=hu _ (List.getElem_mem hj0)
  have q1:=Aq9 (n.irbs[((j:Nat):Int).toNat]'hj0).addr (n.irbs[((j:Nat):Int).toNat]'hj0).bits dst hfj.2.2 hua hd
  have q2:=Aln n hn (n.irbs[((j:Nat):Int).toNat]'hj0).vrf (n.irbs[irb.toNat]'hk.2).vrf hfj.2.1 hfk
  have hnx:Ho n irb dst j=false→∀ i,i<j+1→Ho n irb dst i=false:=fun hz i hi=>by
   rcases Nat.lt_or_ge i j with h1 | h1
   ·exact hI i h1
   ·have:i=j:=by omega
    subst this;exact hz
  have hbs:=Ajk (cmpR n irb) (El (Kq n irb dst) j) j
  have hbm:=Ab2 (cmpR n irb) (El (Kq n irb dst) j)
  have hbi:=fun x=>@filtI_in (Kq n irb dst) j x
  have hbo:=Am3 (cmpR n irb) j
  have hbn:Ey (cmpR n irb) []=-1:=rfl
  generalize El (Kq n irb dst) j=u at *
  refine rg ?_;conv=>whnf
  refine Au qj F269 E E E qy E ?_
  refine rd qy ?_;conv=>whnf
  refine Au qk F269 E E E qy E ?_
  refine rd qy ?_;conv=>whnf
  refine⟨qy,?_⟩
  conv=>whnf
  refine⟨fun h2=>?_,fun h2=>?_⟩
  ·have h3:D0 n j≠D0 n irb:=by simpa using h2
   have e1:Ho n irb dst j=false:=by rw[hta];simp[h3]
   have e2:Kq n irb dst j=false:=by rw[hwa,hse];simp[Ne.symm h3]
   rw[if_neg (by rw[e2];simp)]at hsucc
   refine rg ?_;conv=>whnf
   refine⟨by unfold I64;omega,?_⟩
   conv=>whnf
   exact Aw [] hI qn (hnx e1) ⟨⟨E,E,E,E,E,E,congrArg (fun z=>Aa (Ey (cmpR n irb) z)) hsucc,E,E,E,Y⟩,Y,E,E⟩
  have h3:D0 n j=D0 n irb:=by simpa using h2
  refine rg ?_;conv=>whnf
  refine⟨E,hij.1,hj0,?_⟩
  conv=>whnf
  refine⟨fun h4=>?_,fun h4=>?_⟩
  ·have e1:Ho n irb dst j=true:=by rw[hta,h3,h4];simp
   rw[if_pos (List.any_eq_true.2 ⟨j,List.mem_range.2 hlt,e1⟩)]at hlk0
   subst hlk0
   refine rg ?_;conv=>whnf
   exact Ac E (.cons .tmp (.cons .tmp .nil)) E E
  have e1:Ho n irb dst j=false:=by rw[hta,h4];simp
  obtain ⟨hv,hhv⟩:∃ hv,Aad (n.irbs[((j:Nat):Int).toNat]'hj0).addr (n.irbs[((j:Nat):Int).toNat]'hj0).bits dst=hv:=⟨_,rfl⟩
  obtain ⟨lv,hlv⟩:∃ lv,leaksB n (n.irbs[((j:Nat):Int).toNat]'hj0).vrf (n.irbs[irb.toNat]'hk.2).vrf=lv:=⟨_,rfl⟩
  rw[hhv]at q1 hwa
  rw[hlv]at q2 hse
  cases hv
  ·rw[if_neg (by rw[hwa];simp)]at hsucc
   refine rg ?_;conv=>whnf
   refine⟨E,hij.1,hj0,?_⟩
   conv=>whnf
   refine Au q1 F270 E E E qy E ?_
   (refine rd qy ?_;(conv=>whnf);refine aT ?_;refine rd qy ?_;conv=>whnf)
   refine⟨qy,?_⟩
   ((conv=>whnf);refine aT ?_;refine rg ?_;conv=>whnf)
   refine⟨by unfold I64;omega,?_⟩
   conv=>whnf
   exact Aw [] hI qn (hnx e1) ⟨⟨E,E,E,E,E,E,congrArg (fun z=>Aa (Ey (cmpR n irb) z)) hsucc,E,E,E,Y⟩,Y,E,E⟩
  cases lv
  ·rw[if_neg (by rw[hwa,hse];simp)]at hsucc
   refine rg ?_;conv=>whnf
   refine⟨E,hij.1,hj0,?_⟩
   conv=>whnf
   refine Au q1 F270 E E E qy E ?_
   (refine rd qy ?_;(conv=>whnf);refine aF ?_;refine rd qy ?_;conv=>whnf)
   refine⟨E,hij.1,hj0,?_⟩
   conv=>whnf
   refine⟨E,hk.1,hk.2,?_⟩
   conv=>whnf
   refine Au q2 F271 E E E qy E ?_
   refine rd qy ?_;conv=>whnf
   refine⟨qy,?_⟩
   ((conv=>whnf);refine aT ?_;refine rg ?_;conv=>whnf)
   refine⟨by unfold I64;omega,?_⟩
   conv=>whnf
   exact Aw [] hI qn (hnx e1) ⟨⟨E,E,E,E,E,E,congrArg (fun z=>Aa (Ey (cmpR n irb) z)) hsucc,E,E,E,Y⟩,Y,E,E⟩
  rw[if_pos (by rw[hwa,hse,h3];simp)]at hsucc
  refine rg ?_;conv=>whnf
  refine⟨E,hij.1,hj0,?_⟩
  conv=>whnf
  refine Au q1 F270 E E E qy E ?_
  (refine rd qy ?_;(conv=>whnf);refine aF ?_;refine rd qy ?_;conv=>whnf)
  refine⟨E,hij.1,hj0,?_⟩
  conv=>whnf
  refine⟨E,hk.1,hk.2,?_⟩
  conv=>whnf
  refine Au q2 F271 E E E qy E ?_
  refine rd qy ?_;conv=>whnf
  refine⟨qy,?_⟩
  ((conv=>whnf);refine aF ?_;refine rg ?_;conv=>whnf)
  refine⟨fun h=>?_,fun h=>?_⟩
  ·have hlt0:Ey (cmpR n irb) u<0:=of_decide_eq_true h
   have hne:u=[]:=Classical.byContradiction fun hne=>by have:=hbi _ (hbm hne);omega
   subst hne
   (refine rg ?_;(conv=>whnf);refine aT ?_;refine rg ?_;conv=>whnf)
   refine⟨by unfold I64;omega,?_⟩
   conv=>whnf
   exact Aw [] hI qn (hnx e1) ⟨⟨E,E,E,E,E,E,congrArg Aa (by rw[hsucc];exact hbo),E,E,E,Y⟩,Y,E,E⟩
  have hge0:¬ Ey (cmpR n irb) u<0:=of_decide_eq_false h
  have hne:u≠[]:=fun e=>by rw[e]at hge0;exact hge0 (by rw[hbn];omega)
  have hbe:=hbi _ (hbm hne)
  have hbs2:=hbs hne
  rw[← hsucc]at hbs2
  have hbI:InIrbs n (Ey (cmpR n irb) u):=⟨hbe.1,by omega⟩
  have q3:=Ahk n irb j (Ey (cmpR n irb) u) hk hij hbI
  generalize Ey (cmpR n irb) u=b at *
  refine rg ?_;conv=>whnf
  refine Ah q3 F272 E E E E E ?_
  by_cases hc:0<cmpR n irb j b
  ·rw[if_pos hc]at hbs2
   rw[decide_eq_true hc]
   (refine rg ?_;(conv=>whnf);refine aT ?_;refine rg ?_;conv=>whnf)
   refine⟨by unfold I64;omega,?_⟩
   conv=>whnf
   exact Aw [] hI qn (hnx e1) ⟨⟨E,E,E,E,E,E,congrArg Aa hbs2,E,E,E,Y⟩,Y,E,E⟩
  ·rw[if_neg hc]at hbs2
   rw[decide_eq_false hc]
   (refine rg ?_;(conv=>whnf);refine aF ?_;refine rg ?_;conv=>whnf)
   refine⟨by unfold I64;omega,?_⟩
   conv=>whnf
   exact Aw [] hI qn (hnx e1) ⟨⟨E,E,E,E,E,E,congrArg Aa hbs2,E,E,E,Y⟩,Y,E,E⟩
 ·have hje:j=n.irbs.length:=by have:=of_decide_eq_false h;omega
  subst hje
  have hlk2:=hlk (fun i hi=>hI i hi)
  rw[hwl]at hlk2
  have hbm:=Ab2 (cmpR n irb) (El (Kq n irb dst) n.irbs.length)
  have hbi:=fun x=>@filtI_in (Kq n irb dst) n.irbs.length x
  have hbn:Ey (cmpR n irb) []=-1:=rfl
  generalize El (Kq n irb dst) n.irbs.length=u at *
  by_cases hne:u=[]
  ·rw[if_pos hne]at hlk2
   subst hlk2 hne
   rw[hbn]
   (refine rg ?_;(conv=>whnf);refine aT ?_;refine rg ?_;conv=>whnf)
   exact Ac E (.cons .tmp (.cons .tmp .nil)) E E
  rw[if_neg hne]at hlk2
  have hbe:=hbi _ (hbm hne)
  generalize Ey (cmpR n irb) u=b at *
  subst hlk2
  refine rg ?_;conv=>whnf
  refine⟨fun h=>absurd (of_decide_eq_true h) qn,fun _=>?_⟩
  refine rg ?_;conv=>whnf
  exact Ac E (.cons .tmp (.cons .tmp .nil)) E E
end Go.Sy.YtmelpejjondedaaGreat
namespace Go.Sy.YtmelpejjondedaaGreat
open Go.Proofs
attribute [local irreducible] Go.Sy.G Go.Sy.DR
set_option maxRecDepth 100000
set_option maxHeartbeats 4000000
theorem Akk {n:Net} (hb:Ag n=true) {d:Int} (hd:DomIn n d) (hi:0≤(n.domains[d.toNat]'hd.2).irb) :
  ∃ h:(n.domains[d.toNat]'hd.2).irb.toNat<n.irbs.length,(n.irbs[(n.domains[d.toNat]'hd.2).irb.toNat]'h).domain=d:=by
 simp only[Ag,Bool.and_eq_true]at hb
 have:=allB_iff.1 hb.1.1.1.1.1.1.1.2 _ hd.2
 simp only[Io,Bool.and_eq_true,Bool.or_eq_true,beq_iff_eq]at this
 have h2:=this.1.2
 rcases h2 with h2 | ⟨h2,h3⟩
 ·omega
 ·have h4:=Bd h2
  have h5:(n.domains[d.toNat]'hd.2).irb.toNat<n.irbs.length:=by omega
  rw[Ao h5]at h3
  have:=hd.1
  exact⟨h5,by omega⟩
theorem Arw {n:Net} (hb:Ag n=true) {i:Nat} (hi:i<n.irbs.length):(nth n.domains (n.irbs[i]'hi).domain).irb=(i:Int):=by
 have:=Ast hb hi
 simp only[Vy,Bool.and_eq_true,beq_iff_eq]at this
 exact this.1.1.2
theorem Adz (n:Net) (hn:n.Fin) (hm0:n.Num) (dom:Int) (m:Nat) :
  Sy.Spec Tryz.prog 173 [Ap n,Aa dom,Az m] [] (.tup [Aa (routerT n dom m).1,Ad (routerT n dom m).2]) []:=Ab Γ hm 100 F173 Tryz.ntmps173 rfl fun F hF=>by
 have hres:=routerT.eq_1 n dom m
 generalize routerT n dom m=res at *
 have hr:=B5 n hn
 conv=>whnf
 refine⟨fun h=>?_,fun h=>?_⟩
 ·have hp:Al dom n.domains.length=false:=by
   cases hx:Al dom n.domains.length
   ·rfl
   ·have:=Bd hx;have:=of_decide_eq_true h;omega
  rw[if_pos (.inl hp)]at hres
  subst hres
  (refine rg ?_;(conv=>whnf);refine aT ?_;refine rg ?_;(conv=>whnf);refine aT ?_;refine rg ?_;conv=>whnf)
  exact Ac E (.cons .tmp (.cons .tmp .nil)) E E
 have h0:0≤dom:=by have:=of_decide_eq_false h;omega
 clear h
 refine rg ?_;conv=>whnf
 refine⟨fun h=>?_,fun h=>?_⟩
 ·have hp:Al dom n.domains.length=false:=by
   cases hx:Al dom n.domains.length
   ·rfl
   ·have:=Bd hx;have:=of_decide_eq_true h;omega
  rw[if_pos (.inl hp)]at hres
  subst hres
  (refine rg ?_;(conv=>whnf);refine aT ?_;refine rg ?_;conv=>whnf)
  exact Ac E (.cons .tmp (.cons .tmp .nil)) E E
 have h1:dom<n.domains.length:=by have:=of_decide_eq_false h;omega
 clear h
 have hpl:Al dom n.domains.length=true:=Cg ⟨h0,h1⟩
 refine rg ?_;conv=>whnf
 refine Ah hr F67 E E E E E ?_
 cases hbn:Ag n
 ·rw[if_pos (.inr hbn)]at hres
  subst hres
  (refine rg ?_;(conv=>whnf);refine aT ?_;refine rg ?_;conv=>whnf)
  exact Ac E (.cons .tmp (.cons .tmp .nil)) E E
 rw[if_neg (by simp[hbn,hpl])]at hres
 have hd:=Ev hpl
 have e2:nth n.domains dom=n.domains[dom.toNat]'hd.2:=Ao hd.2
 have hir:=Akk hbn hd
 obtain ⟨d,hdd⟩:∃ d,n.domains[dom.toNat]'hd.2=d:=⟨_,rfl⟩
 simp only[hdd]at e2 hir
 rw[e2]at hres
 (refine rg ?_;(conv=>whnf);refine aF ?_;refine rg ?_;conv=>whnf)
 refine⟨E,hd.1,hd.2,?_⟩
 rw[hdd]
 conv=>whnf
 refine⟨fun h=>?_,fun h=>?_⟩
 ·rw[if_pos (.inl (of_decide_eq_true h))]at hres
  subst hres
  (refine rg ?_;(conv=>whnf);refine aT ?_;refine rg ?_;conv=>whnf)
  exact Ac E (.cons .tmp (.cons .tmp .nil)) E E
 have hi0:0≤d.irb:=by have:=of_decide_eq_false h;omega
 clear h
 obtain ⟨hi1,hi2⟩:=hir hi0
 have ha:=hm0.addr _ (List.getElem_mem hi1)
 rw[Ao hi1]at hres
 obtain ⟨x,hx⟩:∃ x,n.irbs[d.irb.toNat]'hi1=x:=⟨_,rfl⟩
 rw[hx]at ha hres
 obtain ⟨a,hae⟩:=Int.eq_ofNat_of_zero_le ha.1
 have qh:=Afy a qn
 rw[← hae]at qh
 refine rg ?_;conv=>whnf
 refine⟨E,hi0,hi1,?_⟩
 rw[hx]
 conv=>whnf
 refine Ah qh F244 E E E E E ?_
 refine rg ?_;conv=>whnf
 refine⟨fun h=>?_,fun h=>?_⟩
 ·have hne:Es x.addr≠m:=fun e=>by
   rw[e]at h
   simp at h
  rw[if_pos (.inr hne)]at hres
  subst hres
  refine rg ?_;conv=>whnf
  exact Ac E (.cons .tmp (.cons .tmp .nil)) E E
 ·have heq:Es x.addr=m:=by
   have:(Es x.addr:Int)=(m:Int):=by simpa using h
   omega
  rw[if_neg (fun h=>h.elim qn (fun h2=>h2 heq))]at hres
  subst hres
  refine rg ?_;conv=>whnf
  exact Ac E (.cons .tmp (.cons .tmp .nil)) E E
theorem Ack (n:Net) (hn:n.Fin) (hm0:n.Num) (hb:Ag n=true) (dom:Int) (hpl:Al dom n.domains.length=true) (m:Nat) :
  Sy.Spec Tryz.prog 145 [Ap n,Aa dom,Az m] [] (.tup [Aa (routerT n dom m).1,Ad (routerT n dom m).2]) []:=Ab Γ hm 100 F145 Tryz.ntmps145 rfl fun F hF=>by
 have hres:=routerT.eq_1 n dom m
 generalize routerT n dom m=res at *
 rw[if_neg (by simp[hb,hpl])]at hres
 have hd:=Ev hpl
 have hir:=Akk hb hd
 have e2:nth n.domains dom=n.domains[dom.toNat]'hd.2:=Ao hd.2
 rw[e2]at hres
 have hs:=hn.irbs
 unfold Ar at hs
 conv=>whnf
 refine Bg 3 8 (Ap n) E E E ?_
 refine A2 n.irbs.length (fun j=>∀ i (h:i<n.irbs.length),i<j→¬ (n.irbs[i].domain=dom∧Es n.irbs[i].addr=m)) (fun j=>[(1,Aa dom),(2,Az m),(3,.ref 8 (Ap n) 0),(8,Aa j)]) (fun _=>[]) [] (fun i h h2=>by omega) ⟨⟨E,E,E,E,E,E,E,E,Y⟩,Y,E,E⟩ ?_
 intro j hj hI
 refine rg ?_;conv=>whnf
 refine⟨fun h=>?_,fun h=>?_⟩
 ·have hlt:j<n.irbs.length:=by have:=of_decide_eq_true h;omega
  have hj0:((j:Nat):Int).toNat<n.irbs.length:=by simpa using hlt
  have hid:=Arw hb hlt
  have ha:=hm0.addr _ (List.getElem_mem hlt)
  obtain ⟨x,hx⟩:∃ x,n.irbs[j]=x:=⟨_,rfl⟩
  have e1:n.irbs[((j:Nat):Int).toNat]'hj0=x:=hx
  rw[hx]at hid ha
  obtain ⟨a,hae⟩:=Int.eq_ofNat_of_zero_le ha.1
  have qh:=Ol a qn
  rw[← hae]at qh
  have next:¬ (x.domain=dom∧Es x.addr=m)→∀ i (h:i<n.irbs.length),i<j+1→¬ (n.irbs[i].domain=dom∧Es n.irbs[i].addr=m):=fun hf i hi h2=>by
   by_cases hij:i=j
   ·subst hij;rw[hx];exact hf
   ·exact hI i hi qn
  clear h
  refine rg ?_;conv=>whnf
  refine⟨E,by omega,hj0,?_⟩
  rw[e1]
  conv=>whnf
  refine⟨fun h=>?_,fun h=>?_⟩
  ·have hxd:x.domain=dom:=by simpa using h
   clear h
   refine rg ?_;conv=>whnf
   refine⟨E,by omega,hj0,?_⟩
   rw[e1]
   conv=>whnf
   refine Ah qh F213 E E E E E ?_
   refine rg ?_;conv=>whnf
   refine⟨fun h=>?_,fun h=>?_⟩
   ·have heq:Es x.addr=m:=by
     have:(Es x.addr:Int)=(m:Int):=by simpa using h
     omega
    rw[hxd,e2]at hid
    have e3:nth n.irbs (j:Int)=x:=by rw[Ao hj0];exact hx
    rw[hid,if_neg (fun h=>h.elim qn (fun h2=>h2 (by rw[e3];exact heq)))]at hres
    subst hres
    refine rg ?_;conv=>whnf
    exact Ac E (.cons .tmp (.cons .tmp .nil)) E E
   ·have hne:¬ Es x.addr=m:=fun e=>by rw[e]at h;simp at h
    refine rg ?_;conv=>whnf
    refine⟨by unfold I64;omega,?_⟩
    conv=>whnf
    exact Aw [] hI hlt (next (fun h=>hne h.2)) ⟨⟨E,E,E,E,E,E,E,E,Y⟩,Y,E,E⟩
  ·have hne:¬ x.domain=dom:=by simpa using h
   (refine rg ?_;(conv=>whnf);refine aF ?_;refine rg ?_;conv=>whnf)
   refine⟨by unfold I64;omega,?_⟩
   conv=>whnf
   exact Aw [] hI hlt (next (fun h=>hne h.1)) ⟨⟨E,E,E,E,E,E,E,E,Y⟩,Y,E,E⟩
 ·have hjj:j=n.irbs.length:=by have:=of_decide_eq_false h;omega
  subst hjj
  have hr0:res=(0,false):=by
   by_cases hi0:(n.domains[dom.toNat]'hd.2).irb<0
   ·rw[if_pos (.inl hi0)]at hres;exact hres
   ·obtain ⟨hi1,hi2⟩:=hir qn
    rw[Ao hi1]at hres
    have:=hI _ hi1 hi1
    rw[if_pos (.inr (fun e=>this ⟨hi2,e⟩))]at hres
    exact hres
  subst hr0
  refine rg ?_;conv=>whnf
  exact Ac E (.cons .tmp (.cons .tmp .nil)) E E
theorem Sg {n:Net} {i:Int} (h:Al i n.irbs.length=true):InIrbs n i:=by
 have:=Bd h
 exact⟨this.1,by omega⟩
theorem Akd {p:PacketM} (h:PacketOK p):PacketOK (Afz p):=⟨h.tos,h.id,by have:=h.ttl;show p.ttl-1≤255;omega,h.proto,h.src,h.dst⟩
theorem Y7 (p:PacketM):ipPutT (Afz p)=if 1480<p.body.length then ([],14) else (Ur (Afz p),0):=rfl
theorem Alc (n:Net) (hn:n.Fin) (hm0:n.Num) (irb:Int) (f:FrameM) (hf:FrameOK f) :
  Sy.Spec Tryz.prog 174 [Ap n,Aa irb,Bh f] [] (.tup [Aa (hopT n irb f).1,Bh (hopT n irb f).2.1,Aa (hopT n irb f).2.2]) []:=Ab Γ hm 100 F174 Tryz.ntmps174 rfl fun F hF=>by
 have hres:=hopT.eq_1 n irb f
 generalize hopT n irb f=res at *
 have hr:=B5 n hn
 have hb:=hf.body
 conv=>whnf
 refine⟨fun h=>?_,fun h=>?_⟩
 ·have hp:Al irb n.irbs.length=false:=by
   cases hx:Al irb n.irbs.length
   ·rfl
   ·have:=Bd hx;have:=of_decide_eq_true h;omega
  rw[if_pos (.inl hp)]at hres
  subst hres
  (refine rg ?_;(conv=>whnf);refine aT ?_;refine rg ?_;(conv=>whnf);refine aT ?_;refine rg ?_;conv=>whnf)
  refine Av 7 zF E (.cons (.refl _) (.cons (.refl _) (.cons (.refl _) (.cons .nil .nil)))) ?_
  exact Ac E (.cons .tmp (.cons (.cell E E E E) (.cons .tmp .nil))) E E
 have h0:0≤irb:=by have:=of_decide_eq_false h;omega
 clear h
 refine rg ?_;conv=>whnf
 refine⟨fun h=>?_,fun h=>?_⟩
 ·have hp:Al irb n.irbs.length=false:=by
   cases hx:Al irb n.irbs.length
   ·rfl
   ·have:=Bd hx;have:=of_decide_eq_true h;omega
  rw[if_pos (.inl hp)]at hres
  subst hres
  (refine rg ?_;(conv=>whnf);refine aT ?_;refine rg ?_;conv=>whnf)
  refine Av 7 zF E (.cons (.refl _) (.cons (.refl _) (.cons (.refl _) (.cons .nil .nil)))) ?_
  exact Ac E (.cons .tmp (.cons (.cell E E E E) (.cons .tmp .nil))) E E
 have h1:irb<n.irbs.length:=by have:=of_decide_eq_false h;omega
 clear h
 have hpl:Al irb n.irbs.length=true:=Cg ⟨h0,h1⟩
 refine rg ?_;conv=>whnf
 refine Ah hr F67 E E E E E ?_
 cases hbn:Ag n
 ·rw[if_pos (.inr hbn)]at hres
  subst hres
  (refine rg ?_;(conv=>whnf);refine aT ?_;refine rg ?_;conv=>whnf)
  refine Av 7 zF E (.cons (.refl _) (.cons (.refl _) (.cons (.refl _) (.cons .nil .nil)))) ?_
  exact Ac E (.cons .tmp (.cons (.cell E E E E) (.cons .tmp .nil))) E E
 rw[if_neg (by simp[hbn,hpl])]at hres
 refine Bg 3 8 (Ap n) E E E ?_
 refine Bg 5 4 (Bh f) E E E ?_
 (refine rg ?_;(conv=>whnf);refine aF ?_;refine rg ?_;conv=>whnf)
 refine⟨fun h=>?_,fun h=>?_⟩
 ·rw[if_pos (by have:¬ (f.typ:Int)=2048:=(by simpa using h);omega)]at hres
  subst hres
  refine rg ?_;conv=>whnf
  refine Av 7 zF E (.cons (.refl _) (.cons (.refl _) (.cons (.refl _) (.cons .nil .nil)))) ?_
  exact Ac E (.cons .tmp (.cons (.cell E E E E) (.cons .tmp .nil))) E E
 rw[if_neg (by have:(f.typ:Int)=2048:=(by simpa using h);omega)]at hres
 clear h
 have q1:=Aka f.body qn
 have hok:=@Y6 f.body
 generalize ipTakeT f.body=tk at *
 obtain ⟨p,e⟩:=tk
 dsimp only at hres q1 hok
 refine rg ?_;conv=>whnf
 refine Ah q1 F245 E E E E E ?_
 refine rg ?_;conv=>whnf
 by_cases he:e=0
 rotate_left
 ·rw[if_pos he]at hres
  subst hres
  refine⟨fun h=>absurd (show e=0 by simpa using h) he,fun _=>?_⟩
  refine rg ?_;conv=>whnf
  refine⟨fun _=>?_,fun h=>absurd (show e=0 by simpa using h) he⟩
  refine rg ?_;conv=>whnf
  refine Av 7 zF E (.cons (.refl _) (.cons (.refl _) (.cons (.refl _) (.cons .nil .nil)))) ?_
  exact Ac E (.cons .tmp (.cons (.cell E E E E) (.cons .tmp .nil))) E E
 subst he
 rw[if_neg za]at hres
 obtain ⟨hpo,hpb⟩:=hok rfl
 have hpt:=hpo.ttl
 have hpd:=hpo.dst
 have q2:=ipHopS p qn hpt
 (refine⟨fun _=>?_,fun h=>False.elim (absurd h qz)⟩;refine rg ?_;conv=>whnf)
 by_cases ht:p.ttl≤1
 ·rw[if_pos ht]at hres
  subst hres
  rw[hop1,if_pos ht]at q2
  refine Ah q2 F246 E E E E E ?_
  (refine rg ?_;(conv=>whnf);refine aT ?_;refine rg ?_;conv=>whnf)
  refine Av 7 zF E (.cons (.refl _) (.cons (.refl _) (.cons (.refl _) (.cons .nil .nil)))) ?_
  exact Ac E (.cons .tmp (.cons (.cell E E E E) (.cons .tmp .nil))) E E
 rw[if_neg ht]at hres
 rw[hop1,if_neg ht]at q2
 refine Ah q2 F246 E E E E E ?_
 have q3:=Arr n hn hbn irb p.dst (Sg hpl)
 have hth:=fun h=>@Afn n irb p.dst h
 generalize lookT n irb p.dst=lk at *
 obtain ⟨to,ok⟩:=lk
 dsimp only at hres q3 hth
 (refine rg ?_;(conv=>whnf);refine aF ?_;refine rg ?_;conv=>whnf)
 refine Ah q3 F247 E E E E E ?_
 cases ok
 ·rw[if_pos rfl]at hres
  subst hres
  (refine rg ?_;(conv=>whnf);refine aT ?_;refine rg ?_;conv=>whnf)
  refine Av 7 zF E (.cons (.refl _) (.cons (.refl _) (.cons (.refl _) (.cons .nil .nil)))) ?_
  exact Ac E (.cons .tmp (.cons (.cell E E E E) (.cons .tmp .nil))) E E
 rw[if_neg qz]at hres
 have hto:=hth rfl
 have hpp:=Y7 p
 have q4:=Akb (Afz p) (Akd hpo) (by show p.body.length<100000;omega)
 rw[hpp]at q4
 clear hpp
 by_cases hl:1480<p.body.length
 ·rw[if_pos hl]at hres q4
  subst hres
  (refine rg ?_;(conv=>whnf);refine aF ?_;refine rg ?_;conv=>whnf)
  refine Ah q4 F248 E E E E E ?_
  (refine rg ?_;(conv=>whnf);refine aT ?_;refine rg ?_;conv=>whnf)
  refine Av 7 zF E (.cons (.refl _) (.cons (.refl _) (.cons (.refl _) (.cons .nil .nil)))) ?_
  exact Ac E (.cons .tmp (.cons (.cell E E E E) (.cons .tmp .nil))) E E
 rw[if_neg hl]at hres q4
 have ha:=hm0.addr _ (List.getElem_mem hto.2)
 rw[Ao hto.2]at hres
 obtain ⟨x,hx⟩:∃ x,n.irbs[to.toNat]'hto.2=x:=⟨_,rfl⟩
 rw[hx]at ha hres
 obtain ⟨a,hae⟩:=Int.eq_ofNat_of_zero_le ha.1
 have qh:=Afy a qn
 rw[← hae]at qh
 have qd:=Afy p.dst hpd
 subst hres
 (refine rg ?_;(conv=>whnf);refine aF ?_;refine rg ?_;conv=>whnf)
 refine Ah q4 F248 E E E E E ?_
 (refine rg ?_;(conv=>whnf);refine aF ?_;refine rg ?_;conv=>whnf)
 refine⟨E,hto.1,hto.2,?_⟩
 rw[hx]
 conv=>whnf
 refine Au qd F244 E E E qy E ?_
 refine rd qy ?_;conv=>whnf
 refine⟨E,hto.1,hto.2,?_⟩
 rw[hx]
 conv=>whnf
 refine Au qh F244 E E E qy E ?_
 refine rd qy ?_;conv=>whnf
 refine⟨qy,?_⟩
 conv=>whnf
 exact Ac E (.cons .tmp (.cons (.cell E E E E) (.cons .tmp .nil))) E E
theorem Alp (n:Net) (hn:n.Fin) (hm0:n.Num) (irb:Int) (f:FrameM) (hf:FrameOK f) :
  Sy.Spec Tryz.prog 146 [Ap n,Aa irb,Bh f] [] (.tup [Aa (hopT n irb f).1,Bh (hopT n irb f).2.1,Aa (hopT n irb f).2.2]) []:=Ab Γ hm 100 F146 Tryz.ntmps146 rfl fun F hF=>by
 have hres:=hopT.eq_1 n irb f
 generalize hopT n irb f=res at *
 have hr:=Dq n hn
 have hpS:=A6 irb n.irbs.length
 have hb:=hf.body
 conv=>whnf
 refine Bg 3 8 (Ap n) E E E ?_
 refine Bg 5 4 (Bh f) E E E ?_
 refine rg ?_;conv=>whnf
 refine Ah hr F74 E E E E E ?_
 cases hbn:Ag n
 ·rw[if_pos (.inr hbn)]at hres
  subst hres
  (refine rg ?_;(conv=>whnf);refine aT ?_;refine rg ?_;(conv=>whnf);refine aT ?_;refine rg ?_;conv=>whnf)
  refine Av 7 zF E (.cons (.refl _) (.cons (.refl _) (.cons (.refl _) (.cons .nil .nil)))) ?_
  exact Ac E (.cons .tmp (.cons (.cell E E E E) (.cons .tmp .nil))) E E
 (refine rg ?_;(conv=>whnf);refine aF ?_;refine rg ?_;conv=>whnf)
 refine Ah hpS F35 E E E E E ?_
 cases hpl:Al irb n.irbs.length
 ·rw[if_pos (.inl hpl)]at hres
  subst hres
  (refine rg ?_;(conv=>whnf);refine aT ?_;refine rg ?_;conv=>whnf)
  refine Av 7 zF E (.cons (.refl _) (.cons (.refl _) (.cons (.refl _) (.cons .nil .nil)))) ?_
  exact Ac E (.cons .tmp (.cons (.cell E E E E) (.cons .tmp .nil))) E E
 rw[if_neg (by simp[hbn,hpl])]at hres
 (refine rg ?_;(conv=>whnf);refine aF ?_;refine rg ?_;conv=>whnf)
 refine⟨fun h=>?_,fun h=>?_⟩
 ·rw[if_pos (by have:¬ (f.typ:Int)=2048:=(by simpa using h);omega)]at hres
  subst hres
  refine rg ?_;conv=>whnf
  refine Av 7 zF E (.cons (.refl _) (.cons (.refl _) (.cons (.refl _) (.cons .nil .nil)))) ?_
  exact Ac E (.cons .tmp (.cons (.cell E E E E) (.cons .tmp .nil))) E E
 rw[if_neg (by have:(f.typ:Int)=2048:=(by simpa using h);omega)]at hres
 clear h
 have q1:=Yf f.body qn
 have hok:=@Y6 f.body
 generalize ipTakeT f.body=tk at *
 obtain ⟨p,e⟩:=tk
 dsimp only at hres q1 hok
 refine rg ?_;conv=>whnf
 refine Ah q1 F214 E E E E E ?_
 refine rg ?_;conv=>whnf
 by_cases he:e=0
 rotate_left
 ·rw[if_pos he]at hres
  subst hres
  refine⟨fun _=>?_,fun h=>absurd (show e=0 by simpa using h) he⟩
  refine rg ?_;conv=>whnf
  refine Av 7 zF E (.cons (.refl _) (.cons (.refl _) (.cons (.refl _) (.cons .nil .nil)))) ?_
  exact Ac E (.cons .tmp (.cons (.cell E E E E) (.cons .tmp .nil))) E E
 subst he
 rw[if_neg za]at hres
 obtain ⟨hpo,hpb⟩:=hok rfl
 have hpt:=hpo.ttl
 have hpd:=hpo.dst
 have q2:=Alt p qn hpt
 (refine⟨fun h=>False.elim (absurd h qz),fun _=>?_⟩;refine rg ?_;conv=>whnf)
 by_cases ht:p.ttl≤1
 ·rw[if_pos ht]at hres
  subst hres
  rw[hop1,if_pos ht]at q2
  refine Ah q2 F215 E E E E E ?_
  (refine rg ?_;(conv=>whnf);refine aT ?_;refine rg ?_;conv=>whnf)
  refine Av 7 zF E (.cons (.refl _) (.cons (.refl _) (.cons (.refl _) (.cons .nil .nil)))) ?_
  exact Ac E (.cons .tmp (.cons (.cell E E E E) (.cons .tmp .nil))) E E
 rw[if_neg ht]at hres
 rw[hop1,if_neg ht]at q2
 refine Ah q2 F215 E E E E E ?_
 have q3:=Ahj n hn hbn hm0.addr irb p.dst (Sg hpl) qn
 have hth:=fun h=>@Afn n irb p.dst h
 generalize lookT n irb p.dst=lk at *
 obtain ⟨to,ok⟩:=lk
 dsimp only at hres q3 hth
 (refine rg ?_;(conv=>whnf);refine aF ?_;refine rg ?_;conv=>whnf)
 refine Ah q3 F216 E E E E E ?_
 cases ok
 ·rw[if_pos rfl]at hres
  subst hres
  (refine rg ?_;(conv=>whnf);refine aT ?_;refine rg ?_;conv=>whnf)
  refine Av 7 zF E (.cons (.refl _) (.cons (.refl _) (.cons (.refl _) (.cons .nil .nil)))) ?_
  exact Ac E (.cons .tmp (.cons (.cell E E E E) (.cons .tmp .nil))) E E
 rw[if_neg qz]at hres
 have hto:=hth rfl
 have hpp:=Y7 p
 have q4:=Aa2 (Afz p) (Akd hpo) (by show p.body.length<100000;omega)
 rw[hpp]at q4
 clear hpp
 by_cases hl:1480<p.body.length
 ·rw[if_pos hl]at hres q4
  subst hres
  (refine rg ?_;(conv=>whnf);refine aF ?_;refine rg ?_;conv=>whnf)
  refine Ah q4 F217 E E E E E ?_
  (refine rg ?_;(conv=>whnf);refine aT ?_;refine rg ?_;conv=>whnf)
  refine Av 7 zF E (.cons (.refl _) (.cons (.refl _) (.cons (.refl _) (.cons .nil .nil)))) ?_
  exact Ac E (.cons .tmp (.cons (.cell E E E E) (.cons .tmp .nil))) E E
 rw[if_neg hl]at hres q4
 have ha:=hm0.addr _ (List.getElem_mem hto.2)
 rw[Ao hto.2]at hres
 obtain ⟨x,hx⟩:∃ x,n.irbs[to.toNat]'hto.2=x:=⟨_,rfl⟩
 rw[hx]at ha hres
 obtain ⟨a,hae⟩:=Int.eq_ofNat_of_zero_le ha.1
 have qh:=Ol a qn
 rw[← hae]at qh
 have qd:=Ol p.dst hpd
 subst hres
 (refine rg ?_;(conv=>whnf);refine aF ?_;refine rg ?_;conv=>whnf)
 refine Ah q4 F217 E E E E E ?_
 (refine rg ?_;(conv=>whnf);refine aF ?_;refine rg ?_;conv=>whnf)
 refine⟨E,hto.1,hto.2,?_⟩
 rw[hx]
 conv=>whnf
 refine Au qd F213 E E E qy E ?_
 refine rd qy ?_;conv=>whnf
 refine Au qh F213 E E E qy E ?_
 refine rd qy ?_;conv=>whnf
 refine⟨qy,?_⟩
 conv=>whnf
 exact Ac E (.cons .tmp (.cons (.cell E E E E) (.cons .tmp .nil))) E E
theorem Ai7 (f:FrameM) (hb:f.body.length<100000):Sy.Spec Tryz.prog 261 [Bh f] [] (Bh f) []:=Ab Γ hm 100 F261 Tryz.ntmps261 rfl fun F hF=>by
 conv=>whnf
 refine Ai (B1 Γ.toTy (d:=7) (n:=f.body.length) Aj 0 E E E E E E E E qn qn E E E) E E ?_
 refine rg ?_;conv=>whnf
 refine Ai (V1 Γ.toTy (l:=List.replicate f.body.length 0) (m:=f.body) E E E E E .sl) E E ?_
 refine rg ?_;conv=>whnf
 refine As 7 E ?_
 refine rg ?_;conv=>whnf
 refine Ac E (.cons (.cell E E E E) .nil) ?_ E
 show SV.agg [_,_,_,.sl 1 Aj f.body]=SV.agg [_,_,_,.sl 1 Aj (f.body.take (List.replicate f.body.length (0:UInt8)).length++(List.replicate f.body.length (0:UInt8)).drop f.body.length)]
 have e:f.body.take (List.replicate f.body.length (0:UInt8)).length++(List.replicate f.body.length (0:UInt8)).drop f.body.length=f.body:=by
  rw[List.length_replicate,List.take_length,List.drop_eq_nil_of_le za,List.append_nil]
 rw[e]
 rfl
theorem Adm (q:QueuedM) (hb:q.frame.body.length<100000):Sy.Spec Tryz.prog 185 [Ay q] [] (Ay q) []:=Ab Γ hm 100 F185 Tryz.ntmps185 rfl fun F hF=>by
 have qc:=Ai7 q.frame hb
 conv=>whnf
 refine Ah qc F261 E E E E E ?_
 refine rg ?_;conv=>whnf
 exact Ac E (.cons (.cell E E E E) .nil) E E
def Qk (l:List QueuedM):Prop:=∀ q∈l,q.frame.body.length<100000
theorem Asc (l:List QueuedM) (hl:l.length<1000000) (hb:Qk l):Sy.Spec Tryz.prog 184 [.sl 7 Ay l] [] (.osl 0) [(0,.row 7 Ay l)]:=Ab Γ hm 100 F184 Tryz.ntmps184 rfl fun F hF=>by
 conv=>whnf
 refine Bm 3 1000 7 Ay E E ?_
 refine At l.length (fun j=>[(3,.osl 1000),(6,.sl 7 Ay l),(7,Aa l.length),(8,Aa j)]) (fun j=>[(1000,.row 7 Ay (l.take j))]) [] ⟨⟨E,E,E,E,E,E,E,E,Y⟩,⟨.inl E,E,Y⟩,E,E⟩ ?_
 intro j hj
 refine rg ?_;conv=>whnf
 refine⟨fun h=>?_,fun h=>?_⟩
 ·have hlt:j<l.length:=by have:=of_decide_eq_true h;omega
  have hj0:((j:Nat):Int).toNat<l.length:=by simpa using hlt
  obtain ⟨q,hq⟩:∃ q,l[j]=q:=⟨_,rfl⟩
  have e1:l[((j:Nat):Int).toNat]'hj0=q:=hq
  have hs:l.take (j+1)=l.take j++[q]:=by rw[List.take_succ_eq_append_getElem hlt,hq]
  have hqb:=hb q (by rw[← hq];exact List.getElem_mem hlt)
  have hll:(l.take j).length=j:=by rw[List.length_take];omega
  clear h
  refine rg ?_;conv=>whnf
  refine⟨E,by omega,hj0,?_⟩
  rw[e1]
  conv=>whnf
  refine Ah (Adm q hqb) F185 E E E E E ?_
  refine rg ?_;conv=>whnf
  refine Ai (Ae Γ.toTy 16 E E E E E (.row E) (.lit (e:=Ay) (l:=[q]) E E) za (by rw[hll];simp;omega) (by rw[hll];simp;omega)) E E ?_
  refine rg ?_;conv=>whnf
  refine⟨by unfold I64;omega,?_⟩
  conv=>whnf
  exact Aq [(1000,16)] hlt ⟨⟨E,E,E,E,E,E,E,E,Y⟩,⟨.inl (congrArg (Ob.row 7 Ay) hs),E,Y⟩,E,E⟩
 ·have hjj:j=l.length:=by have:=of_decide_eq_false h;omega
  subst hjj
  rw[List.take_length]
  refine rg ?_;conv=>whnf
  exact done E (.cons .tmp .nil) [(0,1000)] [(0,.row 7 Ay l)] (fun _ h=>h) E E ⟨Y,⟨.inl E,E,Y⟩,E,E⟩
theorem Ae5 (l:List QueuedM) (q:QueuedM) (hl:l.length<1000000) (hb:Qk l) (hqb:q.frame.body.length<100000) :
  Sy.Spec Tryz.prog 170 [.sl 7 Ay l,Ay q] [] (.tup [.sl 7 Ay (pushT l q).1,Ad (pushT l q).2]) []:=Ab Γ hm 100 F170 Tryz.ntmps170 rfl fun F hF=>by
 have hres:=pushT.eq_1 l q
 generalize pushT l q=res at *
 conv=>whnf
 refine Ai (Ak [(0,55)] E F184 (Asc l hl hb) E Y E ⟨.inr E,Y⟩) E E ?_
 refine rg ?_;conv=>whnf
 refine⟨fun h=>?_,fun h=>?_⟩
 ·rw[if_pos (by have:=of_decide_eq_true h;omega)]at hres
  subst hres
  refine rg ?_;conv=>whnf
  refine As 55 E ?_
  exact Ac E (.cons .tmp (.cons .tmp .nil)) E E
 ·rw[if_neg (by have:=of_decide_eq_false h;omega)]at hres
  subst hres
  refine rg ?_;conv=>whnf
  refine Ah (Adm q hqb) F185 E E E E E ?_
  refine rg ?_;conv=>whnf
  refine Ai (Ae Γ.toTy 17 E E E E E (.row E) (.lit (e:=Ay) (l:=[q]) E E) qz (by simp;omega) (by simp;omega)) E E ?_
  refine As 17 E ?_
  refine rg ?_;conv=>whnf
  exact Ac E (.cons .tmp (.cons .tmp .nil)) E E
theorem Ahl (l:List QueuedM) (q:QueuedM) (hl:l.length<1000000) :
  Sy.Spec Tryz.prog 80 [.sl 7 Ay l,Ay q] [] (.tup [.sl 7 Ay (pushT l q).1,Ad (pushT l q).2]) []:=Ab Γ hm 100 F80 Tryz.ntmps80 rfl fun F hF=>by
 have hres:=pushT.eq_1 l q
 generalize pushT l q=res at *
 conv=>whnf
 refine Ai (Ae Γ.toTy 9 E E E E E (.lit (e:=Ay) (l:=[]) E E) .sl za (by simp;omega) (by simp;omega)) E E ?_
 refine rg ?_;conv=>whnf
 refine⟨fun h=>?_,fun h=>?_⟩
 ·rw[if_pos (by have:=of_decide_eq_true h;omega)]at hres
  subst hres
  refine rg ?_;conv=>whnf
  refine As 9 E ?_
  exact Ac E (.cons .tmp (.cons .tmp .nil)) E E
 ·rw[if_neg (by have:=of_decide_eq_false h;omega)]at hres
  subst hres
  refine rg ?_;conv=>whnf
  refine Ai (Ae Γ.toTy 17 E E E E E (.row E) (.lit (e:=Ay) (l:=[q]) E E) qz (by simp;omega) (by simp;omega)) E E ?_
  refine As 17 E ?_
  refine rg ?_;conv=>whnf
  exact Ac E (.cons .tmp (.cons .tmp .nil)) E E
def M0 (l:List QueuedM) (at_:Int) (j:Nat):List QueuedM:=if 0≤at_∧at_<j then (l.take j).eraseIdx at_.toNat else l.take j
theorem Ahe (l:List QueuedM) (at_:Int) {j:Nat} (h:j<l.length):M0 l at_ (j+1)=if (j:Int)≠at_ then M0 l at_ j++[l[j]] else M0 l at_ j:=by
 have hll:(l.take j).length=j:=by rw[List.length_take];omega
 unfold M0
 rw[List.take_succ_eq_append_getElem h]
 by_cases h1:(j:Int)=at_
 ·rw[if_neg (show ¬ (j:Int)≠at_ from fun h=>h h1),if_pos (show 0≤at_∧at_<((j+1:Nat):Int) by omega),if_neg (show ¬ (0≤at_∧at_<(j:Int)) by omega),show at_.toNat=j by omega,List.eraseIdx_append_of_length_le qn,hll,Nat.sub_self]
  simp
 ·rw[if_pos (show (j:Int)≠at_ from h1)]
  by_cases h2:0≤at_∧at_<j
  ·rw[if_pos h2,if_pos (show 0≤at_∧at_<((j+1:Nat):Int) by omega),List.eraseIdx_append_of_lt_length qn]
  ·rw[if_neg h2,if_neg (show ¬ (0≤at_∧at_<((j+1:Nat):Int)) by omega)]
theorem Aci (l:List QueuedM) (at_:Int) (j:Nat):(M0 l at_ j).length≤l.length:=by
 unfold M0
 split
 ·exact Nat.le_trans (List.length_eraseIdx_le _ _) (by rw[List.length_take];omega)
 ·rw[List.length_take];omega
theorem Yb (l:List QueuedM) (at_:Int) (hl:l.length<1000000) :
  Sy.Spec Tryz.prog 70 [.sl 7 Ay l,Aa at_] [] (.tup [Ay (takeT l at_).1,.sl 7 Ay (takeT l at_).2.1,Ad (takeT l at_).2.2]) []:=Ab Γ hm 100 F70 Tryz.ntmps70 rfl fun F hF=>by
 have hres:=takeT.eq_1 l at_
 generalize takeT l at_=res at *
 conv=>whnf
 refine Bm 7 1000 7 Ay E E ?_
 refine At l.length (fun j=>[(0,.sl 7 Ay l),(1,Aa at_),(4,.ptr 4 0),(7,.osl 1000),(8,Aa j)]) (fun j=>[(4,.box [Aa 0,Aa 0,Aa 0,Az 0,Az 0,Aa 0,.val (.slice none 0 0)]),(1000,.row 7 Ay (M0 l at_ j))]) [(4,4),(1000,1000)] ⟨⟨E,E,E,E,E,E,E,E,E,E,Y⟩,⟨.inl E,E,.inl (congrArg (Ob.row 7 Ay) (by simp[M0])),E,Y⟩,E,E⟩ ?_
 intro j hj
 have hrl:=Aci l at_ j
 refine rg ?_;conv=>whnf
 refine⟨fun h=>?_,fun h=>?_⟩
 ·have hlt:j<l.length:=by have:=of_decide_eq_true h;omega
  have hj0:((j:Nat):Int).toNat<l.length:=by simpa using hlt
  have hs:=Ahe l at_ hlt
  obtain ⟨q,hq⟩:∃ q,l[j]=q:=⟨_,rfl⟩
  have e1:l[((j:Nat):Int).toNat]'hj0=q:=hq
  rw[hq]at hs
  clear h
  refine rg ?_;conv=>whnf
  refine⟨fun h=>?_,fun h=>?_⟩
  ·rw[if_pos (by simpa using h)]at hs
   refine rg ?_;conv=>whnf
   refine⟨E,by omega,hj0,?_⟩
   rw[e1]
   conv=>whnf
   refine Ai (Ae Γ.toTy 24 E E E E E (.row E) (.lit (e:=Ay) (l:=[q]) E E) za (by simp;omega) (by simp;omega)) E E ?_
   refine rg ?_;conv=>whnf
   refine⟨by unfold I64;omega,?_⟩
   conv=>whnf
   exact Aq [(4,4),(1000,24)] hlt ⟨⟨E,E,E,E,E,E,E,E,E,E,Y⟩,⟨.inl E,E,.inl (congrArg (Ob.row 7 Ay) hs),E,Y⟩,E,E⟩
  ·rw[if_neg (by simpa using h)]at hs
   refine rg ?_;conv=>whnf
   refine⟨by unfold I64;omega,?_⟩
   conv=>whnf
   exact Aq [(4,4),(1000,1000)] hlt ⟨⟨E,E,E,E,E,E,E,E,E,E,Y⟩,⟨.inl E,E,.inl (congrArg (Ob.row 7 Ay) hs),E,Y⟩,E,E⟩
 have hjj:j=l.length:=by have:=of_decide_eq_false h;omega
 subst hjj
 clear h
 refine rg ?_;conv=>whnf
 have bad:at_<0∨(l.length:Int)≤at_→M0 l at_ l.length=l∧res=(noQ,l,false):=fun h=>by
  rw[if_pos h]at hres
  refine⟨?_,hres⟩
  rw[M0,if_neg qn,List.take_length]
 refine⟨fun h=>?_,fun h=>?_⟩
 ·obtain ⟨b1,b2⟩:=bad (.inl (of_decide_eq_true h))
  subst b2
  rw[b1]
  (refine rg ?_;(conv=>whnf);refine aT ?_;refine rg ?_;conv=>whnf)
  refine As 1000 E ?_
  refine Av 4 [Aa 0,Aa 0,Aa 0,Az 0,Az 0,Aa 0,.sl 1 Aj []] E (.cons (.refl _) (.cons (.refl _) (.cons (.refl _) (.cons (.refl _) (.cons (.refl _) (.cons (.refl _) (.cons .nil .nil))))))) ?_
  exact Ac E (.cons (.cell E E E E) (.cons .tmp (.cons .tmp .nil))) E E
 have h0:0≤at_:=by have:=of_decide_eq_false h;omega
 clear h
 refine rg ?_;conv=>whnf
 refine⟨fun h=>?_,fun h=>?_⟩
 ·obtain ⟨b1,b2⟩:=bad (.inr (by have:=of_decide_eq_true h;omega))
  subst b2
  rw[b1]
  refine rg ?_;conv=>whnf
  refine As 1000 E ?_
  refine Av 4 [Aa 0,Aa 0,Aa 0,Az 0,Az 0,Aa 0,.sl 1 Aj []] E (.cons (.refl _) (.cons (.refl _) (.cons (.refl _) (.cons (.refl _) (.cons (.refl _) (.cons (.refl _) (.cons .nil .nil))))))) ?_
  exact Ac E (.cons (.cell E E E E) (.cons .tmp (.cons .tmp .nil))) E E
 have h1:at_<l.length:=by have:=of_decide_eq_false h;omega
 clear h bad
 have hk:at_.toNat<l.length:=by omega
 rw[if_neg qn,List.getElem?_eq_getElem hk,Option.getD_some]at hres
 obtain ⟨q,hq⟩:∃ q,l[at_.toNat]'hk=q:=⟨_,rfl⟩
 rw[hq]at hres
 have hru:M0 l at_ l.length=l.eraseIdx at_.toNat:=by rw[M0,if_pos ⟨h0,h1⟩,List.take_length]
 rw[hru]
 subst hres
 refine rg ?_;conv=>whnf
 refine⟨E,h0,hk,?_⟩
 rw[hq]
 conv=>whnf
 refine As 1000 E ?_
 exact Ac E (.cons (.cell E E E E) (.cons .tmp (.cons .tmp .nil))) E E
theorem Yn (l:List QueuedM) (at_:Int) (hl:l.length<1000000) (hb:Qk l) :
  Sy.Spec Tryz.prog 106 [.sl 7 Ay l,Aa at_] [] (.tup [Ay (takeT l at_).1,.sl 7 Ay (takeT l at_).2.1,Ad (takeT l at_).2.2]) []:=Ab Γ hm 100 F106 Tryz.ntmps106 rfl fun F hF=>by
 have hres:=takeT.eq_1 l at_
 generalize takeT l at_=res at *
 conv=>whnf
 refine⟨fun h=>?_,fun h=>?_⟩
 ·rw[if_pos (.inl (of_decide_eq_true h))]at hres
  subst hres
  (refine rg ?_;(conv=>whnf);refine aT ?_;refine rg ?_;conv=>whnf)
  refine Ai (Ak [(0,55)] E F184 (Asc l hl hb) E Y E ⟨.inr E,Y⟩) E E ?_
  refine As 55 E ?_
  refine rg ?_;conv=>whnf
  refine Av 4 [Aa 0,Aa 0,Aa 0,Az 0,Az 0,Aa 0,.sl 1 Aj []] E (.cons (.refl _) (.cons (.refl _) (.cons (.refl _) (.cons (.refl _) (.cons (.refl _) (.cons (.refl _) (.cons .nil .nil))))))) ?_
  exact Ac E (.cons (.cell E E E E) (.cons .tmp (.cons .tmp .nil))) E E
 have h0:0≤at_:=by have:=of_decide_eq_false h;omega
 clear h
 refine rg ?_;conv=>whnf
 refine⟨fun h=>?_,fun h=>?_⟩
 ·rw[if_pos (.inr (of_decide_eq_true h))]at hres
  subst hres
  refine rg ?_;conv=>whnf
  refine Ai (Ak [(0,55)] E F184 (Asc l hl hb) E Y E ⟨.inr E,Y⟩) E E ?_
  refine As 55 E ?_
  refine rg ?_;conv=>whnf
  refine Av 4 [Aa 0,Aa 0,Aa 0,Az 0,Az 0,Aa 0,.sl 1 Aj []] E (.cons (.refl _) (.cons (.refl _) (.cons (.refl _) (.cons (.refl _) (.cons (.refl _) (.cons (.refl _) (.cons .nil .nil))))))) ?_
  exact Ac E (.cons (.cell E E E E) (.cons .tmp (.cons .tmp .nil))) E E
 have h1:at_<l.length:=by have:=of_decide_eq_false h;omega
 clear h
 have hk:at_.toNat<l.length:=by omega
 have hne:l≠[]:=fun e=>by rw[e]at hk;simp at hk
 have hkk:((at_.toNat:Nat):Int)=at_:=by omega
 rw[if_neg qn,List.getElem?_eq_getElem hk,Option.getD_some]at hres
 obtain ⟨q,hq⟩:∃ q,l[at_.toNat]'hk=q:=⟨_,rfl⟩
 rw[hq]at hres
 have hqb:=hb q (by rw[← hq];exact List.getElem_mem hk)
 refine G_dat 0 90 E hne ?_
 intro B off cap hcap
 refine run Γ hm 3 ?_
 conv=>whnf
 refine Bn (Wt 90 (.inl E) E E) qy E ?_
 refine rd qy ?_;conv=>whnf
 refine⟨E,h0,hk,?_⟩
 rw[hq]
 conv=>whnf
 refine Au (Adm q hqb) F185 E E E qy E ?_
 refine rd qy ?_;conv=>whnf
 refine Bn (Aai (hi:=at_.toNat) Γ.toTy E E E E (congrArg (fun z=>SV.val (.int .i64 z)) hkk.symm) (congrArg (fun z=>SV.val (.int .i64 z)) hkk.symm) qn) qy E ?_
 refine Bn (Wt 90 (.inl E) E E) qy E ?_
 refine rd qy ?_;conv=>whnf
 refine⟨by unfold I64;omega,?_⟩
 conv=>whnf
 refine Bn (Bc (lo:=at_.toNat+1) (hi:=l.length) Γ.toTy E E E E (.inr ⟨_,_,E,congrArg (fun z=>SV.val (.int .i64 z)) qn⟩) (.inl ⟨E,E⟩) qn (Nat.le_refl _)) qy E ?_
 have hll:((l.take l.length).drop (at_.toNat+1)).length=l.length-(at_.toNat+1):=by rw[List.length_drop,List.length_take];omega
 refine Bn (Aao Γ.toTy 90 E E E E E E (Nat.le_of_lt hk) E (by rw[hll];omega) (by rw[hll];omega)) qy E ?_
 have he:l.take at_.toNat++(l.take l.length).drop (at_.toNat+1)=l.eraseIdx at_.toNat:=by rw[List.take_length,List.eraseIdx_eq_take_drop_succ]
 have hel:(l.take at_.toNat++(l.take l.length).drop (at_.toNat+1)).length<1000000:=by rw[he,List.length_eraseIdx];split<;>omega
 have heb:Qk (l.take at_.toNat++(l.take l.length).drop (at_.toNat+1)):=by rw[he];exact fun x hx=>hb x (List.mem_of_mem_eraseIdx hx)
 refine rd qy ?_;conv=>whnf
 refine Bn (Ak [(0,55)] E F184 (Asc _ hel heb) E Y E ⟨.inr E,Y⟩) qy E ?_
 refine rd qy ?_;conv=>whnf
 refine⟨qy,?_⟩
 conv=>whnf
 refine As 55 E ?_
 refine Ac E (.cons (.cell E E E E) (.cons .tmp (.cons .tmp .nil))) ?_ E
 subst hres
 show SV.tup [_,.sl 7 Ay (l.eraseIdx at_.toNat),_]=SV.tup [_,.sl 7 Ay (l.take at_.toNat++(l.take l.length).drop (at_.toNat+1)),_]
 rw[he]
 rfl
def E4 {α:Type} (q:α→Bool) (l:List α):Nat→Nat
 | 0=>0
 | j+1=>match l[j]? with
  | some x=>if q x=true then E4 q l j+1 else E4 q l j
  | none=>E4 q l j
def dfC {α:Type} (q:α→Bool) (l:List α):Nat→List α
 | 0=>l
 | j+1=>match l[j]? with
  | some x=>if q x=true then (dfC q l j).set (E4 q l j) x else dfC q l j
  | none=>dfC q l j
theorem Xm {α:Type} (q:α→Bool) (l:List α) (j:Nat):E4 q l j≤j:=by
 induction j with
 | zero=>exact Nat.le_refl _
 | succ j ih =>
  simp only[E4]
  split
  ·split<;>omega
  ·omega
theorem Tl {α:Type} (q:α→Bool) (l:List α) (j:Nat):(dfC q l j).length=l.length:=by
 induction j with
 | zero=>rfl
 | succ j ih =>
  simp only[dfC]
  split
  ·split
   ·rw[List.length_set];exact ih
   ·exact ih
  ·exact ih
theorem Akn {α:Type} (q:α→Bool) (l:List α) (j k:Nat) (h:j≤k):(dfC q l j)[k]? = l[k]?:=by
 induction j with
 | zero=>rfl
 | succ j ih =>
  simp only[dfC]
  split
  ·split
   ·rw[List.getElem?_set_ne (by have:=Xm q l j;omega)];exact ih qn
   ·exact ih qn
  ·exact ih qn
theorem Agi {α:Type} (q:α→Bool) (l:List α) (j:Nat) (h:j≤l.length):(dfC q l j).take (E4 q l j)=(l.take j).filter q:=by
 induction j with
 | zero=>rfl
 | succ j ih =>
  have hj:j<l.length:=by omega
  have ih:=ih qn
  have hc:=Xm q l j
  simp only[dfC,E4,List.getElem?_eq_getElem hj]
  rw[List.take_add_one,List.getElem?_eq_getElem hj,List.filter_append]
  by_cases hq:q l[j]=true
  ·rw[if_pos hq,if_pos hq]
   have hlt:E4 q l j<((dfC q l j).set (E4 q l j) l[j]).length:=by rw[List.length_set,Tl];omega
   rw[List.take_add_one,List.getElem?_eq_getElem hlt,List.getElem_set_self]
   rw[List.take_set_of_le (Nat.le_refl _),ih]
   simp[hq]
  ·rw[if_neg hq,if_neg hq,ih]
   simp[hq]
theorem Abx {α:Type} (q:α→Bool) (l:List α) (i:Nat) (hi:i≤l.length) (h:∀ k (hk:k<l.length),k<i→q l[k]=true):dfC q l i=l∧E4 q l i=i:=by
 induction i with
 | zero=>exact⟨rfl,rfl⟩
 | succ i ih =>
  obtain ⟨h1,h2⟩:=ih qn (fun k hk hki=>h k hk qn)
  have hil:i<l.length:=by omega
  simp only[dfC,E4,List.getElem?_eq_getElem hil]
  rw[if_pos (h i hil qn),if_pos (h i hil qn),h1,h2]
  exact⟨List.set_getElem_self hil,E⟩
theorem Is {α:Type} (p:α→Bool) (l:List α):(Dh p l=-1∧∀ x∈l,p x=false)∨∃ (i:Nat) (hi:i<l.length),Dh p l=i∧p l[i]=true∧∀ k (hk:k<l.length),k<i→p l[k]=false:=by
 unfold Dh
 cases h:l.findIdx? p with
 | none=>exact .inl ⟨rfl,by simpa using h⟩
 | some i =>
  rw[List.findIdx?_eq_some_iff_getElem]at h
  obtain ⟨hi,h1,h2⟩:=h
  exact .inr ⟨i,hi,E,h1,fun k hk hki=>by simpa using h2 k hki⟩
theorem Qb (l:List EntryM) (hl:l.length<2147483648):Sy.Spec Tryz.prog 48 [.sl 3 Am l] [] (.osl 0) [(0,.row 3 Am l)]:=Ab Γ hm 100 F48 Tryz.ntmps48 rfl fun F hF=>by
 conv=>whnf
 refine D7 E (.inl E) E E E .sl E E ?_
 intro b hb
 cases b
 ·(refine rg ?_;(conv=>whnf);refine aF ?_;refine rg ?_;conv=>whnf)
  refine Ai (Ae Γ.toTy 7 E E E E E (.lit (e:=Am) (l:=[]) E E) .sl za (by simp;omega) (by simp;omega)) E E ?_
  refine rg ?_;conv=>whnf
  exact done E (.cons .tmp .nil) [(0,7)] [(0,.row 3 Am l)] (fun _ h=>h) E E ⟨Y,⟨.inl E,E,Y⟩,E,E⟩
 ·have h0:l=[]:=List.eq_nil_of_length_eq_zero (hb rfl)
  subst h0
  (refine rg ?_;(conv=>whnf);refine aT ?_;refine rg ?_;conv=>whnf)
  refine Bm 2 1000 3 Am E E ?_
  exact done E (.cons .tmp .nil) [(0,1000)] [(0,.row 3 Am [])] (fun _ h=>h) E E ⟨Y,⟨.inl E,E,Y⟩,E,E⟩
theorem Lz (l:List EntryM) (p:EntryM→Bool) (f:FuncId) (first cap:List SV) (hc:(SV.clo (.func f) first cap).inn []=true) (hf:∀ x∈l,Jn Tryz.prog f (first++[Am x]++cap) (Ad (p x))) (hl:Ar l) :
  Sy.Spec Tryz.prog 163 [.sl 3 Am l,.clo (.func f) first cap] [] (Aa (Dh p l)) []:=Ab Γ hm 100 F163 Tryz.ntmps163 rfl fun F hF=>by
 unfold Ar at hl
 have hin:∀ x:EntryM,Co [] (first++[Am x]++cap)=true:=fun x=>Dl hc rfl
 conv=>whnf
 refine A2 l.length (fun j=>Dd (fun _ x=>!(p x)) l j) (fun j=>[(0,.sl 3 Am l),(1,.clo (.func f) first cap),(7,Aa l.length),(8,Aa j)]) (fun _=>[]) [] (A5 _ _) ⟨⟨E,E,Bo _,hc,E,E,E,E,Y⟩,Y,E,E⟩ ?_
 intro j hj hI
 refine rg ?_;conv=>whnf
 refine⟨fun h=>?_,fun h=>?_⟩
 ·have h:=of_decide_eq_true h
  have hj2:j<l.length:=by omega
  refine rg ?_;conv=>whnf
  refine⟨E,by omega,by omega,?_⟩
  conv=>whnf
  refine Ex (hf l[j] (List.getElem_mem hj2)) E E E (by simp only[hin];rfl) E E ?_
  refine rg ?_;conv=>whnf
  refine⟨fun h2=>?_,fun h2=>?_⟩
  ·refine rg ?_;conv=>whnf
   refine Ac E (.cons .tmp .nil) (congrArg Aa ?_) E
   exact C1 hj2 (fun i hi hij=>by simpa using hI i hi hij) h2
  ·refine rg ?_;conv=>whnf
   refine⟨by unfold I64;omega,?_⟩
   conv=>whnf
   exact Aw [] hI hj2 (A3 hI hj2 (by simp[h2])) ⟨⟨E,E,Bo _,hc,E,E,E,E,Y⟩,Y,E,E⟩
 ·have h:=of_decide_eq_false h
  refine rg ?_;conv=>whnf
  refine Ac E (.cons .tmp .nil) (congrArg Aa ?_) E
  exact Dc (fun i hi=>by simpa using hI i hi qn)
theorem U6 (l:List EntryM) (p:EntryM→Bool) (f:FuncId) (first cap:List SV) (hc:(SV.clo (.func f) first cap).inn []=true) (hc0:(SV.clo (.func f) first cap).inn [0]=true) (hf:∀ x∈l,Jn Tryz.prog f (first++[Am x]++cap) (Ad (p x))) (hl:Ar l) :
  Sy.Spec Tryz.prog 186 [.osl 0,.clo (.func f) first cap] [(0,.row 3 Am l)] (.osl 1) [(0,.non),(1,.row 3 Am (l.filter fun x=>!(p x)))]:=Ab Γ hm 100 F186 Tryz.ntmps186 rfl fun F hF=>by
 have qi:=Lz l p f first cap hc hf hl
 unfold Ar at hl
 have hin:∀ x:EntryM,Co [] (first++[Am x]++cap)=true:=fun x=>Dl hc rfl
 conv=>whnf
 refine Zu [0] qi F163 E (.cons (.row E E) (.cons (.refl _) .nil)) (by simp only[Co,hc,Bool.and_true];rfl) E E ?_
 rcases Is p l with ⟨h1,h2⟩ | ⟨i,hi,h1,h2,h3⟩
 ·rw[h1]
  have e1:(l.filter fun x=>!(p x))=l:=List.filter_eq_self.2 (fun x hx=>by simp[h2 x hx])
  rw[e1]
  (refine rg ?_;(conv=>whnf);refine aT ?_;refine rg ?_;conv=>whnf)
  refine Ajt 0 1000 [0,4] E E qz (by simp;exact⟨E,E⟩) ?_
  exact done E (.cons .tmp .nil) [(0,0),(1,1000)] _ (fun _ h=>h) E E ⟨Y,⟨.inl E,E,.inl E,E,Y⟩,E,E⟩
 obtain ⟨f1,f2⟩:=Abx (fun x=>!(p x)) l i qn (fun k hk hki=>by simp[h3 k hk hki])
 have g1:dfC (fun x=>!(p x)) l (i+1+0)=l:=by
  show dfC (fun x=>!(p x)) l (i+1)=l
  simp only[dfC,List.getElem?_eq_getElem hi]
  rw[if_neg (by simp[h2]),f1]
 have g2:E4 (fun x=>!(p x)) l (i+1+0)=i:=by
  show E4 (fun x=>!(p x)) l (i+1)=i
  simp only[E4,List.getElem?_eq_getElem hi]
  rw[if_neg (by simp[h2]),f2]
 rw[h1]
 (refine rg ?_;(conv=>whnf);refine aF ?_;refine rg ?_;conv=>whnf)
 refine⟨by unfold I64;omega,?_⟩
 conv=>whnf
 refine At (l.length-(i+1)) (fun j=>[(0,.osl 0),(1,.clo (.func f) first cap),(5,Aa (E4 (fun x=>!(p x)) l (i+1+j))),(6,Aa ((i+1+j:Nat)))]) (fun j=>[(0,.row 3 Am (dfC (fun x=>!(p x)) l (i+1+j)))]) []
  ⟨⟨rfl,rfl,Bo _,hc0,congrArg Aa (congrArg Int.ofNat g2),rfl,congrArg (fun z=>SV.val (.int .i64 z)) qn,rfl,trivial⟩,⟨.inl (congrArg (Ob.row 3 Am) g1),rfl,trivial⟩,rfl,rfl⟩ ?_
 intro j hj
 have hcl:=Xm (fun x=>!(p x)) l (i+1+j)
 have hdl:=Tl (fun x=>!(p x)) l (i+1+j)
 have hget:=Akn (fun x=>!(p x)) l (i+1+j) (i+1+j) (Nat.le_refl _)
 have s1:∀ h:i+1+j<l.length,E4 (fun x=>!(p x)) l (i+1+(j+1))=if (!(p l[i+1+j]))=true then E4 (fun x=>!(p x)) l (i+1+j)+1 else E4 (fun x=>!(p x)) l (i+1+j):=fun hlt=>by
  show E4 (fun x=>!(p x)) l (i+1+j+1)=_
  simp only[E4,List.getElem?_eq_getElem hlt]
 have s2:∀ h:i+1+j<l.length,dfC (fun x=>!(p x)) l (i+1+(j+1))=if (!(p l[i+1+j]))=true then (dfC (fun x=>!(p x)) l (i+1+j)).set (E4 (fun x=>!(p x)) l (i+1+j)) l[i+1+j] else dfC (fun x=>!(p x)) l (i+1+j):=fun hlt=>by
  show dfC (fun x=>!(p x)) l (i+1+j+1)=_
  simp only[dfC,List.getElem?_eq_getElem hlt]
 have htk:=fun h=>Agi (fun x=>!(p x)) l (i+1+j) h
 obtain ⟨D,hD⟩:∃ D,dfC (fun x=>!(p x)) l (i+1+j)=D:=⟨_,rfl⟩
 obtain ⟨K,hK⟩:∃ K,E4 (fun x=>!(p x)) l (i+1+j)=K:=⟨_,rfl⟩
 rw[hD]at hdl hget s2 htk ⊢
 rw[hK]at hcl s1 s2 htk ⊢
 refine rg ?_;conv=>whnf
 refine⟨fun h=>?_,fun h=>?_⟩
 ·have hlt:i+1+j<l.length:=by have:=of_decide_eq_true h;omega
  have hfx:=hf l[i+1+j] (List.getElem_mem hlt)
  have s1:=s1 hlt
  have s2:=s2 hlt
  rw[List.getElem?_eq_getElem hlt,List.getElem?_eq_getElem qn]at hget
  have hget:=Option.some.inj hget
  obtain ⟨x,hx⟩:∃ x,l[i+1+j]=x:=⟨_,rfl⟩
  rw[hx]at hfx s1 s2 hget
  refine rg ?_;conv=>whnf
  refine⟨by omega,by simp;omega,?_⟩
  conv=>whnf
  refine⟨E,by omega,?_⟩
  rw[show D[((i+1+j:Nat):Int).toNat]'qn=x from hget]
  conv=>whnf
  refine Ex hfx E E E (by simp only[hin];rfl) E E ?_
  cases hpx:p x
  ·rw[hpx]at s1 s2
   (refine rg ?_;(conv=>whnf);refine aT ?_;refine rg ?_;conv=>whnf)
   refine⟨by omega,by simp;omega,?_⟩
   conv=>whnf
   refine⟨E,by omega,x,E,E,?_⟩
   conv=>whnf
   refine⟨by unfold I64;omega,?_⟩
   conv=>whnf
   refine⟨by unfold I64;omega,?_⟩
   conv=>whnf
   exact Aq [] qn ⟨⟨E,E,Bo _,hc0,congrArg Aa (congrArg Int.ofNat s1),E,congrArg (fun z=>SV.val (.int .i64 z)) qn,E,Y⟩,⟨.inl (congrArg (Ob.row 3 Am) s2),E,Y⟩,E,E⟩
  ·rw[hpx]at s1 s2
   (refine rg ?_;(conv=>whnf);refine aF ?_;refine rg ?_;conv=>whnf)
   refine⟨by unfold I64;omega,?_⟩
   conv=>whnf
   exact Aq [] qn ⟨⟨E,E,Bo _,hc0,congrArg Aa (congrArg Int.ofNat s1),E,congrArg (fun z=>SV.val (.int .i64 z)) qn,E,Y⟩,⟨.inl (congrArg (Ob.row 3 Am) s2),E,Y⟩,E,E⟩
 ·have hend:i+1+j=l.length:=by have:=of_decide_eq_false h;omega
  have hne:D≠[]:=fun h=>by rw[h]at hdl;simp at hdl;omega
  have htk:=htk qn
  rw[show l.take (i+1+j)=l from List.take_of_length_le qn]at htk
  refine Akt 0 [0] E hne (by simp;rfl) ?_
  intro b cap' hcap
  refine rg ?_;conv=>whnf
  refine Ai (C9 Γ.toTy E E E E (.inr ⟨_,_,E,E⟩) (.inl ⟨E,E⟩) qn qn) E E ?_
  refine rg ?_;conv=>whnf
  refine Ai (Kl Γ.toTy 0 (k:=K) E E E E qz E E E qn qn) E E ?_
  refine rg ?_;conv=>whnf
  refine Ai (C9 Γ.toTy E E E E (.inl ⟨E,E⟩) (.inr ⟨_,_,E,E⟩) qn qn) E E ?_
  refine rg ?_;conv=>whnf
  refine Xp 0 1000 [4] K E E (by rw[List.length_take];omega) (fun i hi=>?_) ?_
  ·rw[List.mem_singleton]at hi
   subst hi
   show SV.val (.slice (some (if cap'=0 then ⟨b,0,none⟩ else ⟨b,0 * 3,none⟩)) (K-0) (cap'-0))=_
   split<;>simp
  refine done E (.cons .tmp .nil) [(0,0),(1,1000)] _ (fun _ h=>h) E E ⟨Y,⟨.inl E,E,.inl ?_,E,Y⟩,E,E⟩
  rw[← htk]
  exact congrArg (Ob.row 3 Am) (by rw[List.take_take,Nat.min_self])
theorem Aap (l:List EntryM) (i:Nat) (hi:i<l.length) (hl:Ar l) :
  Sy.Spec Tryz.prog 293 [.osl 0,Aa i,Aa ((i+1:Nat):Int)] [(0,.row 3 Am l)] (.osl 1) [(0,.non),(1,.row 3 Am (l.take i++l.drop (i+1)))]:=Ab Γ hm 100 F293 Tryz.ntmps293 rfl fun F hF=>by
 unfold Ar at hl
 have hne:l≠[]:=fun h=>by rw[h]at hi;simp at hi
 conv=>whnf
 refine Akt 0 [0,8] E hne (by simp;exact⟨E,E⟩) ?_
 intro b cap hcap
 refine rg ?_;conv=>whnf
 refine Ai (Aah Γ.toTy E E E E E E E qn qn hcap) E E ?_
 refine rg ?_;conv=>whnf
 refine⟨fun h=>absurd h (by simp;omega),fun _=>?_⟩
 refine rg ?_;conv=>whnf
 refine Bn (C9 Γ.toTy E E E E (.inl ⟨E,E⟩) (.inr ⟨_,_,E,E⟩) qn qn) qy E ?_
 refine rd qy ?_;conv=>whnf
 refine Bn (C9 (hi:=l.length) Γ.toTy E E E E (.inr ⟨_,_,E,E⟩) (.inl ⟨E,E⟩) qn qn) qy E ?_
 refine rd qy ?_;conv=>whnf
 have hif:(if cap=0 then (⟨b,0,none⟩:Addr) else ⟨b,0 * 3,none⟩)=⟨b,0,none⟩:=by split<;>simp
 refine Bn (Xb Γ.toTy 0 (n:=l.length) (i:=i) (j:=i+1) E E E (congrArg (fun z=>SV.val (.slice (some z) i cap)) hif) E E E E qn qn) qy E ?_
 refine rd qy ?_;conv=>whnf
 refine⟨qy,?_⟩
 conv=>whnf
 refine Ai (C9 (lo:=i+(l.length-(i+1))) (hi:=l.length) Γ.toTy E E E E (.inr ⟨_,_,E,E⟩) (.inr ⟨_,_,E,E⟩) qn qn) E E ?_
 refine rg ?_;conv=>whnf
 have hll:(l.take i++l.drop (i+1)).length=i+(l.length-(i+1)):=by rw[List.length_append,List.length_take,List.length_drop];omega
 refine Ai (Kl Γ.toTy 0 (k:=i+(l.length-(i+1))) E E E E qz E E E qn qn) E E ?_
 refine rg ?_;conv=>whnf
 refine Xp 0 1000 [6] (i+(l.length-(i+1))) E E (by rw[List.length_take];omega) (by simp;rfl) ?_
 refine done E (.cons .tmp .nil) [(0,0),(1,1000)] _ (fun _ h=>h) E E ⟨Y,⟨.inl E,E,.inl ?_,E,Y⟩,E,E⟩
 exact congrArg (Ob.row 3 Am) (by rw[List.take_take,Nat.min_self];exact(List.take_of_length_le qn).symm)
theorem V9 (m:Nat) (h:m<18446744073709551616):Sy.Spec Tryz.prog 97 [Az m] [] (Ad (Ek m)) []:=Ab Γ hm 100 F97 Tryz.ntmps97 rfl fun F hF=>by
 have q:=Lv m h
 conv=>whnf
 refine⟨fun h1=>?_,fun h1=>?_⟩
 ·have h2:m≤281474976710655:=by simp at h1;omega
  refine rg ?_;conv=>whnf
  refine Ah q F162 E E E E E ?_
  refine rg ?_;conv=>whnf
  exact Ac E (.cons .tmp .nil) (congrArg Ad (by rw[Ek,decide_eq_true h2,Bool.true_and])) E
 ·have h2:¬ m≤281474976710655:=by simp at h1;omega
  refine rg ?_;conv=>whnf
  exact Ac E (.cons .tmp .nil) (congrArg Ad (by rw[Ek,decide_eq_false h2,Bool.false_and])) E
theorem Ss (i:Int):Sy.Spec Tryz.prog 98 [Aa i] [] (Ad (Cp i)) []:=Ab Γ hm 100 F98 Tryz.ntmps98 rfl fun F hF=>by
 conv=>whnf
 (repeat' (first | (refine⟨fun h=>?_,fun h=>?_⟩<;>(repeat (first | simp only[decide_eq_true_eq]at h | simp only[decide_eq_false_iff_not]at h))<;>((refine rg ?_);(conv=>whnf))) | (refine Ac rfl (.cons .tmp .nil) ?_ rfl)))
 all_goals (refine congrArg Ad ?_)
 all_goals grind [Cp]
theorem Akz (m:Nat) (e:EntryM):Sy.Spec Tryz.prog 164 [Am e,.ref 1 (Az m) 0] [] (Ad (decide (e.mac=m))) []:=Ab Γ hm 100 F164 Tryz.ntmps164 rfl fun F hF=>by
 conv=>whnf
 refine Ac E (.cons .tmp .nil) ?_ E
 refine congrArg Ad ?_
 rw[Bool.eq_iff_iff];simp;omega
theorem Vl (t:List EntryM) (m:Nat) (hl:Ar t):Sy.Spec Tryz.prog 99 [.sl 3 Am t,Az m] [] (Aa (Ct t m)) []:=Ab Γ hm 100 F99 Tryz.ntmps99 rfl fun F hF=>by
 have q:=Lz t (fun e=>decide (e.mac=m)) 164 [] [.ref 1 (Az m) 0] rfl (fun x _=>⟨⟨_,_,F164⟩,Akz m x⟩) hl
 conv=>whnf
 refine Bg 3 1 (Az m) E E E ?_
 refine rg ?_;conv=>whnf
 refine Ah q F163 E E E E E ?_
 refine rg ?_;conv=>whnf
 exact Ac E (.cons .tmp .nil) E E
theorem Anp (t:List EntryM) (m:Nat) (hl:Ar t):Sy.Spec Tryz.prog 307 [.sl 3 Am t,Az m] [] (.tup [Aa (findE t m).1,Ad (findE t m).2]) []:=Ab Γ hm 100 F307 Tryz.ntmps307 rfl fun F hF=>by
 have q:=Vl t m hl
 have hlt:Ct t m<t.length:=I3 _ _
 have hres:=findE.eq_1 t m
 generalize findE t m=res at *
 generalize Ct t m=i at *
 conv=>whnf
 refine Ah q F99 E E E E E ?_
 refine rg ?_;conv=>whnf
 refine⟨fun h=>?_,fun h=>?_⟩
 ·rw[if_pos (by simpa using h)]at hres
  subst hres
  refine rg ?_;conv=>whnf
  exact Ac E (.cons .tmp (.cons .tmp .nil)) E E
 ·have h0:¬ i<0:=by simpa using h
  have hi:i.toNat<t.length:=by omega
  rw[if_neg h0,List.getElem?_eq_getElem hi]at hres
  subst hres
  refine rg ?_;conv=>whnf
  refine⟨E,by omega,by omega,?_⟩
  conv=>whnf
  exact Ac E (.cons .tmp (.cons .tmp .nil)) E E
theorem Qm (t:List EntryM) (hl:Ar t) (hmac:∀ e∈t,e.mac<18446744073709551616):Sy.Spec Tryz.prog 47 [.sl 3 Am t] [] (Ad (tableB t)) []:=Ab Γ hm 100 F47 Tryz.ntmps47 rfl fun F hF=>by
 unfold Ar at hl
 have hres:=tableB.eq_1 t
 generalize tableB t=res at *
 conv=>whnf
 refine⟨fun h=>?_,fun h=>?_⟩
 ·have h8:¬ t.length≤8:=by simp at h;omega
  rw[decide_eq_false h8,Bool.false_and]at hres
  subst hres
  refine rg ?_;conv=>whnf
  exact Ac E (.cons .tmp .nil) E E
 have h8:t.length≤8:=by simp at h;omega
 rw[decide_eq_true h8,Bool.true_and]at hres
 refine rg ?_;conv=>whnf
 refine A2 t.length (fun j=>Dd (Iv t) t j) (fun j=>[(0,.sl 3 Am t),(8,.sl 3 Am t),(9,Aa t.length),(10,Aa j)]) (fun _=>[]) [] (A5 _ _) ⟨⟨E,E,E,E,E,E,E,E,Y⟩,Y,E,E⟩ ?_
 intro j hj hI
 refine rg ?_;conv=>whnf
 refine⟨fun h=>?_,fun h=>?_⟩
 ·have hlt:j<t.length:=by have:=of_decide_eq_true h;omega
  have q1:=V9 t[j].mac (hmac _ (List.getElem_mem hlt))
  have q2:=Ss t[j].seen
  have q3:=Vl t t[j].mac hl
  have hent:Iv t j t[j]=(Ek t[j].mac && Cp t[j].seen && decide (Ct t t[j].mac=j)):=rfl
  have hbad:Iv t j t[j]=false→res=false:=fun hf=>by rw[hres];exact Be hlt hf
  have hgood:Iv t j t[j]=true→Dd (Iv t) t (j+1):=fun ht=>A3 hI hlt ht
  refine rg ?_;conv=>whnf
  refine⟨E,by omega,by omega,?_⟩
  rw[show t[((j:Nat):Int).toNat]'qn=t[j] from rfl]
  generalize t[j]=x at *
  conv=>whnf
  refine Ah q1 F97 E E E E E ?_
  cases h1:Ek x.mac
  ·rw[hbad (by rw[hent,h1];rfl)]
   (refine rg ?_;(conv=>whnf);refine aT ?_;refine rg ?_;(conv=>whnf);refine aT ?_;refine rg ?_;(conv=>whnf);refine aT ?_;refine rg ?_;conv=>whnf)
   exact Ac E (.cons .tmp .nil) E E
  (refine rg ?_;(conv=>whnf);refine aF ?_;refine rg ?_;conv=>whnf)
  refine Ah q2 F98 E E E E E ?_
  cases h2:Cp x.seen
  ·rw[hbad (by rw[hent,h1,h2];rfl)]
   (refine rg ?_;(conv=>whnf);refine aT ?_;refine rg ?_;(conv=>whnf);refine aT ?_;refine rg ?_;conv=>whnf)
   exact Ac E (.cons .tmp .nil) E E
  (refine rg ?_;(conv=>whnf);refine aF ?_;refine rg ?_;conv=>whnf)
  refine Ah q3 F99 E E E E E ?_
  refine rg ?_;conv=>whnf
  refine⟨fun h3=>?_,fun h3=>?_⟩
  ·rw[hbad (by rw[hent,h1,h2,decide_eq_false (by simpa using h3)];rfl)]
   refine rg ?_;conv=>whnf
   exact Ac E (.cons .tmp .nil) E E
  ·have h4:=hgood (by rw[hent,h1,h2,decide_eq_true (by simpa using h3)];rfl)
   refine rg ?_;conv=>whnf
   refine⟨by unfold I64;omega,?_⟩
   conv=>whnf
   exact Aw [] hI qn h4 ⟨⟨E,E,E,E,E,E,E,E,Y⟩,Y,E,E⟩
 ·have hend:j=t.length:=by have:=of_decide_eq_false h;omega
  subst hend
  rw[hres.trans (Cc hI (Nat.le_refl _))]
  refine rg ?_;conv=>whnf
  exact Ac E (.cons .tmp .nil) E E
theorem Aq5 (now:Int) (hn:Cp now=true) (e:EntryM):Sy.Spec Tryz.prog 187 [Am e,.ref 1 (Aa now) 0] [] (Ad (decide (e.seen<now-4))) []:=Ab Γ hm 100 F187 Tryz.ntmps187 rfl fun F hF=>by
 have hn2:0≤now∧now≤1099511627776:=by simpa [Cp] using hn
 conv=>whnf
 refine⟨by unfold I64;omega,?_⟩
 conv=>whnf
 exact Ac E (.cons .tmp .nil) E E
theorem Aq4 (t:List EntryM) (now:Int) (hl:Ar t) (hmac:∀ e∈t,e.mac<18446744073709551616):Sy.Spec Tryz.prog 107 [.sl 3 Am t,Aa now] [] (.sl 3 Am (ageT t now)) []:=Ab Γ hm 100 F107 Tryz.ntmps107 rfl fun F hF=>by
 have hl2:=hl
 unfold Ar at hl2
 have hres:=ageT.eq_1 t now
 generalize ageT t now=res at *
 have q1:=Qm t hl hmac
 have q2:=Ss now
 conv=>whnf
 refine Ai (Ak [(0,55)] E F48 (Qb t hl2) E Y E ⟨.inr E,Y⟩) E E ?_
 refine rg ?_;conv=>whnf
 refine Ah q1 F47 E E E E E ?_
 cases h1:tableB t
 ·rw[if_pos (.inl h1)]at hres
  subst hres
  (refine rg ?_;(conv=>whnf);refine aT ?_;refine rg ?_;(conv=>whnf);refine aT ?_;refine rg ?_;conv=>whnf)
  refine As 55 E ?_
  exact Ac E (.cons .tmp .nil) E E
 (refine rg ?_;(conv=>whnf);refine aF ?_;refine rg ?_;conv=>whnf)
 refine Ah q2 F98 E E E E E ?_
 cases h2:Cp now
 ·rw[if_pos (.inr h2)]at hres
  subst hres
  (refine rg ?_;(conv=>whnf);refine aT ?_;refine rg ?_;conv=>whnf)
  refine As 55 E ?_
  exact Ac E (.cons .tmp .nil) E E
 rw[if_neg (by simp[h1,h2])]at hres
 (refine rg ?_;(conv=>whnf);refine aF ?_;refine rg ?_;conv=>whnf)
 refine Bg 3 1 (Aa now) E E E ?_
 refine rg ?_;conv=>whnf
 have q3:=U6 t (fun e=>decide (e.seen<now-4)) 187 [] [.ref 1 (Aa now) 0] rfl rfl (fun x _=>⟨⟨_,_,F187⟩,Aq5 now h2 x⟩) hl
 refine Ai (Ak [(0,55),(1,56)] E F186 q3 E ⟨E,Y⟩ E ⟨.inl E,.inr E,Y⟩) E E ?_
 refine rg ?_;conv=>whnf
 refine As 56 E ?_
 refine Ac E (.cons .tmp .nil) ?_ E
 subst hres
 refine congrArg (SV.sl 3 Am) (List.filter_congr fun e _=>?_)
 rw[Bool.eq_iff_iff];simp
theorem S7 (t:List EntryM) (j:Nat) (h:0<t.length) (hj:j≤t.length):oldestU t j<t.length:=by
 induction j with
 | zero=>exact h
 | succ j ih =>
  rw[oldestU]
  split
  ·omega
  ·exact ih qn
theorem Ag0 (t:List EntryM) (hl:Ar t) (h0:0<t.length):Sy.Spec Tryz.prog 292 [.sl 3 Am t] [] (Aa (oldestU t t.length:Nat)) []:=Ab Γ hm 100 F292 Tryz.ntmps292 rfl fun F hF=>by
 unfold Ar at hl
 conv=>whnf
 refine At t.length (fun j=>[(0,.sl 3 Am t),(3,Aa (oldestU t j:Nat)),(6,.sl 3 Am t),(7,Aa t.length),(8,Aa j)]) (fun _=>[]) [] ⟨⟨E,E,E,E,E,E,E,E,E,E,Y⟩,Y,E,E⟩ ?_
 intro j hj
 refine rg ?_;conv=>whnf
 refine⟨fun h=>?_,fun h=>?_⟩
 ·have hlt:j<t.length:=by have:=of_decide_eq_true h;omega
  have hol:=S7 t j h0 qn
  have hs:=oldestU.eq_2 t j
  rw[List.getElem?_eq_getElem hlt,List.getElem?_eq_getElem hol]at hs
  obtain ⟨o,ho⟩:∃ o,oldestU t j=o:=⟨_,rfl⟩
  simp only[ho]at hs hol ⊢
  have hs2:oldestU t (j+1)=if t[j].seen<t[o].seen then j else o:=hs
  refine rg ?_;conv=>whnf
  refine⟨E,by omega,by omega,?_⟩
  rw[show t[((j:Nat):Int).toNat]'qn=t[j] from rfl]
  conv=>whnf
  refine⟨E,by omega,by omega,?_⟩
  rw[show t[((o:Nat):Int).toNat]'qn=t[o] from rfl]
  conv=>whnf
  refine⟨qy,?_⟩
  conv=>whnf
  refine⟨fun h2=>?_,fun h2=>?_⟩
  ·rw[if_pos (of_decide_eq_true h2)]at hs2
   refine rg ?_;conv=>whnf
   refine⟨by unfold I64;omega,?_⟩
   conv=>whnf
   exact Aq [] qn ⟨⟨E,E,congrArg (fun z:Nat=>Aa z) hs2,E,E,E,E,E,E,E,Y⟩,Y,E,E⟩
  ·rw[if_neg (of_decide_eq_false h2)]at hs2
   refine rg ?_;conv=>whnf
   refine⟨by unfold I64;omega,?_⟩
   conv=>whnf
   exact Aq [] qn ⟨⟨E,E,congrArg (fun z:Nat=>Aa z) hs2,E,E,E,E,E,E,E,Y⟩,Y,E,E⟩
 ·have:j=t.length:=by have:=of_decide_eq_false h;omega
  subst this
  refine rg ?_;conv=>whnf
  exact Ac E (.cons .tmp .nil) E E
theorem Aat (t:List EntryM) (m:Nat) (wh now:Int) (hl:Ar t) (hmac:∀ e∈t,e.mac<18446744073709551616) (hm64:m<18446744073709551616) :
  Sy.Spec Tryz.prog 243 [.sl 3 Am t,Az m,Aa wh,Aa now] [] (.sl 3 Am (learnT t m wh now)) []:=Ab Γ hm 100 F243 Tryz.ntmps243 rfl fun F hF=>by
 have hl2:=hl
 unfold Ar at hl2
 have hres:=learnT.eq_1 t m wh now
 generalize learnT t m wh now=res at *
 have q1:=Qm t hl hmac
 have q2:=V9 m hm64
 have q3:=Ss now
 have q4:=Vl t m hl
 conv=>whnf
 refine Ai (Ak [(0,55)] E F48 (Qb t hl2) E Y E ⟨.inr E,Y⟩) E E ?_
 refine rg ?_;conv=>whnf
 refine Ah q1 F47 E E E E E ?_
 cases h1:tableB t
 ·rw[if_pos (.inl h1)]at hres
  subst hres
  (refine rg ?_;(conv=>whnf);refine aT ?_;refine rg ?_;(conv=>whnf);refine aT ?_;refine rg ?_;(conv=>whnf);refine aT ?_;refine rg ?_;conv=>whnf)
  refine As 55 E ?_
  exact Ac E (.cons .tmp .nil) E E
 (refine rg ?_;(conv=>whnf);refine aF ?_;refine rg ?_;conv=>whnf)
 refine Ah q2 F97 E E E E E ?_
 cases h2:Ek m
 ·rw[if_pos (.inr (.inl h2))]at hres
  subst hres
  (refine rg ?_;(conv=>whnf);refine aT ?_;refine rg ?_;(conv=>whnf);refine aT ?_;refine rg ?_;conv=>whnf)
  refine As 55 E ?_
  exact Ac E (.cons .tmp .nil) E E
 (refine rg ?_;(conv=>whnf);refine aF ?_;refine rg ?_;conv=>whnf)
 refine Ah q3 F98 E E E E E ?_
 cases h3:Cp now
 ·rw[if_pos (.inr (.inr h3))]at hres
  subst hres
  (refine rg ?_;(conv=>whnf);refine aT ?_;refine rg ?_;conv=>whnf)
  refine As 55 E ?_
  exact Ac E (.cons .tmp .nil) E E
 rw[if_neg (by simp[h1,h2,h3])]at hres
 have ht8:t.length≤8:=by simp only[tableB,Bool.and_eq_true,decide_eq_true_eq]at h1;exact h1.1
 have hfound:∀ hi:0≤Ct t m,∃ h:(Ct t m).toNat<t.length,t[(Ct t m).toNat].mac=m:=fun hi=>by
  rcases Is (fun e=>decide (EntryM.mac e=m)) t with ⟨h,_⟩ | ⟨k,hk,h,h2,_⟩
  ·rw[Ct,h]at hi
   exact absurd hi qz
  ·have e1:Ct t m=k:=h
   simp only[e1,Int.toNat_natCast]
   exact⟨hk,of_decide_eq_true h2⟩
 generalize Ct t m=i at *
 (refine rg ?_;(conv=>whnf);refine aF ?_;refine rg ?_;conv=>whnf)
 refine Ah q4 F99 E E E E E ?_
 refine rg ?_;conv=>whnf
 refine⟨fun h4=>?_,fun h4=>?_⟩
 ·have h5:0≤i:=by simpa using h4
  obtain ⟨hi,hmm⟩:=hfound h5
  rw[if_pos h5]at hres
  refine rg ?_;conv=>whnf
  have hne:t≠[]:=fun h=>by rw[h]at hi;simp at hi
  refine⟨h5,by omega,?_⟩
  conv=>whnf
  refine⟨hne,?_⟩
  conv=>whnf
  refine⟨E,hi,⟨t[i.toNat].mac,wh,t[i.toNat].seen⟩,E,E,?_⟩
  conv=>whnf
  refine⟨h5,by simp;omega,?_⟩
  conv=>whnf
  refine⟨by simp;exact hne,?_⟩
  conv=>whnf
  refine⟨E,by simp;omega,⟨t[i.toNat].mac,wh,now⟩,by rw[List.getElem_set_self];rfl,by rw[List.getElem_set_self];rfl,?_⟩
  conv=>whnf
  refine As 55 E ?_
  refine rg ?_;conv=>whnf
  refine Ac E (.cons .tmp .nil) (congrArg (SV.sl 3 Am) ?_) E
  rw[hres,List.set_set,hmm]
 ·have h5:¬ 0≤i:=by simp at h4 ⊢;omega
  rw[if_neg h5]at hres
  refine rg ?_;conv=>whnf
  refine⟨fun h6=>?_,fun h6=>?_⟩
  ·have h7:t.length=8:=by simp at h6;omega
   rw[if_pos h7]at hres
   have q5:=Ag0 t hl qn
   have hol:=S7 t t.length qn (Nat.le_refl _)
   refine rg ?_;conv=>whnf
   refine Zu [55] q5 F292 E (.cons (.row E E) .nil) E E E ?_
   generalize oldestU t t.length=o at *
   have q6:=Aap t o hol hl
   refine rg ?_;conv=>whnf
   refine⟨by unfold I64;omega,?_⟩
   conv=>whnf
   refine Ai (Ak [(0,55),(1,56)] E F293 q6 E ⟨E,Y⟩ E ⟨.inl E,.inr E,Y⟩) E E ?_
   refine rg ?_;conv=>whnf
   refine Ai (Ae Γ.toTy 60 rfl rfl rfl rfl rfl (.row rfl) (.lit (e:=Am) (l:=[⟨m,wh,now⟩]) rfl rfl) (fun j hj=>by cases hj;decide) (by simp;omega) (by simp;omega)) rfl rfl ?_
   refine As 60 E ?_
   refine rg ?_;conv=>whnf
   refine Ac E (.cons .tmp .nil) (congrArg (SV.sl 3 Am) ?_) E
   rw[hres,List.eraseIdx_eq_take_drop_succ]
  ·have h7:¬ t.length=8:=by simp at h6;omega
   rw[if_neg h7]at hres
   refine rg ?_;conv=>whnf
   refine Ai (Ae Γ.toTy 60 rfl rfl rfl rfl rfl (.row rfl) (.lit (e:=Am) (l:=[⟨m,wh,now⟩]) rfl rfl) (fun j hj=>by cases hj;decide) (by simp;omega) (by simp;omega)) rfl rfl ?_
   refine As 60 E ?_
   refine rg ?_;conv=>whnf
   exact Ac E (.cons .tmp .nil) (congrArg (SV.sl 3 Am) hres) E
theorem Ado (l:List Int) (hl:l.length<2147483648):Sy.Spec Tryz.prog 95 [.sl 1 Aa l] [] (.osl 0) [(0,.row 1 Aa l)]:=Ab Γ hm 100 F95 Tryz.ntmps95 rfl fun F hF=>by
 conv=>whnf
 refine D7 E (.inl E) E E E .sl E E ?_
 intro b hb
 cases b
 ·(refine rg ?_;(conv=>whnf);refine aF ?_;refine rg ?_;conv=>whnf)
  refine Ai (Ae Γ.toTy 7 E E E E E (.lit (e:=Aa) (l:=[]) E E) .sl za (by simp;omega) (by simp;omega)) E E ?_
  refine rg ?_;conv=>whnf
  exact done E (.cons .tmp .nil) [(0,7)] [(0,.row 1 Aa l)] (fun _ h=>h) E E ⟨Y,⟨.inl E,E,Y⟩,E,E⟩
 ·have h0:l=[]:=List.eq_nil_of_length_eq_zero (hb rfl)
  subst h0
  (refine rg ?_;(conv=>whnf);refine aT ?_;refine rg ?_;conv=>whnf)
  refine Bm 2 1000 1 Aa E E ?_
  exact done E (.cons .tmp .nil) [(0,1000)] [(0,.row 1 Aa [])] (fun _ h=>h) E E ⟨Y,⟨.inl E,E,Y⟩,E,E⟩
theorem Xf (l:List Int) (p:Int→Bool) (f:FuncId) (first cap:List SV) (hc:(SV.clo (.func f) first cap).inn []=true) (hc0:(SV.clo (.func f) first cap).inn [0]=true) (hf:∀ x∈l,Jn Tryz.prog f (first++[Aa x]++cap) (Ad (p x))) (hl:Ar l) :
  Sy.Spec Tryz.prog 291 [.osl 0,.clo (.func f) first cap] [(0,.row 1 Aa l)] (.osl 1) [(0,.non),(1,.row 1 Aa (l.filter fun x=>!(p x)))]:=Ab Γ hm 100 F291 Tryz.ntmps291 rfl fun F hF=>by
 have qi:=Kk l p f first cap hc hf hl
 unfold Ar at hl
 have hin:∀ x:Int,Co [] (first++[Aa x]++cap)=true:=fun x=>Dl hc rfl
 conv=>whnf
 refine Zu [0] qi F321 E (.cons (.row E E) (.cons (.refl _) .nil)) (by simp only[Co,hc,Bool.and_true];rfl) E E ?_
 rcases Is p l with ⟨h1,h2⟩ | ⟨i,hi,h1,h2,h3⟩
 ·rw[h1]
  have e1:(l.filter fun x=>!(p x))=l:=List.filter_eq_self.2 (fun x hx=>by simp[h2 x hx])
  rw[e1]
  (refine rg ?_;(conv=>whnf);refine aT ?_;refine rg ?_;conv=>whnf)
  refine Ajt 0 1000 [0,4] E E qz (by simp;exact⟨E,E⟩) ?_
  exact done E (.cons .tmp .nil) [(0,0),(1,1000)] _ (fun _ h=>h) E E ⟨Y,⟨.inl E,E,.inl E,E,Y⟩,E,E⟩
 obtain ⟨f1,f2⟩:=Abx (fun x=>!(p x)) l i qn (fun k hk hki=>by simp[h3 k hk hki])
 have g1:dfC (fun x=>!(p x)) l (i+1+0)=l:=by
  show dfC (fun x=>!(p x)) l (i+1)=l
  simp only[dfC,List.getElem?_eq_getElem hi]
  rw[if_neg (by simp[h2]),f1]
 have g2:E4 (fun x=>!(p x)) l (i+1+0)=i:=by
  show E4 (fun x=>!(p x)) l (i+1)=i
  simp only[E4,List.getElem?_eq_getElem hi]
  rw[if_neg (by simp[h2]),f2]
 rw[h1]
 (refine rg ?_;(conv=>whnf);refine aF ?_;refine rg ?_;conv=>whnf)
 refine⟨by unfold I64;omega,?_⟩
 conv=>whnf
 refine At (l.length-(i+1)) (fun j=>[(0,.osl 0),(1,.clo (.func f) first cap),(5,Aa (E4 (fun x=>!(p x)) l (i+1+j))),(6,Aa ((i+1+j:Nat)))]) (fun j=>[(0,.row 1 Aa (dfC (fun x=>!(p x)) l (i+1+j)))]) []
  ⟨⟨rfl,rfl,Bo _,hc0,congrArg Aa (congrArg Int.ofNat g2),rfl,congrArg (fun z=>SV.val (.int .i64 z)) qn,rfl,trivial⟩,⟨.inl (congrArg (Ob.row 1 Aa) g1),rfl,trivial⟩,rfl,rfl⟩ ?_
 intro j hj
 have hcl:=Xm (fun x=>!(p x)) l (i+1+j)
 have hdl:=Tl (fun x=>!(p x)) l (i+1+j)
 have hget:=Akn (fun x=>!(p x)) l (i+1+j) (i+1+j) (Nat.le_refl _)
 have s1:∀ h:i+1+j<l.length,E4 (fun x=>!(p x)) l (i+1+(j+1))=if (!(p l[i+1+j]))=true then E4 (fun x=>!(p x)) l (i+1+j)+1 else E4 (fun x=>!(p x)) l (i+1+j):=fun hlt=>by
  show E4 (fun x=>!(p x)) l (i+1+j+1)=_
  simp only[E4,List.getElem?_eq_getElem hlt]
 have s2:∀ h:i+1+j<l.length,dfC (fun x=>!(p x)) l (i+1+(j+1))=if (!(p l[i+1+j]))=true then (dfC (fun x=>!(p x)) l (i+1+j)).set (E4 (fun x=>!(p x)) l (i+1+j)) l[i+1+j] else dfC (fun x=>!(p x)) l (i+1+j):=fun hlt=>by
  show dfC (fun x=>!(p x)) l (i+1+j+1)=_
  simp only[dfC,List.getElem?_eq_getElem hlt]
 have htk:=fun h=>Agi (fun x=>!(p x)) l (i+1+j) h
 obtain ⟨D,hD⟩:∃ D,dfC (fun x=>!(p x)) l (i+1+j)=D:=⟨_,rfl⟩
 obtain ⟨K,hK⟩:∃ K,E4 (fun x=>!(p x)) l (i+1+j)=K:=⟨_,rfl⟩
 rw[hD]at hdl hget s2 htk ⊢
 rw[hK]at hcl s1 s2 htk ⊢
 refine rg ?_;conv=>whnf
 refine⟨fun h=>?_,fun h=>?_⟩
 ·have hlt:i+1+j<l.length:=by have:=of_decide_eq_true h;omega
  have hfx:=hf l[i+1+j] (List.getElem_mem hlt)
  have s1:=s1 hlt
  have s2:=s2 hlt
  rw[List.getElem?_eq_getElem hlt,List.getElem?_eq_getElem qn]at hget
  have hget:=Option.some.inj hget
  obtain ⟨x,hx⟩:∃ x,l[i+1+j]=x:=⟨_,rfl⟩
  rw[hx]at hfx s1 s2 hget
  refine rg ?_;conv=>whnf
  refine⟨by omega,by simp;omega,?_⟩
  conv=>whnf
  refine⟨E,by omega,?_⟩
  rw[show D[((i+1+j:Nat):Int).toNat]'qn=x from hget]
  conv=>whnf
  refine Ex hfx E E E (by simp only[hin];rfl) E E ?_
  cases hpx:p x
  ·rw[hpx]at s1 s2
   (refine rg ?_;(conv=>whnf);refine aT ?_;refine rg ?_;conv=>whnf)
   refine⟨by omega,by simp;omega,?_⟩
   conv=>whnf
   refine⟨E,by omega,x,E,E,?_⟩
   conv=>whnf
   refine⟨by unfold I64;omega,?_⟩
   conv=>whnf
   refine⟨by unfold I64;omega,?_⟩
   conv=>whnf
   exact Aq [] qn ⟨⟨E,E,Bo _,hc0,congrArg Aa (congrArg Int.ofNat s1),E,congrArg (fun z=>SV.val (.int .i64 z)) qn,E,Y⟩,⟨.inl (congrArg (Ob.row 1 Aa) s2),E,Y⟩,E,E⟩
  ·rw[hpx]at s1 s2
   (refine rg ?_;(conv=>whnf);refine aF ?_;refine rg ?_;conv=>whnf)
   refine⟨by unfold I64;omega,?_⟩
   conv=>whnf
   exact Aq [] qn ⟨⟨E,E,Bo _,hc0,congrArg Aa (congrArg Int.ofNat s1),E,congrArg (fun z=>SV.val (.int .i64 z)) qn,E,Y⟩,⟨.inl (congrArg (Ob.row 1 Aa) s2),E,Y⟩,E,E⟩
 ·have hend:i+1+j=l.length:=by have:=of_decide_eq_false h;omega
  have hne:D≠[]:=fun h=>by rw[h]at hdl;simp at hdl;omega
  have htk:=htk qn
  rw[show l.take (i+1+j)=l from List.take_of_length_le qn]at htk
  refine Akt 0 [0] E hne (by simp;rfl) ?_
  intro b cap' hcap
  refine rg ?_;conv=>whnf
  refine Ai (C9 Γ.toTy E E E E (.inr ⟨_,_,E,E⟩) (.inl ⟨E,E⟩) qn qn) E E ?_
  refine rg ?_;conv=>whnf
  refine Ai (Kl Γ.toTy 0 (k:=K) E E E E qz E E E qn qn) E E ?_
  refine rg ?_;conv=>whnf
  refine Ai (C9 Γ.toTy E E E E (.inl ⟨E,E⟩) (.inr ⟨_,_,E,E⟩) qn qn) E E ?_
  refine rg ?_;conv=>whnf
  refine Xp 0 1000 [4] K E E (by rw[List.length_take];omega) (fun i hi=>?_) ?_
  ·rw[List.mem_singleton]at hi
   subst hi
   show SV.val (.slice (some (if cap'=0 then ⟨b,0,none⟩ else ⟨b,0 * 1,none⟩)) (K-0) (cap'-0))=_
   split<;>simp
  refine done E (.cons .tmp .nil) [(0,0),(1,1000)] _ (fun _ h=>h) E E ⟨Y,⟨.inl E,E,.inl ?_,E,Y⟩,E,E⟩
  rw[← htk]
  exact congrArg (Ob.row 1 Aa) (by rw[List.take_take,Nat.min_self])
def Me (n:Net) (fw:List Bool) (at_ from_:Int) (ml:List Int):SV :=
 .agg [.sl 5 Bt n.devices,.sl 7 Bj n.ports,.sl 3 Cu n.links,.sl 6 A1 n.domains,.sl 4 Br n.statics,.sl 4 Ca n.floods,.sl 5 C6 n.vrfs,.sl 5 Du n.irbs,.sl 1 Ad fw,Aa at_,Aa from_,.sl 1 Aa ml]
theorem Aqy (n:Net) (fw:List Bool) (p:Int) (h0:0≤p) (hp:p<n.ports.length) (hl:(nth n.ports p).link<fw.length):Sy.Spec Tryz.prog 290 [Ap n,.sl 1 Ad fw,Aa p] [] (Ad (usableB n fw p)) []:=Ab Γ hm 100 F290 Tryz.ntmps290 rfl fun F hF=>by
 have hk:p.toNat<n.ports.length:=by omega
 have e1:nth n.ports p=n.ports[p.toNat]:=Ao hk
 have hu:=usableB.eq_1 n fw p
 generalize usableB n fw p=res at *
 rw[e1]at hu hl
 obtain ⟨q,hq⟩:∃ q,n.ports[p.toNat]'hk=q:=⟨_,rfl⟩
 rw[hq]at hu hl
 conv=>whnf
 refine⟨E,h0,hk,?_⟩
 rw[hq]
 conv=>whnf
 refine⟨fun h=>?_,fun h=>?_⟩
 ·rw[h,Bool.true_or]at hu
  subst hu
  refine rg ?_;conv=>whnf
  exact Ac E (.cons .tmp .nil) E E
 ·rw[h,Bool.false_or]at hu
  have h1:¬ q.link<0:=of_decide_eq_false h
  have h2:q.link.toNat<fw.length:=by omega
  rw[List.getElem?_eq_getElem h2]at hu
  refine rg ?_;conv=>whnf
  refine⟨E,by omega,h2,?_⟩
  conv=>whnf
  exact Ac E (.cons .tmp .nil) (congrArg Ad hu) E
theorem portsC (n:Net) (fw:List Bool) (at_ from_:Int) (ml:List Int) (p:Int) (h0:0≤p) (hp:p<n.ports.length) (hl:(nth n.ports p).link<fw.length) :
  Sy.Spec Tryz.prog 289 [Aa p,.ref 1 (.ref 12 (Me n fw at_ from_ ml) 0) 0] [] (Ad (decide (p=from_) || !(usableB n fw p))) []:=Ab Γ hm 100 F289 Tryz.ntmps289 rfl fun F hF=>by
 have q:=Aqy n fw p h0 hp hl
 conv=>whnf
 refine⟨fun h=>?_,fun h=>?_⟩
 ·have h1:p=from_:=by simpa using h
  refine rd qy ?_;conv=>whnf
  refine⟨qy,?_⟩
  conv=>whnf
  exact Ac E (.cons .tmp .nil) (congrArg Ad (by rw[decide_eq_true h1,Bool.true_or])) E
 ·have h1:¬ p=from_:=by simpa using h
  refine rd qy ?_;conv=>whnf
  refine Au q F290 E E E qy E ?_
  refine rd qy ?_;conv=>whnf
  refine⟨qy,?_⟩
  conv=>whnf
  exact Ac E (.cons .tmp .nil) (congrArg Ad (by rw[decide_eq_false h1,Bool.false_or])) E
def Akr (n:Net) (fw:List Bool) (l:List Int):Prop:=∀ p∈l,0≤p∧p<n.ports.length∧(nth n.ports p).link<fw.length
theorem Ah0 (n:Net) (fw:List Bool) (at_ from_:Int) (ml l:List Int) (hl:Ar l) (hp:Akr n fw l) :
  Sy.Spec Tryz.prog 241 [.ref 12 (Me n fw at_ from_ ml) 0,.sl 1 Aa l] [] (.sl 1 Aa (Cf n fw from_ l)) []:=Ab Γ hm 100 F241 Tryz.ntmps241 rfl fun F hF=>by
 have q:=Xf l (fun p=>decide (p=from_) || !(usableB n fw p)) 289 [] [.ref 1 (.ref 12 (Me n fw at_ from_ ml) 0) 0] rfl rfl (fun p h=>⟨⟨_,_,F289⟩,portsC n fw at_ from_ ml p (hp p h).1 (hp p h).2.1 (hp p h).2.2⟩) hl
 unfold Ar at hl
 conv=>whnf
 refine Bg 2 1 (.ref 12 (Me n fw at_ from_ ml) 0) E E E ?_
 refine rg ?_;conv=>whnf
 refine Ai (Ak [(0,55)] E F95 (Ado l hl) E Y E ⟨.inr E,Y⟩) E E ?_
 refine rg ?_;conv=>whnf
 refine Ai (Ak [(0,55),(1,56)] E F291 q E ⟨E,Y⟩ E ⟨.inl E,.inr E,Y⟩) E E ?_
 refine rg ?_;conv=>whnf
 refine As 56 E ?_
 exact Ac E (.cons .tmp .nil) E E
theorem Aj3 (n:Net) (hn:n.Fin) (fw:List Bool) (dom from_:Int) (ml:List Int) (hd:Al dom n.domains.length=true) :
  Sy.Spec Tryz.prog 242 [.ref 12 (Me n fw dom from_ ml) 0] [] (.sl 1 Aa (peersOut n dom from_)) []:=Ab Γ hm 100 F242 Tryz.ntmps242 rfl fun F hF=>by
 have hdi:=Bd hd
 have hd0:0≤dom:=hdi.1
 have hkd:dom.toNat<n.domains.length:=by omega
 have e2:nth n.domains dom=n.domains[dom.toNat]:=Ao hkd
 have hpe:=hn.peers _ (List.getElem_mem hkd)
 have hres:=peersOut.eq_1 n dom from_
 generalize peersOut n dom from_=res at *
 rw[e2]at hres
 obtain ⟨d,hdd⟩:∃ d,n.domains[dom.toNat]'hkd=d:=⟨_,rfl⟩
 rw[hdd]at hres hpe
 have qc:=L5 d.peers hpe
 conv=>whnf
 refine⟨fun h=>?_,fun h=>?_⟩
 ·rw[if_pos (by simpa using h)]at hres
  subst hres
  refine rg ?_;conv=>whnf
  refine An 2 1 Aa E ?_
  exact Ac E (.cons .tmp .nil) E E
 ·rw[if_neg (by simpa using h)]at hres
  subst hres
  refine rg ?_;conv=>whnf
  refine⟨E,hd0,hkd,?_⟩
  rw[hdd]
  conv=>whnf
  refine Au qc F95 E E E qy E ?_
  refine rd qy ?_;conv=>whnf
  refine⟨qy,?_⟩
  conv=>whnf
  exact Ac E (.cons .tmp .nil) E E
def Km (n:Net) (fw:List Bool) (dom:Int):Bool:=Al dom n.domains.length && decide (fw.length=n.links.length) && Ag n
theorem Ajy (n:Net) (hn:n.Fin) (fw:List Bool) (dom from_:Int) (h:Km n fw dom=false) :
  Sy.Spec Tryz.prog 240 [Ap n,.sl 1 Ad fw,Aa dom,Aa from_] [] (.tup [.val (.pointer none),Ad false]) []:=Ab Γ hm 100 F240 Tryz.ntmps240 rfl fun F hF=>by
 have qr:=B5 n hn
 conv=>whnf
 refine⟨fun h1=>?_,fun h1=>?_⟩
 ·(refine rg ?_;(conv=>whnf);refine aT ?_;refine rg ?_;(conv=>whnf);refine aT ?_;refine rg ?_;(conv=>whnf);refine aT ?_;refine rg ?_;conv=>whnf)
  exact Ac E (.cons .tmp (.cons .tmp .nil)) E E
 refine rg ?_;conv=>whnf
 refine⟨fun h2=>?_,fun h2=>?_⟩
 ·(refine rg ?_;(conv=>whnf);refine aT ?_;refine rg ?_;(conv=>whnf);refine aT ?_;refine rg ?_;conv=>whnf)
  exact Ac E (.cons .tmp (.cons .tmp .nil)) E E
 refine rg ?_;conv=>whnf
 refine⟨fun h3=>?_,fun h3=>?_⟩
 ·(refine rg ?_;(conv=>whnf);refine aT ?_;refine rg ?_;conv=>whnf)
  exact Ac E (.cons .tmp (.cons .tmp .nil)) E E
 refine rg ?_;conv=>whnf
 refine Ah qr F67 E E E E E ?_
 cases hbn:Ag n
 ·(refine rg ?_;(conv=>whnf);refine aT ?_;refine rg ?_;conv=>whnf)
  exact Ac E (.cons .tmp (.cons .tmp .nil)) E E
 ·exfalso
  have h4:Al dom n.domains.length=true:=Cg ⟨by simp at h1;omega,by simp at h2;omega⟩
  have h5:fw.length=n.links.length:=by simp at h3;omega
  simp[Km,h4,h5,hbn]at h
theorem An8 (n:Net) (hn:n.Fin) (fw:List Bool) (dom from_:Int) (h:Km n fw dom=true) :
  Sy.Spec Tryz.prog 240 [Ap n,.sl 1 Ad fw,Aa dom,Aa from_] [] (.tup [.ref 12 (Me n fw dom from_ (A0 n dom)) 0,Ad (decide (from_=-1) || decide (from_=-2) || inB (A0 n dom) from_)]) []:=Ab Γ hm 100 F240 Tryz.ntmps240 rfl fun F hF=>by
 have qr:=B5 n hn
 simp only[Km,Bool.and_eq_true,decide_eq_true_eq]at h
 obtain ⟨⟨hd,hfw⟩,hbn⟩:=h
 rw[hbn]at qr
 have hdi:=Bd hd
 have qm:=Z9 n hn dom
 have qc:=D2 (Ch n dom) from_ (Id n hn dom)
 have hmt:Ch n dom=A0 n dom:=by rw[Ch,if_pos ⟨⟨hdi.1,hdi.2⟩,hbn⟩]
 rw[hmt]at qm qc
 generalize A0 n dom=ml at *
 conv=>whnf
 refine⟨fun h1=>absurd h1 (by simp;omega),fun _=>?_⟩
 refine rg ?_;conv=>whnf
 refine⟨fun h1=>absurd h1 (by simp;omega),fun _=>?_⟩
 refine rg ?_;conv=>whnf
 refine⟨fun h1=>absurd h1 (by simp;omega),fun _=>?_⟩
 refine rg ?_;conv=>whnf
 refine Ah qr F67 E E E E E ?_
 (refine rg ?_;(conv=>whnf);refine aF ?_;refine rg ?_;conv=>whnf)
 refine Au qm F288 E E E qy E ?_
 refine rd qy ?_;conv=>whnf
 refine⟨qy,?_⟩
 conv=>whnf
 refine⟨fun h1=>?_,fun h1=>?_⟩
 ·have h2:from_=-1:=by simpa using h1
  refine Bg 41 12 (Me n fw dom from_ ml) E E E ?_
  (refine rg ?_;(conv=>whnf);refine aT ?_;refine rg ?_;conv=>whnf)
  exact Ac E (.cons .tmp (.cons .tmp .nil)) (congrArg (fun z=>SV.tup [_,Ad z]) (by simp[h2])) E
 have h2:¬ from_=-1:=by simpa using h1
 refine Bg 41 12 (Me n fw dom from_ ml) E E E ?_
 refine rg ?_;conv=>whnf
 refine⟨fun h3=>?_,fun h3=>?_⟩
 ·have h4:from_=-2:=by simpa using h3
  refine rg ?_;conv=>whnf
  exact Ac E (.cons .tmp (.cons .tmp .nil)) (congrArg (fun z=>SV.tup [_,Ad z]) (by simp[h4])) E
 have h4:¬ from_=-2:=by simpa using h3
 refine rg ?_;conv=>whnf
 refine Ah qc F86 E E E E E ?_
 refine rg ?_;conv=>whnf
 exact Ac E (.cons .tmp (.cons .tmp .nil)) (congrArg (fun z=>SV.tup [_,Ad z]) (by simp[h2,h4])) E
theorem Mk {n:Net} (hb:Ag n=true) {p:Int} (h0:0≤p) (hp:p<n.ports.length):(nth n.ports p).link<n.links.length:=by
 have hk:p.toNat<n.ports.length:=by omega
 have e1:nth n.ports p=n.ports[p.toNat]:=Ao hk
 rw[e1]
 by_cases hl:0≤n.ports[p.toNat].link
 ·have:=K5 hb hk hl
  omega
 ·omega
theorem Yp {n:Net} {fw:List Bool} (hb:Ag n=true) (hf:fw.length=n.links.length) {l:List Int} (h:∀ p∈l,0≤p∧p<n.ports.length):Akr n fw l:=fun p hp =>
 ⟨(h p hp).1,(h p hp).2,by rw[hf];exact Mk hb (h p hp).1 (h p hp).2⟩
theorem B3 {n:Net} {dom:Int}:∀ p∈A0 n dom,0≤p∧p<n.ports.length:=fun p hp=>by
 rw[A0,filtI_mem]at hp
 exact⟨hp.1,hp.2.1⟩
theorem I2 {n:Net} (hn:n.Fin) (dom:Int):Ar (A0 n dom):=by
 have h1:=Eh (Jd n (nth n.domains dom)) n.ports.length
 have h2:=hn.ports
 unfold Ar at *
 rw[A0]
 omega
theorem I6 (n:Net) (fw:List Bool) (dom from_:Int):roomB n fw dom from_=(Km n fw dom && (decide (from_=-1) || decide (from_=-2) || inB (A0 n dom) from_)):=rfl
theorem floodS (n:Net) (hn:n.Fin) (fw:List Bool) (dom from_:Int) :
  Sy.Spec Tryz.prog 171 [Ap n,.sl 1 Ad fw,Aa dom,Aa from_] [] (.tup [.sl 1 Aa (floodT n fw dom from_).1,.sl 1 Aa (floodT n fw dom from_).2.1,Aa (floodT n fw dom from_).2.2]) []:=Ab Γ hm 100 F171 Tryz.ntmps171 rfl fun F hF=>by
 have hres:=floodT.eq_1 n fw dom from_
 generalize floodT n fw dom from_=res at *
 rw[I6]at hres
 cases hbase:Km n fw dom
 ·rw[hbase,Bool.false_and,if_pos rfl]at hres
  subst hres
  have q:=Ajy n hn fw dom from_ hbase
  conv=>whnf
  refine Ah q F240 E E E E E ?_
  (refine rg ?_;(conv=>whnf);refine aT ?_;refine rg ?_;conv=>whnf)
  refine An 8 1 Aa E ?_
  refine An 9 1 Aa E ?_
  exact Ac E (.cons .tmp (.cons .tmp (.cons .tmp .nil))) E E
 rw[hbase,Bool.true_and]at hres
 have q:=An8 n hn fw dom from_ hbase
 have hb2:=hbase
 simp only[Km,Bool.and_eq_true,decide_eq_true_eq]at hb2
 obtain ⟨⟨hd,hfw⟩,hbn⟩:=hb2
 have qp:=Ah0 n fw dom from_ (A0 n dom) (A0 n dom) (I2 hn dom) (Yp hbn hfw B3)
 have qe:=Aj3 n hn fw dom from_ (A0 n dom) hd
 generalize (decide (from_=-1) || decide (from_=-2) || inB (A0 n dom) from_)=ok at *
 generalize A0 n dom=ml at *
 conv=>whnf
 refine Ah q F240 E E E E E ?_
 cases ok
 ·rw[if_pos rfl]at hres
  subst hres
  (refine rg ?_;(conv=>whnf);refine aT ?_;refine rg ?_;conv=>whnf)
  refine An 8 1 Aa E ?_
  refine An 9 1 Aa E ?_
  exact Ac E (.cons .tmp (.cons .tmp (.cons .tmp .nil))) E E
 rw[if_neg qz]at hres
 subst hres
 (refine rg ?_;(conv=>whnf);refine aF ?_;refine rg ?_;conv=>whnf)
 refine Ah qp F241 E E E E E ?_
 refine rg ?_;conv=>whnf
 refine Ah qe F242 E E E E E ?_
 refine rg ?_;conv=>whnf
 exact Ac E (.cons .tmp (.cons .tmp (.cons .tmp .nil))) E E
theorem Ut (l:List Static) (p:Static→Bool) (f:FuncId) (first cap:List SV) (hc:(SV.clo (.func f) first cap).inn []=true) (hf:∀ x∈l,Jn Tryz.prog f (first++[Br x]++cap) (Ad (p x))) (hl:Ar l) :
  Sy.Spec Tryz.prog 346 [.sl 4 Br l,.clo (.func f) first cap] [] (Aa (Dh p l)) []:=Ab Γ hm 100 F346 Tryz.ntmps346 rfl fun F hF=>by
 unfold Ar at hl
 have hin:∀ x:Static,Co [] (first++[Br x]++cap)=true:=fun x=>Dl hc rfl
 conv=>whnf
 refine A2 l.length (fun j=>Dd (fun _ x=>!(p x)) l j) (fun j=>[(0,.sl 4 Br l),(1,.clo (.func f) first cap),(7,Aa l.length),(8,Aa j)]) (fun _=>[]) [] (A5 _ _) ⟨⟨E,E,Bo _,hc,E,E,E,E,Y⟩,Y,E,E⟩ ?_
 intro j hj hI
 refine rg ?_;conv=>whnf
 refine⟨fun h=>?_,fun h=>?_⟩
 ·have h:=of_decide_eq_true h
  have hj2:j<l.length:=by omega
  refine rg ?_;conv=>whnf
  refine⟨E,by omega,by omega,?_⟩
  conv=>whnf
  refine Ex (hf l[j] (List.getElem_mem hj2)) E E E (by simp only[hin];rfl) E E ?_
  refine rg ?_;conv=>whnf
  refine⟨fun h2=>?_,fun h2=>?_⟩
  ·refine rg ?_;conv=>whnf
   refine Ac E (.cons .tmp .nil) (congrArg Aa ?_) E
   exact C1 hj2 (fun i hi hij=>by simpa using hI i hi hij) h2
  ·refine rg ?_;conv=>whnf
   refine⟨by unfold I64;omega,?_⟩
   conv=>whnf
   exact Aw [] hI hj2 (A3 hI hj2 (by simp[h2])) ⟨⟨E,E,Bo _,hc,E,E,E,E,Y⟩,Y,E,E⟩
 ·have h:=of_decide_eq_false h
  refine rg ?_;conv=>whnf
  refine Ac E (.cons .tmp .nil) (congrArg Aa ?_) E
  exact Dc (fun i hi=>by simpa using hI i hi qn)
theorem entryC (dom:Int) (m:Nat) (s:Static):Sy.Spec Tryz.prog 347 [Br s,.ref 1 (Aa dom) 0,.ref 1 (Az m) 0] [] (Ad (decide (s.domain=dom) && decide (s.mac=(m:Int)))) []:=Ab Γ hm 100 F347 Tryz.ntmps347 rfl fun F hF=>by
 conv=>whnf
 refine⟨fun h=>?_,fun h=>?_⟩
 ·refine rg ?_;conv=>whnf
  refine Ac E (.cons .tmp .nil) (congrArg Ad ?_) E
  have h1:s.domain=dom:=by simpa using h
  rw[decide_eq_true h1,Bool.true_and,Bool.eq_iff_iff]
  simp
 ·refine rg ?_;conv=>whnf
  refine Ac E (.cons .tmp .nil) (congrArg Ad ?_) E
  have h1:¬ s.domain=dom:=by simpa using h
  rw[decide_eq_false h1,Bool.false_and]
theorem entryI (n:Net) (hn:n.Fin) (dom:Int) (m:Nat):Sy.Spec Tryz.prog 333 [Ap n,Aa dom,Az m] [] (Aa (Dj n dom m)) []:=Ab Γ hm 100 F333 Tryz.ntmps333 rfl fun F hF=>by
 have q:=Ut n.statics (fun s:Static=>decide (s.domain=dom) && decide (s.mac=(m:Int))) 347 [] [.ref 1 (Aa dom) 0,.ref 1 (Az m) 0] rfl (fun x _=>⟨⟨_,_,F347⟩,entryC dom m x⟩) hn.statics
 conv=>whnf
 refine Bg 4 1 (Aa dom) E E E ?_
 refine Bg 5 1 (Az m) E E E ?_
 refine rg ?_;conv=>whnf
 refine Ah q F346 E E E E E ?_
 refine rg ?_;conv=>whnf
 exact Ac E (.cons .tmp .nil) E E
def staticP (n:Net) (dom:Int) (m:Nat):Int:=if 0≤Dj n dom m then (nth n.statics (Dj n dom m)).port else -1
theorem Ajc (n:Net) (hn:n.Fin) (hb:Ag n=true) (dom:Int) (m:Nat):Sy.Spec Tryz.prog 306 [Ap n,Aa dom,Az m] [] (Aa (staticP n dom m)) []:=Ab Γ hm 100 F306 Tryz.ntmps306 rfl fun F hF=>by
 have q:=entryI n hn dom m
 have qr:=B5 n hn
 rw[hb]at qr
 have hlt:Dj n dom m<n.statics.length:=I3 _ _
 have hres:=staticP.eq_1 n dom m
 generalize staticP n dom m=res at *
 generalize Dj n dom m=i at *
 conv=>whnf
 refine Ah q F333 E E E E E ?_
 refine rg ?_;conv=>whnf
 refine⟨fun h=>?_,fun h=>?_⟩
 ·rw[if_neg (by simp at h;omega)]at hres
  subst hres
  (refine rg ?_;(conv=>whnf);refine aT ?_;refine rg ?_;conv=>whnf)
  exact Ac E (.cons .tmp .nil) E E
 ·have h0:0≤i:=by simp at h;omega
  have hk:i.toNat<n.statics.length:=by omega
  have e1:nth n.statics i=n.statics[i.toNat]:=Ao hk
  rw[if_pos h0,e1]at hres
  refine rg ?_;conv=>whnf
  refine Ah qr F67 E E E E E ?_
  (refine rg ?_;(conv=>whnf);refine aF ?_;refine rg ?_;conv=>whnf)
  refine⟨E,h0,hk,?_⟩
  conv=>whnf
  exact Ac E (.cons .tmp .nil) (congrArg Aa hres) E
def knownT (n:Net) (fw:List Bool) (t:List EntryM) (dom from_:Int) (m:Nat):List Int × List Int × Bool :=
 if 0≤staticP n dom m then (Cf n fw from_ [staticP n dom m],[],true)
 else if (findE t m).2=false then ([],[],false)
 else if 0≤(findE t m).1∧inB (A0 n dom) (findE t m).1=true then (Cf n fw from_ [(findE t m).1],[],true)
 else if (findE t m).1<0∧inB (nth n.domains dom).peers (-1-(findE t m).1)=true then (if from_=-1 then ([],[],true) else ([],[-1-(findE t m).1],true))
 else ([],[],false)
theorem Oc {n:Net} (hb:Ag n=true) (dom:Int) (m:Nat) (h:0≤staticP n dom m):staticP n dom m<n.ports.length:=by
 unfold staticP at h ⊢
 split at h
 ·rename_i h0
  rw[if_pos h0]
  have hlt:Dj n dom m<n.statics.length:=I3 _ _
  have hk:(Dj n dom m).toNat<n.statics.length:=by omega
  simp only[Ag,Bool.and_eq_true]at hb
  have:=allB_iff.1 hb.1.1.1.2 _ hk
  simp only[Hi,Bool.and_eq_true,Al,decide_eq_true_eq]at this
  rw[Ao hk]
  exact this.1.1.2.2
 ·omega
theorem knownS (n:Net) (hn:n.Fin) (fw:List Bool) (t:List EntryM) (dom from_:Int) (m:Nat) (hl:Ar t) (hw:I64 (-1-(findE t m).1)) (hbase:Km n fw dom=true) :
  Sy.Spec Tryz.prog 249 [.ref 12 (Me n fw dom from_ (A0 n dom)) 0,.sl 3 Am t,Az m] [] (.tup [.sl 1 Aa (knownT n fw t dom from_ m).1,.sl 1 Aa (knownT n fw t dom from_ m).2.1,Ad (knownT n fw t dom from_ m).2.2]) []:=Ab Γ hm 100 F249 Tryz.ntmps249 rfl fun F hF=>by
 simp only[Km,Bool.and_eq_true,decide_eq_true_eq]at hbase
 obtain ⟨⟨hd,hfw⟩,hbn⟩:=hbase
 have hdi:=Bd hd
 have hd0:0≤dom:=hdi.1
 have hkd:dom.toNat<n.domains.length:=by omega
 have e2:nth n.domains dom=n.domains[dom.toNat]:=Ao hkd
 have hpe:=hn.peers _ (List.getElem_mem hkd)
 have hres:=knownT.eq_1 n fw t dom from_ m
 have qs:=Ajc n hn hbn dom m
 have hsp:=Oc hbn dom m
 have qf:=Anp t m hl
 have qp:∀ p:Int,0≤p→p<n.ports.length→_:=fun p h0 h1=>Ah0 n fw dom from_ (A0 n dom) [p] (by unfold Ar;simp) (Yp hbn hfw (l:=[p]) (fun x hx=>by rw[List.mem_singleton]at hx;subst hx;exact⟨h0,h1⟩))
 have hmem:∀ p,inB (A0 n dom) p=true→0≤p∧p<n.ports.length:=fun p hp=>B3 p (inB_mem.1 hp)
 have qc:=fun x=>D2 (A0 n dom) x (I2 hn dom)
 rw[e2]at hres
 obtain ⟨d,hdd⟩:∃ d,n.domains[dom.toNat]'hkd=d:=⟨_,rfl⟩
 rw[hdd]at hres hpe
 have qc2:=fun x=>D2 d.peers x hpe
 generalize knownT n fw t dom from_ m=res at *
 generalize staticP n dom m=sp at *
 generalize findE t m=fe at *
 obtain ⟨w,ok⟩:=fe
 dsimp only at hres hw qf
 generalize A0 n dom=ml at *
 conv=>whnf
 refine Au qs F306 E E E qy E ?_
 refine rd qy ?_;conv=>whnf
 refine⟨qy,?_⟩
 conv=>whnf
 refine⟨fun h1=>?_,fun h1=>?_⟩
 ·have h2:0≤sp:=by simpa using h1
  rw[if_pos h2]at hres
  subst hres
  refine rg ?_;conv=>whnf
  refine Dm 25 Aa [sp] E E ?_
  refine As 25 E ?_
  refine Ah (qp sp h2 (hsp h2)) F241 E E E E E ?_
  refine rg ?_;conv=>whnf
  refine An 7 1 Aa E ?_
  exact Ac E (.cons .tmp (.cons .tmp (.cons .tmp .nil))) E E
 have h2:¬ 0≤sp:=by simp at h1;omega
 rw[if_neg h2]at hres
 refine rg ?_;conv=>whnf
 refine Ah qf F307 E E E E E ?_
 cases ok
 ·rw[if_pos rfl]at hres
  subst hres
  (refine rg ?_;(conv=>whnf);refine aT ?_;refine rg ?_;conv=>whnf)
  refine An 6 1 Aa E ?_
  refine An 7 1 Aa E ?_
  exact Ac E (.cons .tmp (.cons .tmp (.cons .tmp .nil))) E E
 rw[if_neg qz]at hres
 (refine rg ?_;(conv=>whnf);refine aF ?_;refine rg ?_;conv=>whnf)
 refine⟨fun h3=>?_,fun h3=>?_⟩
 ·have h4:0≤w:=by simpa using h3
  refine rg ?_;conv=>whnf
  refine Ah (qc w) F86 E E E E E ?_
  cases hin:inB ml w
  ·rw[if_neg (by simp[hin]),if_neg qn]at hres
   subst hres
   (refine rg ?_;(conv=>whnf);refine aF ?_;refine rg ?_;conv=>whnf)
   refine⟨fun h5=>absurd h5 (by simp;omega),fun _=>?_⟩
   refine rd qy ?_;conv=>whnf
   refine⟨qy,?_⟩
   ((conv=>whnf);refine aF ?_;refine rg ?_;conv=>whnf)
   refine An 6 1 Aa E ?_
   refine An 7 1 Aa E ?_
   exact Ac E (.cons .tmp (.cons .tmp (.cons .tmp .nil))) E E
  ·rw[if_pos ⟨h4,hin⟩]at hres
   subst hres
   (refine rg ?_;(conv=>whnf);refine aT ?_;refine rg ?_;conv=>whnf)
   refine Dm 49 Aa [w] E E ?_
   refine As 49 E ?_
   refine Ah (qp w h4 (hmem w hin).2) F241 E E E E E ?_
   refine rg ?_;conv=>whnf
   refine An 7 1 Aa E ?_
   exact Ac E (.cons .tmp (.cons .tmp (.cons .tmp .nil))) E E
 have h4:¬ 0≤w:=by simp at h3;omega
 rw[if_neg qn]at hres
 (refine rg ?_;(conv=>whnf);refine aF ?_;refine rg ?_;conv=>whnf)
 refine⟨fun h5=>?_,fun h5=>absurd h5 (by simp;omega)⟩
 refine rd qy ?_;conv=>whnf
 refine⟨E,hd0,hkd,?_⟩
 rw[hdd]
 conv=>whnf
 refine⟨hw,?_⟩
 conv=>whnf
 refine Au (qc2 (-1-w)) F86 E E E qy E ?_
 cases hin:inB d.peers (-1-w)
 ·rw[if_neg (by simp[hin])]at hres
  subst hres
  refine rd qy ?_;conv=>whnf
  refine⟨qy,?_⟩
  ((conv=>whnf);refine aF ?_;refine rg ?_;conv=>whnf)
  refine An 6 1 Aa E ?_
  refine An 7 1 Aa E ?_
  exact Ac E (.cons .tmp (.cons .tmp (.cons .tmp .nil))) E E
 rw[if_pos ⟨by omega,hin⟩]at hres
 refine rd qy ?_;conv=>whnf
 refine⟨qy,?_⟩
 ((conv=>whnf);refine aT ?_;refine rg ?_;conv=>whnf)
 refine⟨fun h6=>?_,fun h6=>?_⟩
 ·rw[if_pos (by simpa using h6)]at hres
  subst hres
  refine rg ?_;conv=>whnf
  refine An 6 1 Aa E ?_
  refine An 7 1 Aa E ?_
  exact Ac E (.cons .tmp (.cons .tmp (.cons .tmp .nil))) E E
 ·rw[if_neg (by simpa using h6)]at hres
  subst hres
  refine rg ?_;conv=>whnf
  refine⟨hw,?_⟩
  conv=>whnf
  refine An 6 1 Aa E ?_
  refine Dm 78 Aa [-1-w] E E ?_
  refine As 78 E ?_
  exact Ac E (.cons .tmp (.cons .tmp (.cons .tmp .nil))) E E
theorem Mb {n:Net} (hb:Ag n=true) (dom:Int) (m:Nat):(0≤staticP n dom m↔0≤Dj n dom m)∧(0≤Dj n dom m→staticP n dom m=(nth n.statics (Dj n dom m)).port):=by
 refine⟨⟨fun h=>?_,fun h=>?_⟩,fun h=>by rw[staticP,if_pos h]⟩
 ·unfold staticP at h
  split at h
  ·assumption
  ·omega
 ·rw[staticP,if_pos h]
  have hlt:Dj n dom m<n.statics.length:=I3 _ _
  have hk:(Dj n dom m).toNat<n.statics.length:=by omega
  simp only[Ag,Bool.and_eq_true]at hb
  have:=allB_iff.1 hb.1.1.1.2 _ hk
  simp only[Hi,Bool.and_eq_true,Al,decide_eq_true_eq]at this
  rw[Ao hk]
  exact this.1.1.2.1
theorem Ar7 {n:Net} {fw:List Bool} {t:List EntryM} {dom from_:Int} {m:Nat} (hb:Ag n=true) (hr:roomB n fw dom from_=true) (hg:D1 m=false) :
  decideT n fw t dom from_ m=if (knownT n fw t dom from_ m).2.2=true then ((knownT n fw t dom from_ m).1,(knownT n fw t dom from_ m).2.1,0) else (Cf n fw from_ (A0 n dom),peersOut n dom from_,0):=by
 obtain ⟨h1,h2⟩:=Mb hb dom m
 rw[decideT,if_neg (by rw[hr];decide),if_neg (by rw[hg];decide)]
 unfold knownT
 by_cases hs:0≤Dj n dom m
 ·rw[if_pos hs,if_pos (h1.2 hs),h2 hs];rfl
 rw[if_neg hs,if_neg (fun h=>hs (h1.1 h))]
 generalize findE t m=fe
 obtain ⟨w,ok⟩:=fe
 cases ok
 ·simp
 simp only[Bool.true_eq_false,if_false,true_and]
 by_cases ha:0≤w∧inB (A0 n dom) w=true
 ·rw[if_pos ha,if_pos ha];rfl
 rw[if_neg ha,if_neg ha]
 by_cases hc:w<0∧inB (nth n.domains dom).peers (-1-w)=true
 ·rw[if_pos hc,if_pos hc]
  split<;>rfl
 ·rw[if_neg hc,if_neg hc];rfl
theorem Ar8 (n:Net) (hn:n.Fin) (fw:List Bool) (t:List EntryM) (dom from_:Int) (m:Nat) (hl:Ar t) (hw:I64 (-1-(findE t m).1)) (hm64:m<18446744073709551616) :
  Sy.Spec Tryz.prog 176 [Ap n,.sl 1 Ad fw,.sl 3 Am t,Aa dom,Aa from_,Az m] [] (.tup [.sl 1 Aa (decideT n fw t dom from_ m).1,.sl 1 Aa (decideT n fw t dom from_ m).2.1,Aa (decideT n fw t dom from_ m).2.2]) []:=Ab Γ hm 100 F176 Tryz.ntmps176 rfl fun F hF=>by
 cases hbase:Km n fw dom
 ·have hres:decideT n fw t dom from_ m=([],[],2):=by
   rw[decideT,if_pos (by rw[I6,hbase];rfl)]
  rw[hres]
  have q:=Ajy n hn fw dom from_ hbase
  conv=>whnf
  refine Ah q F240 E E E E E ?_
  (refine rg ?_;(conv=>whnf);refine aT ?_;refine rg ?_;conv=>whnf)
  refine An 12 1 Aa E ?_
  refine An 13 1 Aa E ?_
  exact Ac E (.cons .tmp (.cons .tmp (.cons .tmp .nil))) E E
 have q:=An8 n hn fw dom from_ hbase
 have qk:=knownS n hn fw t dom from_ m hl hw hbase
 have qg:=Lv m hm64
 have hb2:=hbase
 simp only[Km,Bool.and_eq_true,decide_eq_true_eq]at hb2
 obtain ⟨⟨hd,hfw⟩,hbn⟩:=hb2
 have qp:=Ah0 n fw dom from_ (A0 n dom) (A0 n dom) (I2 hn dom) (Yp hbn hfw B3)
 have qe:=Aj3 n hn fw dom from_ (A0 n dom) hd
 have hroom:=I6 n fw dom from_
 rw[hbase,Bool.true_and]at hroom
 have hbad:roomB n fw dom from_=false→decideT n fw t dom from_ m=([],[],2):=fun h=>by rw[decideT,if_pos h]
 have hgrp:roomB n fw dom from_=true→D1 m=true→decideT n fw t dom from_ m=(Cf n fw from_ (A0 n dom),peersOut n dom from_,0):=fun h h2=>by
  rw[decideT,if_neg (by rw[h];decide),if_pos h2]
 have hkn:=fun h h2=>@Ar7 n fw t dom from_ m hbn h h2
 generalize decideT n fw t dom from_ m=res at *
 generalize knownT n fw t dom from_ m=kn at *
 obtain ⟨kp,ke,ko⟩:=kn
 generalize roomB n fw dom from_=rm at *
 generalize (decide (from_=-1) || decide (from_=-2) || inB (A0 n dom) from_)=ok at *
 subst hroom
 generalize A0 n dom=ml at *
 dsimp only at hkn qk
 conv=>whnf
 refine Ah q F240 E E E E E ?_
 cases rm
 ·rw[hbad rfl]
  (refine rg ?_;(conv=>whnf);refine aT ?_;refine rg ?_;conv=>whnf)
  refine An 12 1 Aa E ?_
  refine An 13 1 Aa E ?_
  exact Ac E (.cons .tmp (.cons .tmp (.cons .tmp .nil))) E E
 (refine rg ?_;(conv=>whnf);refine aF ?_;refine rg ?_;conv=>whnf)
 refine Ah qg F162 E E E E E ?_
 cases hg:D1 m
 ·have hkn:=hkn rfl hg
  (refine rg ?_;(conv=>whnf);refine aT ?_;refine rg ?_;conv=>whnf)
  refine Ah qk F249 E E E E E ?_
  cases ko
  ·rw[if_neg qz]at hkn
   subst hkn
   (refine rg ?_;(conv=>whnf);refine aF ?_;refine rg ?_;conv=>whnf)
   refine Ah qp F241 E E E E E ?_
   refine rg ?_;conv=>whnf
   refine Ah qe F242 E E E E E ?_
   refine rg ?_;conv=>whnf
   exact Ac E (.cons .tmp (.cons .tmp (.cons .tmp .nil))) E E
  ·rw[if_pos rfl]at hkn
   subst hkn
   (refine rg ?_;(conv=>whnf);refine aT ?_;refine rg ?_;conv=>whnf)
   exact Ac E (.cons .tmp (.cons .tmp (.cons .tmp .nil))) E E
 ·rw[hgrp rfl hg]
  (refine rg ?_;(conv=>whnf);refine aF ?_;refine rg ?_;conv=>whnf)
  refine Ah qp F241 E E E E E ?_
  refine rg ?_;conv=>whnf
  refine Ah qe F242 E E E E E ?_
  refine rg ?_;conv=>whnf
  exact Ac E (.cons .tmp (.cons .tmp (.cons .tmp .nil))) E E
theorem Ub (n:Net) (fw:List Bool) (p:Int) (h0:0≤p) (hp:p<n.ports.length) (hl:(nth n.ports p).link<fw.length) (hneg:(nth n.ports p).link=-1∨0≤(nth n.ports p).link):Sy.Spec Tryz.prog 211 [Ap n,.sl 1 Ad fw,Aa p] [] (Ad (usableB n fw p)) []:=Ab Γ hm 100 F211 Tryz.ntmps211 rfl fun F hF=>by
 have q:=A6 p n.ports.length
 rw[Cg ⟨h0,hp⟩]at q
 have hk:p.toNat<n.ports.length:=by omega
 have e1:nth n.ports p=n.ports[p.toNat]:=Ao hk
 have hu:=usableB.eq_1 n fw p
 generalize usableB n fw p=res at *
 rw[e1]at hu hl hneg
 obtain ⟨x,hx⟩:∃ x,n.ports[p.toNat]'hk=x:=⟨_,rfl⟩
 rw[hx]at hu hl hneg
 conv=>whnf
 refine Ah q F35 E E E E E ?_
 (refine rg ?_;(conv=>whnf);refine aT ?_;refine rg ?_;conv=>whnf)
 refine⟨E,h0,hk,?_⟩
 rw[hx]
 conv=>whnf
 refine⟨fun h=>?_,fun h=>?_⟩
 ·have h1:x.link=-1:=by simpa using h
  rw[decide_eq_true qn,Bool.true_or]at hu
  subst hu
  refine rg ?_;conv=>whnf
  exact Ac E (.cons .tmp .nil) E E
 ·have h1:¬ x.link=-1:=by simpa using h
  have h2:x.link.toNat<fw.length:=by omega
  rw[decide_eq_false qn,Bool.false_or,List.getElem?_eq_getElem h2]at hu
  refine rg ?_;conv=>whnf
  refine⟨E,h0,hk,?_⟩
  rw[hx]
  conv=>whnf
  refine⟨E,by omega,h2,?_⟩
  conv=>whnf
  exact Ac E (.cons .tmp .nil) (congrArg Ad hu) E
theorem Ahn (n:Net) (hn:n.Fin) (fw:List Bool) (dom from_:Int):Sy.Spec Tryz.prog 209 [Ap n,.sl 1 Ad fw,Aa dom,Aa from_] [] (Ad (roomB n fw dom from_)) []:=Ab Γ hm 100 F209 Tryz.ntmps209 rfl fun F hF=>by
 have hr:=Dq n hn
 have hpl:=A6 dom n.domains.length
 have hres:=roomB.eq_1 n fw dom from_
 generalize roomB n fw dom from_=res at *
 conv=>whnf
 refine Ah hr F74 E E E E E ?_
 cases hbn:Ag n
 ·rw[hbn,Bool.and_false,Bool.false_and]at hres
  subst hres
  (refine rg ?_;(conv=>whnf);refine aT ?_;refine rg ?_;(conv=>whnf);refine aT ?_;refine rg ?_;(conv=>whnf);refine aT ?_;refine rg ?_;conv=>whnf)
  exact Ac E (.cons .tmp .nil) E E
 (refine rg ?_;(conv=>whnf);refine aF ?_;refine rg ?_;conv=>whnf)
 refine⟨fun h=>?_,fun h=>?_⟩
 ·have h1:¬ fw.length=n.links.length:=by simp at h;omega
  rw[decide_eq_false h1,Bool.and_false,Bool.false_and,Bool.false_and]at hres
  subst hres
  (refine rg ?_;(conv=>whnf);refine aT ?_;refine rg ?_;conv=>whnf)
  exact Ac E (.cons .tmp .nil) E E
 have h1:fw.length=n.links.length:=by simp at h;omega
 refine rg ?_;conv=>whnf
 refine Ah hpl F35 E E E E E ?_
 cases hd:Al dom n.domains.length
 ·rw[hd,Bool.false_and,Bool.false_and,Bool.false_and]at hres
  subst hres
  (refine rg ?_;(conv=>whnf);refine aT ?_;refine rg ?_;conv=>whnf)
  exact Ac E (.cons .tmp .nil) E E
 have hdi:=Bd hd
 have qm:=Ku n hn hbn dom
 have qi:=Et (Ch n dom) from_ (Id n hn dom)
 have hmt:Ch n dom=A0 n dom:=by rw[Ch,if_pos ⟨⟨hdi.1,hdi.2⟩,hbn⟩]
 rw[hmt]at qm qi
 rw[hd,hbn,decide_eq_true h1,Bool.true_and,Bool.true_and,Bool.true_and]at hres
 generalize A0 n dom=ml at *
 (refine rg ?_;(conv=>whnf);refine aF ?_;refine rg ?_;conv=>whnf)
 refine⟨fun h2=>?_,fun h2=>?_⟩
 ·have h3:from_=-1:=by simpa using h2
  rw[decide_eq_true h3,Bool.true_or,Bool.true_or]at hres
  subst hres
  (refine rg ?_;(conv=>whnf);refine aT ?_;refine rg ?_;conv=>whnf)
  exact Ac E (.cons .tmp .nil) E E
 have h3:¬ from_=-1:=by simpa using h2
 refine rg ?_;conv=>whnf
 refine⟨fun h4=>?_,fun h4=>?_⟩
 ·have h5:from_=-2:=by simpa using h4
  rw[decide_eq_true h5,Bool.or_true,Bool.true_or]at hres
  subst hres
  refine rg ?_;conv=>whnf
  exact Ac E (.cons .tmp .nil) E E
 have h5:¬ from_=-2:=by simpa using h4
 rw[decide_eq_false h3,decide_eq_false h5,Bool.false_or,Bool.false_or]at hres
 subst hres
 refine rg ?_;conv=>whnf
 refine Ah qm F210 E E E E E ?_
 refine rg ?_;conv=>whnf
 refine Ah qi F142 E E E E E ?_
 refine rg ?_;conv=>whnf
 exact Ac E (.cons .tmp .nil) E E
end Go.Sy.YtmelpejjondedaaGreat
