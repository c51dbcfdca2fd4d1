/-
  K33 K34 K35 K36 K37 K38 A7 D5 D6 K39 K40 K41 K42 K8 K9 K10 K11: parts of a proof, joined by program.
-/
import Derived.Test.YtmelpejjondedaaGreatH7
import Derived.Test.YtmelpejjondedaaGreatH6
import Derived.Test.YtmelpejjondedaaGreatH4
import Derived.Test.YtmelpejjondedaaGreatH3
import Derived.Test.YtmelpejjondedaaGreatH5
namespace Go.Sy.YtmelpejjondedaaGreat
open Go.Proofs
attribute [local irreducible] Go.Sy.G Go.Sy.DR
set_option maxRecDepth 100000
set_option maxHeartbeats 4000000
theorem Vy (a c v:Nat) (f:FrameM) (h:f.body.length ≤ 1450):ipPutT (Mn a c v f) = (Ts (Mn a c v f),0):=by
 rw [ipPutT,if_neg (by rw [Ht]; omega)]
theorem Wx (a b:Nat):udpPort a b ≤ 65535:=by
 have:=Nat.mod_lt (a ^^^ b) (show 0 < 16384 by decide)
 unfold udpPort
 omega
theorem Ad0 (a c v:Nat) (f:FrameM) (ha:a < 4294967296) (hc:c < 4294967296) (h:f.body.length ≤ 1450):FrameOK ⟨Ej c,Ej a,2048,Ts (Mn a c v f)⟩ :=
 ⟨Yd c hc,Yd a ha,by show (2048:Nat) ≤ 65535; decide,by show (Ts (Mn a c v f)).length ≤ 1504; rw [Oc,Ht]; omega⟩
theorem Ao5 (a c:Nat) (v:Int) (f:FrameM) (ha:a < 4294967296) (hc:c < 4294967296) (hf:FrameOK f) :
  Sy.Spec Tryz.prog 253 [B0 a,B0 c,Aa v,Bc f] [] (.tup [.sl 1 Aj (wrapT a c v f).1,Aa (wrapT a c v f).2]) []:=Ab Γ hm 100 F253 Tryz.ntmps253 rfl fun F hF=>by
 have hres:=wrapT.eq_1 a c v f
 generalize wrapT a c v f = res at *
 have q0:=O1 f
 have hd:=hf.dst
 have hs:=hf.src
 have hb:=hf.body
 have hpl:=Ix f
 conv=>whnf
 refine Bf 7 4 (Bc f) E E E ?_
 by_cases ht:f.typ = 33024
 ·rw [if_pos ht] at hres
  subst hres
  rw [decide_eq_true ht] at q0
  refine rg ?_;conv=>whnf
  refine Ag q0 F166 E E E E E ?_
  (refine rg ?_;(conv=>whnf);refine aT ?_;refine rg ?_;conv=>whnf)
  refine An 8 1 Aj E ?_
  exact Ac E (.cons .tmp (.cons .tmp .nil)) E E
 rw [if_neg ht] at hres
 rw [decide_eq_false ht] at q0
 refine rg ?_;conv=>whnf
 refine Ag q0 F166 E E E E E ?_
 (refine rg ?_;(conv=>whnf);refine aF ?_;refine rg ?_;conv=>whnf)
 refine Ai (Ak [(0,55)] E F33 (Ll f hf) E Y E ⟨.inr E,Y⟩) E E ?_
 refine As 55 E ?_
 (refine rg ?_;(conv=>whnf);refine aF ?_;refine rg ?_;conv=>whnf)
 cases hv:Lt v
 rotate_left
 ·rw [if_pos hv] at hres
  subst hres
  refine Ag (Ai2 v hv) F309 E E E E E ?_
  (refine rg ?_;(conv=>whnf);refine aT ?_;refine rg ?_;conv=>whnf)
  refine An 8 1 Aj E ?_
  exact Ac E (.cons .tmp (.cons .tmp .nil)) E E
 rw [if_neg (by rw [hv]; decide)] at hres
 have hvg:=Acn hv
 obtain ⟨k,rfl⟩:=Int.eq_ofNat_of_zero_le (show 0 ≤ v by omega)
 rw [Int.toNat_natCast] at hres
 refine Ai (Ak [(0,56)] E F309 (Any k (by omega)) E Y E ⟨.inr E,Y⟩) E E ?_
 (refine rg ?_;(conv=>whnf);refine aF ?_;refine rg ?_;conv=>whnf)
 refine ⟨fun h=>?_,fun h=>?_⟩
 ·rw [if_pos (by have:=of_decide_eq_true h; omega)] at hres
  subst hres
  refine rg ?_;conv=>whnf
  refine An 8 1 Aj E ?_
  exact Ac E (.cons .tmp (.cons .tmp .nil)) E E
 have hl:f.body.length ≤ 1450:=by have:=of_decide_eq_false h; omega
 rw [if_neg (by omega)] at hres
 subst hres
 clear h
 have qp:=Al5 f.dst f.src (by omega) (by omega)
 have hpo:=Wx f.dst f.src
 have qu:=Ao7 (udpPort f.dst f.src) 4789 (H1 k ++ Th f) hpo (by decide) (by rw [List.length_append,D7,hpl]; omega)
 have hwb:(Mn a c k f).body = Acy (udpPort f.dst f.src) 4789 (H1 k ++ Th f):=rfl
 have qi:=Aiz (Mn a c k f) (Ack a c k f ha hc) (by rw [Ht]; omega)
 rw [Vy a c k f hl] at qi
 have qe:=Ll _ (Ad0 a c k f ha hc hl)
 refine rg ?_;conv=>whnf
 refine Ag qp F311 E E E E E ?_
 refine rg ?_;conv=>whnf
 refine Ai (Af Γ.toTy 46 E E E E E (.row E) .sl (by decide) (by rw [D7,hpl]; simp; omega) (by rw [D7,hpl]; omega)) E E ?_
 refine As 46 E ?_
 refine rg ?_;conv=>whnf
 refine Ag qu F310 E E E E E ?_
 refine rg ?_;conv=>whnf
 refine Ag qi F248 E E E E E ?_
 refine rg ?_;conv=>whnf
 refine Ag (Ael c hc) F244 E E E E E ?_
 refine rg ?_;conv=>whnf
 refine Ag (Ael a ha) F244 E E E E E ?_
 refine rg ?_;conv=>whnf
 refine Ai (Ak [(0,57)] E F33 qe E Y E ⟨.inr E,Y⟩) E E ?_
 refine As 57 E ?_
 refine rg ?_;conv=>whnf
 exact Ac E (.cons .tmp (.cons .tmp .nil)) E E
theorem Agh (a c:Nat) (v:Int) (f:FrameM) (ha:a < 4294967296) (hc:c < 4294967296) (hf:FrameOK f) :
  Sy.Spec Tryz.prog 222 [B0 a,B0 c,Aa v,Bc f] [] (.tup [.sl 1 Aj (wrapT a c v f).1,Aa (wrapT a c v f).2]) []:=Ab Γ hm 100 F222 Tryz.ntmps222 rfl fun F hF=>by
 have hres:=wrapT.eq_1 a c v f
 generalize wrapT a c v f = res at *
 have hd:=hf.dst
 have hs:=hf.src
 have hb:=hf.body
 have hpl:=Ix f
 conv=>whnf
 refine ⟨fun h=>?_,fun h=>?_⟩
 ·rw [if_pos (by have:(f.typ:Int) = 33024:=(by simpa using h); omega)] at hres
  subst hres
  refine rg ?_;conv=>whnf
  refine An 8 1 Aj E ?_
  exact Ac E (.cons .tmp (.cons .tmp .nil)) E E
 rw [if_neg (by have:¬ (f.typ:Int) = 33024:=(by simpa using h); omega)] at hres
 clear h
 refine Bf 7 4 (Bc f) E E E ?_
 refine rg ?_;conv=>whnf
 refine Ai (Ak [(0,55)] E F220 (O6 f hf) E Y E ⟨.inr E,Y⟩) E E ?_
 refine As 55 E ?_
 (refine rg ?_;(conv=>whnf);refine aF ?_;refine rg ?_;conv=>whnf)
 cases hv:Lt v
 rotate_left
 ·rw [if_pos hv] at hres
  subst hres
  refine Ag (Abe v hv) F276 E E E E E ?_
  (refine rg ?_;(conv=>whnf);refine aT ?_;refine rg ?_;conv=>whnf)
  refine An 8 1 Aj E ?_
  exact Ac E (.cons .tmp (.cons .tmp .nil)) E E
 rw [if_neg (by rw [hv]; decide)] at hres
 have hvg:=Acn hv
 obtain ⟨k,rfl⟩:=Int.eq_ofNat_of_zero_le (show 0 ≤ v by omega)
 rw [Int.toNat_natCast] at hres
 refine Ai (Ak [(0,56)] E F276 (Adq k (by omega)) E Y E ⟨.inr E,Y⟩) E E ?_
 (refine rg ?_;(conv=>whnf);refine aF ?_;refine rg ?_;conv=>whnf)
 refine ⟨fun h=>?_,fun h=>?_⟩
 ·rw [if_pos (by have:=of_decide_eq_true h; omega)] at hres
  subst hres
  refine rg ?_;conv=>whnf
  refine An 8 1 Aj E ?_
  exact Ac E (.cons .tmp (.cons .tmp .nil)) E E
 have hl:f.body.length ≤ 1450:=by have:=of_decide_eq_false h; omega
 rw [if_neg (by omega)] at hres
 subst hres
 clear h
 have qp:=Agj f.dst f.src (by omega) (by omega)
 have hpo:=Wx f.dst f.src
 have qu:=Aki (udpPort f.dst f.src) 4789 (H1 k ++ Th f) hpo (by decide) (by rw [List.length_append,D7,hpl]; omega)
 have qi:=Z2 (Mn a c k f) (Ack a c k f ha hc) (by rw [Ht]; omega)
 rw [Vy a c k f hl] at qi
 have qe:=O6 _ (Ad0 a c k f ha hc hl)
 refine rg ?_;conv=>whnf
 refine Ag qp F278 E E E E E ?_
 refine rg ?_;conv=>whnf
 refine Ai (Af Γ.toTy 47 E E E E E (.row E) .sl (by decide) (by rw [D7,hpl]; simp; omega) (by rw [D7,hpl]; omega)) E E ?_
 refine As 47 E ?_
 refine rg ?_;conv=>whnf
 refine Ag qu F277 E E E E E ?_
 refine rg ?_;conv=>whnf
 refine Ag qi F217 E E E E E ?_
 refine rg ?_;conv=>whnf
 refine Ag (M0 c hc) F213 E E E E E ?_
 refine rg ?_;conv=>whnf
 refine Ag (M0 a ha) F213 E E E E E ?_
 refine rg ?_;conv=>whnf
 refine Ai (Ak [(0,57)] E F220 qe E Y E ⟨.inr E,Y⟩) E E ?_
 refine As 57 E ?_
 refine rg ?_;conv=>whnf
 exact Ac E (.cons .tmp (.cons .tmp .nil)) E E
def Dc (p:PacketM) (v e:Int):List SV:=[Aa p.tos,Aa p.id,Aa p.ttl,Aa p.proto,B0 p.src,B0 p.dst,.sl 1 Aj p.body,Aa v,Aa e]
def Cu (is:Bool) (re e:Int):Int:=if is = true ∧ re = 0 then e else re
theorem T5 (p:PacketM) (v re:Int) (is:Bool) (e:Int):Sy.Spec Tryz.prog 338 [.ptr 0 0,Ad is,Aa e] [(0,.box (Dc p v re))] (.tup []) [(0,.box (Dc p v (Cu is re e)))]:=Ab Γ hm 100 F338 Tryz.ntmps338 rfl fun F hF=>by
 cases is
 ·have h:Cu false re e = re:=by simp [Cu]
  rw [h]
  ((conv=>whnf);refine aF ?_;refine rg ?_;(conv=>whnf);refine aF ?_;refine rg ?_;conv=>whnf)
  exact Bx E .nil [] [(0,.box (Dc p v re))] (fun _ h=>h) E E ⟨Y,⟨.inl E,E,Y⟩,E,E⟩
 ·((conv=>whnf);refine aT ?_;refine rg ?_;conv=>whnf)
  refine ⟨fun h=>?_,fun h=>?_⟩
  ·have h2:Cu true re e = e:=by show (if true = true ∧ re = 0 then e else re) = e; rw [if_pos ⟨rfl,by simpa using h⟩]
   rw [h2]
   refine rg ?_;conv=>whnf
   exact Bx E .nil [] [(0,.box (Dc p v e))] (fun _ h=>h) E E ⟨Y,⟨.inl E,E,Y⟩,E,E⟩
  ·have h2:Cu true re e = re:=by
    show (if true = true ∧ re = 0 then e else re) = re
    rw [if_neg (fun h3=>by
     have h4:¬ re = 0:=by simpa using h
     exact h4 h3.2)]
   rw [h2]
   refine rg ?_;conv=>whnf
   exact Bx E .nil [] [(0,.box (Dc p v re))] (fun _ h=>h) E E ⟨Y,⟨.inl E,E,Y⟩,E,E⟩
theorem Apk (b:List UInt8) (hb:b.length < 100000):Sy.Spec Tryz.prog 316 [.ptr 0 0,.sl 1 Aj b] [(0,.box (Dc noP 0 0))] (.tup []) [(0,.box (Dc (outerT b).1 0 (outerT b).2))]:=Ab Γ hm 100 F316 Tryz.ntmps316 rfl fun F hF=>by
 have hres:=outerT.eq_1 b
 generalize outerT b = res at *
 have q1:=Sm b hb
 have hbad:=@takeF_bad b
 have hok:=@Acz b
 generalize takeF b = tk at *
 obtain ⟨f,e⟩:=tk
 dsimp only at hres q1 hbad hok
 conv=>whnf
 refine Ag q1 F165 E E E E E ?_
 refine rg ?_;conv=>whnf
 refine Ai (Ak [(0,0)] E F338 (T5 noP 0 0 true e) E ⟨E,Y⟩ E ⟨.inl E,Y⟩) E E ?_
 rw [show Cu true 0 e = e by simp [Cu]]
 refine rg ?_;conv=>whnf
 refine Ai (Ak [(0,0)] E F338 (T5 noP 0 e ((f.typ:Int) != 2048) 11) E ⟨E,Y⟩ E ⟨.inl E,Y⟩) E E ?_
 by_cases he:e = 0
 rotate_left
 ·rw [if_pos he] at hres
  subst hres
  rw [show Cu ((f.typ:Int) != 2048) e 11 = e by simp [Cu,he]]
  refine rg ?_;conv=>whnf
  refine ⟨fun h=>absurd (show e = 0 by simpa using h) he,fun _=>?_⟩
  refine rg ?_;conv=>whnf
  exact Bx E .nil [] [(0,.box (Dc noP 0 e))] (fun _ h=>h) E E ⟨Y,⟨.inl E,E,Y⟩,E,E⟩
 subst he
 rw [if_neg (by simp)] at hres
 by_cases ht:f.typ = 2048
 rotate_left
 ·rw [if_pos ht] at hres
  subst hres
  have hb2:((f.typ:Int) != 2048) = true:=by simp; omega
  rw [hb2,show Cu true 0 11 = 11 by simp [Cu]]
  (refine rg ?_;(conv=>whnf);refine aF ?_;refine rg ?_;conv=>whnf)
  exact Bx E .nil [] [(0,.box (Dc noP 0 11))] (fun _ h=>h) E E ⟨Y,⟨.inl E,E,Y⟩,E,E⟩
 rw [if_neg (fun h=>h ht)] at hres
 have hb2:((f.typ:Int) != 2048) = false:=by simp; omega
 rw [hb2,show Cu false 0 11 = 0 by simp [Cu]]
 have hfb:=(hok rfl).body
 have q2:=Aiy f.body (by omega)
 have hib:=@Aqs f.body
 generalize ipTakeT f.body = ip at *
 obtain ⟨p,e2⟩:=ip
 dsimp only at hres q2 hib
 (refine rg ?_;(conv=>whnf);refine aT ?_;refine rg ?_;conv=>whnf)
 refine Ag q2 F245 E E E E E ?_
 refine rg ?_;conv=>whnf
 refine Ai (Ak [(0,0)] E F338 (T5 p 0 0 true e2) E ⟨E,Y⟩ E ⟨.inl E,Y⟩) E E ?_
 rw [show Cu true 0 e2 = e2 by simp [Cu]]
 refine rg ?_;conv=>whnf
 refine Ai (Ak [(0,0)] E F338 (T5 p 0 e2 ((p.proto:Int) != 17) 11) E ⟨E,Y⟩ E ⟨.inl E,Y⟩) E E ?_
 have hfin:res = (p,Cu ((p.proto:Int) != 17) e2 11):=by
  by_cases h2:e2 = 0
  ·subst h2
   rw [if_neg (by simp)] at hres
   rw [hres]
   simp only [Cu]
   by_cases h3:p.proto = 17
   ·rw [if_neg (by simp [h3]),if_neg (by simp [h3])]
   ·rw [if_pos h3,if_pos (by simp; omega)]
  ·rw [if_pos h2] at hres
   rw [hres,hib h2,show Cu ((noP.proto:Int) != 17) e2 11 = e2 by simp [Cu,h2]]
 rw [hfin]
 refine rg ?_;conv=>whnf
 exact Bx E .nil [] [(0,.box (Dc p 0 (Cu ((p.proto:Int) != 17) e2 11)))] (fun _ h=>h) E E ⟨Y,⟨.inl E,E,Y⟩,E,E⟩
def frameT (p:PacketM) (e:Int):FrameM × Int × Int :=
 if e ≠ 0 then (noF,0,e) else if (udpTakeT p.body).2.2.2 ≠ 0 then (noF,0,(udpTakeT p.body).2.2.2) else if (udpTakeT p.body).2.1 ≠ 4789 then (noF,0,11)
 else if (vniT (udpTakeT p.body).2.2.1).2.2 ≠ 0 then (noF,(vniT (udpTakeT p.body).2.2.1).1,(vniT (udpTakeT p.body).2.2.1).2.2)
 else ((takeF (vniT (udpTakeT p.body).2.2.1).2.1).1,(vniT (udpTakeT p.body).2.2.1).1,
  if (takeF (vniT (udpTakeT p.body).2.2.1).2.1).2 ≠ 0 then (takeF (vniT (udpTakeT p.body).2.2.1).2.1).2 else if (takeF (vniT (udpTakeT p.body).2.2.1).2.1).1.typ = 33024 then 15 else 0)
theorem frameS (p:PacketM) (e:Int) (hb:p.body.length < 100000):Sy.Spec Tryz.prog 317 [.ptr 0 0] [(0,.box (Dc p 0 e))] (Bc (frameT p e).1) [(0,.box (Dc p (frameT p e).2.1 (frameT p e).2.2))]:=Ab Γ hm 100 F317 Tryz.ntmps317 rfl fun F hF=>by
 have hres:=frameT.eq_1 p e
 generalize frameT p e = res at *
 have q1:=Al4 p.body hb
 have hul:=@Ao1 p.body
 generalize udpTakeT p.body = u at *
 obtain ⟨u1,u2,u3,u4⟩:=u
 dsimp only at hres q1 hul
 have q2:=vniS u3 (by omega)
 have hvl:=@vniT_body u3
 generalize vniT u3 = w at *
 obtain ⟨w1,w2,w3⟩:=w
 dsimp only at hres q2 hvl
 have q3:=Sm w2 (by omega)
 have hbad:=@takeF_bad w2
 generalize takeF w2 = t at *
 obtain ⟨f,t2⟩:=t
 dsimp only at hres q3 hbad
 conv=>whnf
 refine ⟨fun h=>?_,fun h=>?_⟩
 ·rw [if_pos (by simpa using h)] at hres
  subst hres
  refine rg ?_;conv=>whnf
  refine Av 2 zF E (.cons (.refl _) (.cons (.refl _) (.cons (.refl _) (.cons .nil .nil)))) ?_
  exact done E (.cons (.cell E E E E) .nil) [] [(0,.box (Dc p 0 e))] (fun _ h=>h) E E ⟨Y,⟨.inl E,E,Y⟩,E,E⟩
 have he:e = 0:=by simpa using h
 clear h
 subst he
 rw [if_neg (by simp)] at hres
 refine rg ?_;conv=>whnf
 refine Ag q1 F339 E E E E E ?_
 refine rg ?_;conv=>whnf
 refine Ai (Ak [(0,0)] E F338 (T5 p 0 0 true u4) E ⟨E,Y⟩ E ⟨.inl E,Y⟩) E E ?_
 rw [show Cu true 0 u4 = u4 by simp [Cu]]
 refine rg ?_;conv=>whnf
 refine Ai (Ak [(0,0)] E F338 (T5 p 0 u4 (u2 != 4789) 11) E ⟨E,Y⟩ E ⟨.inl E,Y⟩) E E ?_
 by_cases h4:u4 = 0
 rotate_left
 ·rw [if_pos h4] at hres
  subst hres
  rw [show Cu (u2 != 4789) u4 11 = u4 by simp [Cu,h4]]
  refine rg ?_;conv=>whnf
  refine ⟨fun h=>absurd (show u4 = 0 by simpa using h) h4,fun _=>?_⟩
  refine rg ?_;conv=>whnf
  refine ⟨fun _=>?_,fun h=>absurd (show u4 = 0 by simpa using h) h4⟩
  refine rg ?_;conv=>whnf
  refine Av 2 zF E (.cons (.refl _) (.cons (.refl _) (.cons (.refl _) (.cons .nil .nil)))) ?_
  exact done E (.cons (.cell E E E E) .nil) [] [(0,.box (Dc p 0 u4))] (fun _ h=>h) E E ⟨Y,⟨.inl E,E,Y⟩,E,E⟩
 subst h4
 rw [if_neg (by simp)] at hres
 by_cases h2:u2 = 4789
 rotate_left
 ·rw [if_pos h2] at hres
  subst hres
  rw [show Cu (u2 != 4789) 0 11 = 11 by simp [Cu,h2]]
  (refine rg ?_;(conv=>whnf);refine aF ?_;refine rg ?_;(conv=>whnf);refine aT ?_;refine rg ?_;conv=>whnf)
  refine Av 2 zF E (.cons (.refl _) (.cons (.refl _) (.cons (.refl _) (.cons .nil .nil)))) ?_
  exact done E (.cons (.cell E E E E) .nil) [] [(0,.box (Dc p 0 11))] (fun _ h=>h) E E ⟨Y,⟨.inl E,E,Y⟩,E,E⟩
 rw [if_neg (fun h=>h h2)] at hres
 rw [show Cu (u2 != 4789) 0 11 = 0 by simp [Cu,h2]]
 (refine rg ?_;(conv=>whnf);refine aT ?_;refine rg ?_;conv=>whnf)
 refine Ag q2 F340 E E E E E ?_
 refine rg ?_;conv=>whnf
 refine Ai (Ak [(0,0)] E F338 (T5 p w1 0 true w3) E ⟨E,Y⟩ E ⟨.inl E,Y⟩) E E ?_
 rw [show Cu true 0 w3 = w3 by simp [Cu]]
 refine rg ?_;conv=>whnf
 refine ⟨fun h=>?_,fun h=>?_⟩
 ·rw [if_pos (by simpa using h)] at hres
  subst hres
  refine rg ?_;conv=>whnf
  refine Av 2 zF E (.cons (.refl _) (.cons (.refl _) (.cons (.refl _) (.cons .nil .nil)))) ?_
  exact done E (.cons (.cell E E E E) .nil) [] [(0,.box (Dc p w1 w3))] (fun _ h=>h) E E ⟨Y,⟨.inl E,E,Y⟩,E,E⟩
 have h3:w3 = 0:=by simpa using h
 clear h
 subst h3
 rw [if_neg (by simp)] at hres
 refine rg ?_;conv=>whnf
 refine Ag q3 F165 E E E E E ?_
 refine rg ?_;conv=>whnf
 refine Ai (Ak [(0,0)] E F338 (T5 p w1 0 true t2) E ⟨E,Y⟩ E ⟨.inl E,Y⟩) E E ?_
 rw [show Cu true 0 t2 = t2 by simp [Cu]]
 refine rg ?_;conv=>whnf
 refine Ag (O1 f) F166 E E E E E ?_
 refine rg ?_;conv=>whnf
 refine Ai (Ak [(0,0)] E F338 (T5 p w1 t2 (decide (f.typ = 33024)) 15) E ⟨E,Y⟩ E ⟨.inl E,Y⟩) E E ?_
 have hfin:Cu (decide (f.typ = 33024)) t2 15 = if t2 ≠ 0 then t2 else if f.typ = 33024 then 15 else 0:=by
  by_cases k1:t2 = 0
  ·subst k1
   rw [if_neg (by simp)]
   by_cases k2:f.typ = 33024 <;> simp [Cu,k2]
  ·rw [if_pos k1]
   simp [Cu,k1]
 rw [← hfin] at hres
 subst hres
 refine rg ?_;conv=>whnf
 exact done E (.cons (.cell E E E E) .nil) [] [(0,.box (Dc p w1 (Cu (decide (f.typ = 33024)) t2 15)))] (fun _ h=>h) E E ⟨Y,⟨.inl E,E,Y⟩,E,E⟩
theorem Aaz (b:List UInt8):unwrapT b = if (frameT (outerT b).1 (outerT b).2).2.2 ≠ 0 then (0,0,0,noF,(frameT (outerT b).1 (outerT b).2).2.2)
  else ((outerT b).1.src,(outerT b).1.dst,(frameT (outerT b).1 (outerT b).2).2.1,(frameT (outerT b).1 (outerT b).2).1,0):=by
 unfold unwrapT
 generalize outerT b = o
 obtain ⟨p,e⟩:=o
 dsimp only
 by_cases he:e = 0
 rotate_left
 ·rw [if_pos he]
  have h1:frameT p e = (noF,0,e):=by rw [frameT,if_pos he]
  rw [h1,if_pos he]
 subst he
 rw [if_neg (by simp)]
 unfold innerT frameT
 rw [if_neg (show ¬ (0:Int) ≠ 0 by simp)]
 generalize udpTakeT p.body = u
 obtain ⟨u1,u2,u3,u4⟩:=u
 dsimp only
 by_cases h4:u4 = 0
 rotate_left
 ·rw [if_pos h4,if_pos h4,if_pos h4]
  dsimp only
  rw [if_pos h4]
 subst h4
 simp only [ne_eq,not_true_eq_false,if_false]
 by_cases h2:u2 = 4789
 rotate_left
 ·simp [h2]
 simp only [h2,not_true_eq_false,if_false]
 generalize vniT u3 = w
 obtain ⟨w1,w2,w3⟩:=w
 dsimp only
 by_cases h3:w3 = 0
 rotate_left
 ·simp [h3]
 simp only [h3,not_true_eq_false,if_false]
 generalize takeF w2 = t
 obtain ⟨f,t2⟩:=t
 dsimp only
 by_cases k1:t2 = 0
 ·by_cases k2:f.typ = 33024 <;> simp [k1,k2]
 ·simp [k1]
theorem Ajj (b:List UInt8) (hb:b.length < 100000) :
  Sy.Spec Tryz.prog 259 [.sl 1 Aj b] [] (.tup [B0 (unwrapT b).1,B0 (unwrapT b).2.1,Aa (unwrapT b).2.2.1,Bc (unwrapT b).2.2.2.1,Aa (unwrapT b).2.2.2.2]) []:=Ab Γ hm 100 F259 Tryz.ntmps259 rfl fun F hF=>by
 have hres:=Aaz b
 generalize unwrapT b = res at *
 have q1:=Apk b hb
 have hol:=(Uz b).2
 generalize outerT b = o at *
 obtain ⟨p,e⟩:=o
 dsimp only at hres q1 hol
 have q2:=frameS p e (by omega)
 generalize frameT p e = fr at *
 obtain ⟨f,v,e2⟩:=fr
 dsimp only at hres q2
 conv=>whnf
 refine Av 9 (Dc noP 0 0) E (.cons (.refl _) (.cons (.refl _) (.cons (.refl _) (.cons (.refl _) (.cons (.refl _) (.cons (.refl _) (.cons .nil (.cons (.refl _) (.cons (.refl _) .nil))))))))) ?_
 refine rg ?_;conv=>whnf
 refine Ai (Ak [(0,9)] E F316 q1 E ⟨E,Y⟩ E ⟨.inl E,Y⟩) E E ?_
 refine rg ?_;conv=>whnf
 refine Ai (Ak [(0,9)] E F317 q2 E ⟨E,Y⟩ E ⟨.inl E,Y⟩) E E ?_
 refine rg ?_;conv=>whnf
 refine ⟨fun h=>?_,fun h=>?_⟩
 ·rw [if_pos (by simpa using h)] at hres
  subst hres
  refine rg ?_;conv=>whnf
  refine ⟨(by kernel_rfl),?_⟩
  conv=>whnf
  refine Av 5 zF E (.cons (.refl _) (.cons (.refl _) (.cons (.refl _) (.cons .nil .nil)))) ?_
  exact Ac E (.cons .tmp (.cons .tmp (.cons .tmp (.cons (.cell E E E E) (.cons .tmp .nil))))) E E
 rw [if_neg (by simpa using h)] at hres
 subst hres
 refine rg ?_;conv=>whnf
 refine ⟨(by kernel_rfl),?_⟩
 conv=>whnf
 exact Ac E (.cons .tmp (.cons .tmp (.cons .tmp (.cons (.cell E E E E) (.cons .tmp .nil))))) E E
theorem Tv (l:List Device) (p:Device → Bool) (f:FuncId) (first cap:List SV) (hc:(SV.clo (.func f) first cap).inn [] = true) (hf:∀ x ∈ l,Jb Tryz.prog f (first ++ [Br x] ++ cap) (Ad (p x))) (hl:Aq l) :
  Sy.Spec Tryz.prog 318 [.sl 5 Br l,.clo (.func f) first cap] [] (Aa (C7 p l)) []:=Ab Γ hm 100 F318 Tryz.ntmps318 rfl fun F hF=>by
 unfold Aq at hl
 have hin:∀ x:Device,Cj [] (first ++ [Br x] ++ cap) = true:=fun x=>Dd hc rfl
 conv=>whnf
 refine A2 l.length (fun j=>Da (fun _ x=>!(p x)) l j) (fun j=>[(0,.sl 5 Br l),(1,.clo (.func f) first cap),(7,Aa l.length),(8,Aa j)]) (fun _=>[]) [] (A5 _ _) ⟨⟨E,E,Bm _,hc,E,E,E,E,Y⟩,Y,E,E⟩ ?_
 intro j hj hI
 refine rg ?_;conv=>whnf
 refine ⟨fun h=>?_,fun h=>?_⟩
 ·have h:=of_decide_eq_true h
  have hj2:j < l.length:=by omega
  refine rg ?_;conv=>whnf
  refine ⟨E,by omega,by omega,?_⟩
  conv=>whnf
  refine Ep (hf l[j] (List.getElem_mem hj2)) E E E (by simp only [hin]; rfl) E E ?_
  refine rg ?_;conv=>whnf
  refine ⟨fun h2=>?_,fun h2=>?_⟩
  ·refine rg ?_;conv=>whnf
   refine Ac E (.cons .tmp .nil) (congrArg Aa ?_) E
   exact Ct hj2 (fun i hi hij=>by simpa using hI i hi hij) h2
  ·refine rg ?_;conv=>whnf
   refine ⟨by unfold I64; omega,?_⟩
   conv=>whnf
   exact Ax [] hI hj2 (A3 hI hj2 (by simp [h2])) ⟨⟨E,E,Bm _,hc,E,E,E,E,Y⟩,Y,E,E⟩
 ·have h:=of_decide_eq_false h
  refine rg ?_;conv=>whnf
  refine Ac E (.cons .tmp .nil) (congrArg Aa ?_) E
  exact C3 (fun i hi=>by simpa using hI i hi (by omega))
theorem Wn {n:Net} (hb:Ah n = true) {d:Int} (hd:DomIn n d):0 ≤ (n.domains[d.toNat]'hd.2).dev ∧ (n.domains[d.toNat]'hd.2).dev.toNat < n.devices.length:=by
 simp only [Ah,Bool.and_eq_true] at hb
 have:=Lr hb.1.1.1.1.1.1.1.2 hd.2
 have:=Bn this
 omega
theorem Wt {n:Net} (hb:Ah n = true) {d:Int} (hd:DomIn n d):Ei n d = (n.devices[(n.domains[d.toNat]'hd.2).dev.toNat]'(Wn hb hd).2).vtep:=by
 rw [Ei,Ao hd.2,Ao (Wn hb hd).2]
theorem S2 {n:Net} (hm:n.Num) (hb:Ah n = true) {d:Int} (hd:DomIn n d):0 ≤ Ei n d ∧ Ei n d < 4294967296:=by
 rw [Wt hb hd]
 exact hm.vtep _ (List.getElem_mem _)
theorem Sh (n:Net) (hb:Ah n = true) (d:Int) (hd:DomIn n d):Sy.Spec Tryz.prog 254 [Ap n,Aa d] [] (B0 (Ei n d)) []:=Ab Γ hm 100 F254 Tryz.ntmps254 rfl fun F hF=>by
 have hv:=Wt hb hd
 have h2:=Wn hb hd
 obtain ⟨x,hx⟩:∃ x,n.domains[d.toNat]'hd.2 = x:=⟨_,rfl⟩
 rw [hx] at h2
 simp only [hx] at hv
 obtain ⟨y,hy⟩:∃ y,n.devices[x.dev.toNat]'h2.2 = y:=⟨_,rfl⟩
 rw [hy] at hv
 rw [hv]
 conv=>whnf
 refine ⟨E,hd.1,hd.2,?_⟩
 rw [hx]
 conv=>whnf
 refine ⟨E,h2.1,h2.2,?_⟩
 rw [hy]
 conv=>whnf
 refine ⟨(by kernel_rfl),?_⟩
 conv=>whnf
 exact Ac E (.cons .tmp .nil) E E
theorem Sb (n:Net) (hb:Ah n = true) (d:Int) (hd:DomIn n d):Sy.Spec Tryz.prog 223 [Ap n,Aa d] [] (B0 (Ei n d)) []:=Ab Γ hm 100 F223 Tryz.ntmps223 rfl fun F hF=>by
 have hv:=Wt hb hd
 have h2:=Wn hb hd
 obtain ⟨x,hx⟩:∃ x,n.domains[d.toNat]'hd.2 = x:=⟨_,rfl⟩
 rw [hx] at h2
 simp only [hx] at hv
 obtain ⟨y,hy⟩:∃ y,n.devices[x.dev.toNat]'h2.2 = y:=⟨_,rfl⟩
 rw [hy] at hv
 rw [hv]
 conv=>whnf
 refine ⟨E,hd.1,hd.2,?_⟩
 rw [hx]
 conv=>whnf
 refine ⟨E,h2.1,h2.2,?_⟩
 rw [hy]
 conv=>whnf
 refine ⟨(by kernel_rfl),?_⟩
 conv=>whnf
 exact Ac E (.cons .tmp .nil) E E
theorem Aha (n:Net) (hn:n.Fin) (hm0:n.Num) (dom peer:Int) (f:FrameM) (h:FrameOK f) :
  Sy.Spec Tryz.prog 178 [Ap n,Aa dom,Aa peer,Bc f] [] (.tup [.sl 1 Aj (meshT n dom peer f).1,Aa (meshT n dom peer f).2]) []:=Ab Γ hm 100 F178 Tryz.ntmps178 rfl fun F hF=>by
 have hres:=meshT.eq_1 n dom peer f
 generalize meshT n dom peer f = res at *
 have hr:=B4 n hn
 have hpS:=Km peer n.domains.length
 have hdS:=Km dom n.domains.length
 conv=>whnf
 refine Bf 4 8 (Ap n) E E E ?_
 refine Bf 7 4 (Bc f) E E E ?_
 refine rg ?_;conv=>whnf
 refine Ag hpS F250 E E E E E ?_
 cases hpl:Am peer n.domains.length
 ·rw [if_pos (.inl hpl)] at hres
  subst hres
  (refine rg ?_;(conv=>whnf);refine aT ?_;refine rg ?_;(conv=>whnf);refine aT ?_;refine rg ?_;(conv=>whnf);refine aT ?_;refine rg ?_;conv=>whnf)
  refine An 8 1 Aj E ?_
  exact Ac E (.cons .tmp (.cons .tmp .nil)) E E
 (refine rg ?_;(conv=>whnf);refine aF ?_;refine rg ?_;conv=>whnf)
 refine Ag hdS F250 E E E E E ?_
 cases hdl:Am dom n.domains.length
 ·rw [if_pos (.inr (.inl hdl))] at hres
  subst hres
  (refine rg ?_;(conv=>whnf);refine aT ?_;refine rg ?_;(conv=>whnf);refine aT ?_;refine rg ?_;conv=>whnf)
  refine An 8 1 Aj E ?_
  exact Ac E (.cons .tmp (.cons .tmp .nil)) E E
 (refine rg ?_;(conv=>whnf);refine aF ?_;refine rg ?_;conv=>whnf)
 refine Ag hr F67 E E E E E ?_
 cases hbn:Ah n
 ·rw [if_pos (.inr (.inr hbn))] at hres
  subst hres
  (refine rg ?_;(conv=>whnf);refine aT ?_;refine rg ?_;conv=>whnf)
  refine An 8 1 Aj E ?_
  exact Ac E (.cons .tmp (.cons .tmp .nil)) E E
 rw [if_neg (by simp [hbn,hpl,hdl])] at hres
 have hd:=En hdl
 have hp:=En hpl
 have hd0:=hd.1
 have hkd:=hd.2
 have e2:nth n.domains dom = n.domains[dom.toNat]:=Ao hkd
 have hpe:=hn.peers _ (List.getElem_mem hkd)
 have va:=S2 hm0 hbn hd
 have vb:=S2 hm0 hbn hp
 have qa:=Sh n hbn dom hd
 have qb:=Sh n hbn peer hp
 generalize Ei n dom = a at *
 generalize Ei n peer = c at *
 obtain ⟨a,rfl⟩:=Int.eq_ofNat_of_zero_le va.1
 obtain ⟨c,rfl⟩:=Int.eq_ofNat_of_zero_le vb.1
 rw [Int.toNat_natCast,Int.toNat_natCast] at hres
 obtain ⟨d,hdd⟩:∃ d,n.domains[dom.toNat]'hkd = d:=⟨_,rfl⟩
 rw [hdd] at e2 hpe
 rw [e2] at hres
 have qc:=Dv d.peers peer hpe
 have qw:=Ao5 a c d.vni f (by omega) (by omega) h
 (refine rg ?_;(conv=>whnf);refine aF ?_;refine rg ?_;conv=>whnf)
 refine ⟨E,hd0,hkd,?_⟩
 rw [hdd]
 conv=>whnf
 refine Ag qc F86 E E E E E ?_
 cases hi:inB d.peers peer
 ·rw [if_pos hi] at hres
  subst hres
  (refine rg ?_;(conv=>whnf);refine aT ?_;refine rg ?_;conv=>whnf)
  refine An 8 1 Aj E ?_
  exact Ac E (.cons .tmp (.cons .tmp .nil)) E E
 rw [if_neg (by rw [hi]; decide)] at hres
 subst hres
 (refine rg ?_;(conv=>whnf);refine aF ?_;refine rg ?_;conv=>whnf)
 refine At qa F254 E E E (by kernel_rfl) E ?_
 refine rd (by kernel_rfl) ?_;conv=>whnf
 refine At qb F254 E E E (by kernel_rfl) E ?_
 refine rd (by kernel_rfl) ?_;conv=>whnf
 refine ⟨E,hd0,hkd,?_⟩
 rw [hdd]
 conv=>whnf
 refine At qw F253 E E E (by kernel_rfl) E ?_
 refine rd (by kernel_rfl) ?_;conv=>whnf
 refine ⟨(by kernel_rfl),?_⟩
 conv=>whnf
 exact Ac E (.cons .tmp (.cons .tmp .nil)) E E
theorem Sc (n:Net) (hn:n.Fin) (hm0:n.Num) (dom peer:Int) (f:FrameM) (h:FrameOK f) :
  Sy.Spec Tryz.prog 150 [Ap n,Aa dom,Aa peer,Bc f] [] (.tup [.sl 1 Aj (meshT n dom peer f).1,Aa (meshT n dom peer f).2]) []:=Ab Γ hm 100 F150 Tryz.ntmps150 rfl fun F hF=>by
 have hres:=meshT.eq_1 n dom peer f
 generalize meshT n dom peer f = res at *
 have hr:=Dw n hn
 have hpS:=A9 peer n.domains.length
 have hdS:=A9 dom n.domains.length
 conv=>whnf
 refine Bf 4 8 (Ap n) E E E ?_
 refine Bf 7 4 (Bc f) E E E ?_
 refine rg ?_;conv=>whnf
 refine Ag hr F74 E E E E E ?_
 cases hbn:Ah n
 ·rw [if_pos (.inr (.inr hbn))] at hres
  subst hres
  (refine rg ?_;(conv=>whnf);refine aT ?_;refine rg ?_;(conv=>whnf);refine aT ?_;refine rg ?_;(conv=>whnf);refine aT ?_;refine rg ?_;conv=>whnf)
  refine An 8 1 Aj E ?_
  exact Ac E (.cons .tmp (.cons .tmp .nil)) E E
 (refine rg ?_;(conv=>whnf);refine aF ?_;refine rg ?_;conv=>whnf)
 refine Ag hpS F35 E E E E E ?_
 cases hpl:Am peer n.domains.length
 ·rw [if_pos (.inl hpl)] at hres
  subst hres
  (refine rg ?_;(conv=>whnf);refine aT ?_;refine rg ?_;(conv=>whnf);refine aT ?_;refine rg ?_;conv=>whnf)
  refine An 8 1 Aj E ?_
  exact Ac E (.cons .tmp (.cons .tmp .nil)) E E
 (refine rg ?_;(conv=>whnf);refine aF ?_;refine rg ?_;conv=>whnf)
 refine Ag hdS F35 E E E E E ?_
 cases hdl:Am dom n.domains.length
 ·rw [if_pos (.inr (.inl hdl))] at hres
  subst hres
  (refine rg ?_;(conv=>whnf);refine aT ?_;refine rg ?_;conv=>whnf)
  refine An 8 1 Aj E ?_
  exact Ac E (.cons .tmp (.cons .tmp .nil)) E E
 rw [if_neg (by simp [hbn,hpl,hdl])] at hres
 have hd:=En hdl
 have hp:=En hpl
 have hd0:=hd.1
 have hkd:=hd.2
 have e2:nth n.domains dom = n.domains[dom.toNat]:=Ao hkd
 have hpe:=hn.peers _ (List.getElem_mem hkd)
 have va:=S2 hm0 hbn hd
 have vb:=S2 hm0 hbn hp
 have qa:=Sb n hbn dom hd
 have qb:=Sb n hbn peer hp
 generalize Ei n dom = a at *
 generalize Ei n peer = c at *
 obtain ⟨a,rfl⟩:=Int.eq_ofNat_of_zero_le va.1
 obtain ⟨c,rfl⟩:=Int.eq_ofNat_of_zero_le vb.1
 rw [Int.toNat_natCast,Int.toNat_natCast] at hres
 obtain ⟨d,hdd⟩:∃ d,n.domains[dom.toNat]'hkd = d:=⟨_,rfl⟩
 rw [hdd] at e2 hpe
 rw [e2] at hres
 have qc:=El d.peers peer hpe
 have qw:=Agh a c d.vni f (by omega) (by omega) h
 (refine rg ?_;(conv=>whnf);refine aF ?_;refine rg ?_;conv=>whnf)
 refine ⟨E,hd0,hkd,?_⟩
 rw [hdd]
 conv=>whnf
 refine Ag qc F142 E E E E E ?_
 cases hi:inB d.peers peer
 ·rw [if_pos hi] at hres
  subst hres
  (refine rg ?_;(conv=>whnf);refine aT ?_;refine rg ?_;conv=>whnf)
  refine An 8 1 Aj E ?_
  exact Ac E (.cons .tmp (.cons .tmp .nil)) E E
 rw [if_neg (by rw [hi]; decide)] at hres
 subst hres
 (refine rg ?_;(conv=>whnf);refine aF ?_;refine rg ?_;conv=>whnf)
 refine At qa F223 E E E (by kernel_rfl) E ?_
 refine rd (by kernel_rfl) ?_;conv=>whnf
 refine At qb F223 E E E (by kernel_rfl) E ?_
 refine rd (by kernel_rfl) ?_;conv=>whnf
 refine ⟨E,hd0,hkd,?_⟩
 rw [hdd]
 conv=>whnf
 refine At qw F222 E E E (by kernel_rfl) E ?_
 refine rd (by kernel_rfl) ?_;conv=>whnf
 refine ⟨(by kernel_rfl),?_⟩
 conv=>whnf
 exact Ac E (.cons .tmp (.cons .tmp .nil)) E E
theorem Abd (b:List UInt8) (hb:b.length < 100000) :
  Sy.Spec Tryz.prog 224 [.sl 1 Aj b] [] (.tup [B0 (unwrapT b).1,B0 (unwrapT b).2.1,Aa (unwrapT b).2.2.1,Bc (unwrapT b).2.2.2.1,Aa (unwrapT b).2.2.2.2]) []:=Ab Γ hm 100 F224 Tryz.ntmps224 rfl fun F hF=>by
 have hres:=unwrapT.eq_1 b
 have ho:=outerT.eq_1 b
 generalize unwrapT b = res at *
 have q1:=Sd b hb
 have hok:=@Acz b
 generalize takeF b = tk at *
 obtain ⟨f,e⟩:=tk
 dsimp only at ho q1 hok
 conv=>whnf
 refine Ag q1 F75 E E E E E ?_
 refine rg ?_;conv=>whnf
 by_cases he:e = 0
 rotate_left
 ·rw [if_pos he] at ho
  rw [ho,if_pos he] at hres
  subst hres
  refine ⟨fun h=>absurd (show e = 0 by simpa using h) he,fun _=>?_⟩
  (refine rg ?_;(conv=>whnf);refine aF ?_;refine rg ?_;conv=>whnf)
  refine ⟨fun _=>?_,fun h=>absurd (show e = 0 by simpa using h) he⟩
  refine rg ?_;conv=>whnf
  refine ⟨(by kernel_rfl),?_⟩
  conv=>whnf
  refine Av 5 zF E (.cons (.refl _) (.cons (.refl _) (.cons (.refl _) (.cons .nil .nil)))) ?_
  exact Ac E (.cons .tmp (.cons .tmp (.cons .tmp (.cons (.cell E E E E) (.cons .tmp .nil))))) E E
 subst he
 rw [if_neg (by simp)] at ho
 have hfb:=(hok rfl).body
 (refine ⟨fun _=>?_,fun h=>False.elim (absurd h (by decide))⟩;refine rg ?_;conv=>whnf)
 by_cases ht:f.typ = 2048
 rotate_left
 ·rw [if_pos ht] at ho
  rw [ho,if_pos (by simp)] at hres
  subst hres
  refine ⟨fun _=>?_,fun h=>absurd (show (f.typ:Int) = 2048 by simpa using h) (by omega)⟩
  (refine rg ?_;(conv=>whnf);refine aT ?_;refine rg ?_;conv=>whnf)
  refine ⟨(by kernel_rfl),?_⟩
  conv=>whnf
  refine Av 5 zF E (.cons (.refl _) (.cons (.refl _) (.cons (.refl _) (.cons .nil .nil)))) ?_
  exact Ac E (.cons .tmp (.cons .tmp (.cons .tmp (.cons (.cell E E E E) (.cons .tmp .nil))))) E E
 rw [if_neg (fun h=>h ht)] at ho
 refine ⟨fun h=>absurd (show ¬ (f.typ:Int) = 2048 by simpa using h) (by omega),fun _=>?_⟩
 have q2:=Xk f.body (by omega)
 have hio:=@X9 f.body
 generalize ipTakeT f.body = ip at *
 obtain ⟨p,e⟩:=ip
 dsimp only at ho q2 hio
 (refine rg ?_;(conv=>whnf);refine aF ?_;refine rg ?_;conv=>whnf)
 refine Ag q2 F214 E E E E E ?_
 refine rg ?_;conv=>whnf
 by_cases he:e = 0
 rotate_left
 ·rw [if_pos he] at ho
  rw [ho,if_pos he] at hres
  subst hres
  refine ⟨fun h=>absurd (show e = 0 by simpa using h) he,fun _=>?_⟩
  (refine rg ?_;(conv=>whnf);refine aF ?_;refine rg ?_;conv=>whnf)
  refine ⟨fun _=>?_,fun h=>absurd (show e = 0 by simpa using h) he⟩
  refine rg ?_;conv=>whnf
  refine ⟨(by kernel_rfl),?_⟩
  conv=>whnf
  refine Av 5 zF E (.cons (.refl _) (.cons (.refl _) (.cons (.refl _) (.cons .nil .nil)))) ?_
  exact Ac E (.cons .tmp (.cons .tmp (.cons .tmp (.cons (.cell E E E E) (.cons .tmp .nil))))) E E
 subst he
 rw [if_neg (by simp)] at ho
 have hpl:=(hio rfl).2
 (refine ⟨fun _=>?_,fun h=>False.elim (absurd h (by decide))⟩;refine rg ?_;conv=>whnf)
 by_cases hp:p.proto = 17
 rotate_left
 ·rw [if_pos hp] at ho
  rw [ho,if_pos (by simp)] at hres
  subst hres
  refine ⟨fun _=>?_,fun h=>absurd (show (p.proto:Int) = 17 by simpa using h) (by omega)⟩
  (refine rg ?_;(conv=>whnf);refine aT ?_;refine rg ?_;conv=>whnf)
  refine ⟨(by kernel_rfl),?_⟩
  conv=>whnf
  refine Av 5 zF E (.cons (.refl _) (.cons (.refl _) (.cons (.refl _) (.cons .nil .nil)))) ?_
  exact Ac E (.cons .tmp (.cons .tmp (.cons .tmp (.cons (.cell E E E E) (.cons .tmp .nil))))) E E
 rw [if_neg (fun h=>h hp)] at ho
 refine ⟨fun h=>absurd (show ¬ (p.proto:Int) = 17 by simpa using h) (by omega),fun _=>?_⟩
 rw [ho,if_neg (by simp)] at hres
 clear ho
 dsimp only at hres
 have hi:=innerT.eq_1 p.body
 generalize innerT p.body = inn at *
 have q3:=Agi p.body (by omega)
 have hul:=@Ao1 p.body
 generalize udpTakeT p.body = u at *
 obtain ⟨u1,u2,u3,e⟩:=u
 dsimp only at hi q3 hul
 (refine rg ?_;(conv=>whnf);refine aF ?_;refine rg ?_;conv=>whnf)
 refine Ag q3 F279 E E E E E ?_
 refine rg ?_;conv=>whnf
 by_cases he:e = 0
 rotate_left
 ·rw [if_pos he] at hi
  rw [hi,if_pos he] at hres
  subst hres
  refine ⟨fun h=>absurd (show e = 0 by simpa using h) he,fun _=>?_⟩
  (refine rg ?_;(conv=>whnf);refine aF ?_;refine rg ?_;conv=>whnf)
  refine ⟨fun _=>?_,fun h=>absurd (show e = 0 by simpa using h) he⟩
  refine rg ?_;conv=>whnf
  refine ⟨(by kernel_rfl),?_⟩
  conv=>whnf
  refine Av 5 zF E (.cons (.refl _) (.cons (.refl _) (.cons (.refl _) (.cons .nil .nil)))) ?_
  exact Ac E (.cons .tmp (.cons .tmp (.cons .tmp (.cons (.cell E E E E) (.cons .tmp .nil))))) E E
 subst he
 rw [if_neg (by simp)] at hi
 (refine ⟨fun _=>?_,fun h=>False.elim (absurd h (by decide))⟩;refine rg ?_;conv=>whnf)
 by_cases h2:u2 = 4789
 rotate_left
 ·rw [if_pos h2] at hi
  rw [hi,if_pos (by simp)] at hres
  subst hres
  refine ⟨fun _=>?_,fun h=>absurd (show u2 = 4789 by simpa using h) h2⟩
  (refine rg ?_;(conv=>whnf);refine aT ?_;refine rg ?_;conv=>whnf)
  refine ⟨(by kernel_rfl),?_⟩
  conv=>whnf
  refine Av 5 zF E (.cons (.refl _) (.cons (.refl _) (.cons (.refl _) (.cons .nil .nil)))) ?_
  exact Ac E (.cons .tmp (.cons .tmp (.cons .tmp (.cons (.cell E E E E) (.cons .tmp .nil))))) E E
 rw [if_neg (fun h=>h h2)] at hi
 refine ⟨fun h=>absurd h2 (by simpa using h),fun _=>?_⟩
 have q4:=Akh u3 (by omega)
 have hvl:=@vniT_body u3
 generalize vniT u3 = w at *
 obtain ⟨w1,w2,e⟩:=w
 dsimp only at hi q4 hvl
 (refine rg ?_;(conv=>whnf);refine aF ?_;refine rg ?_;conv=>whnf)
 refine Ag q4 F280 E E E E E ?_
 refine rg ?_;conv=>whnf
 by_cases he:e = 0
 rotate_left
 ·rw [if_pos he] at hi
  rw [hi,if_pos he] at hres
  subst hres
  refine ⟨fun _=>?_,fun h=>absurd (show e = 0 by simpa using h) he⟩
  refine rg ?_;conv=>whnf
  refine ⟨(by kernel_rfl),?_⟩
  conv=>whnf
  refine Av 5 zF E (.cons (.refl _) (.cons (.refl _) (.cons (.refl _) (.cons .nil .nil)))) ?_
  exact Ac E (.cons .tmp (.cons .tmp (.cons .tmp (.cons (.cell E E E E) (.cons .tmp .nil))))) E E
 subst he
 rw [if_neg (by simp)] at hi
 (refine ⟨fun h=>False.elim (absurd h (by decide)),fun _=>?_⟩;refine rg ?_;conv=>whnf)
 have q5:=Sd w2 (by omega)
 generalize takeF w2 = tk at *
 obtain ⟨g,e⟩:=tk
 dsimp only at hi q5
 refine Ag q5 F75 E E E E E ?_
 refine rg ?_;conv=>whnf
 by_cases he:e = 0
 rotate_left
 ·rw [if_pos he] at hi
  rw [hi,if_pos he] at hres
  subst hres
  refine ⟨fun h=>absurd (show e = 0 by simpa using h) he,fun _=>?_⟩
  (refine rg ?_;(conv=>whnf);refine aF ?_;refine rg ?_;conv=>whnf)
  refine ⟨fun _=>?_,fun h=>absurd (show e = 0 by simpa using h) he⟩
  refine rg ?_;conv=>whnf
  refine ⟨(by kernel_rfl),?_⟩
  conv=>whnf
  refine Av 5 zF E (.cons (.refl _) (.cons (.refl _) (.cons (.refl _) (.cons .nil .nil)))) ?_
  exact Ac E (.cons .tmp (.cons .tmp (.cons .tmp (.cons (.cell E E E E) (.cons .tmp .nil))))) E E
 subst he
 rw [if_neg (by simp)] at hi
 (refine ⟨fun _=>?_,fun h=>False.elim (absurd h (by decide))⟩;refine rg ?_;conv=>whnf)
 by_cases hg:g.typ = 33024
 ·rw [if_pos hg] at hi
  rw [hi,if_pos (by simp)] at hres
  subst hres
  refine ⟨fun _=>?_,fun h=>absurd (show ¬ (g.typ:Int) = 33024 by simpa using h) (by omega)⟩
  (refine rg ?_;(conv=>whnf);refine aT ?_;refine rg ?_;conv=>whnf)
  refine ⟨(by kernel_rfl),?_⟩
  conv=>whnf
  refine Av 5 zF E (.cons (.refl _) (.cons (.refl _) (.cons (.refl _) (.cons .nil .nil)))) ?_
  exact Ac E (.cons .tmp (.cons .tmp (.cons .tmp (.cons (.cell E E E E) (.cons .tmp .nil))))) E E
 rw [if_neg hg] at hi
 rw [hi,if_neg (by simp)] at hres
 subst hres
 refine ⟨fun h=>absurd (show (g.typ:Int) = 33024 by simpa using h) (by omega),fun _=>?_⟩
 (refine rg ?_;(conv=>whnf);refine aF ?_;refine rg ?_;conv=>whnf)
 refine ⟨(by kernel_rfl),?_⟩
 conv=>whnf
 exact Ac E (.cons .tmp (.cons .tmp (.cons .tmp (.cons (.cell E E E E) (.cons .tmp .nil))))) E E
theorem endsC1 (dst:Int) (d:Device):Sy.Spec Tryz.prog 319 [Br d,.ref 1 (B0 dst) 0] [] (Ad (decide (d.vtep = dst))) []:=Ab Γ hm 100 F319 Tryz.ntmps319 rfl fun F hF=>by
 conv=>whnf
 refine Ac E (.cons .tmp .nil) (congrArg Ad ?_) E
 rw [Bool.eq_iff_iff]
 simp
theorem endsC2 (dev vni:Int) (d:Domain):Sy.Spec Tryz.prog 320 [A0 d,.ref 1 (Aa dev) 0,.ref 1 (Aa vni) 0] [] (Ad (decide (d.dev = dev) && decide (d.vni = vni))) []:=Ab Γ hm 100 F320 Tryz.ntmps320 rfl fun F hF=>by
 conv=>whnf
 refine ⟨fun h=>?_,fun h=>?_⟩
 ·have h1:d.dev = dev:=by simpa using h
  refine rg ?_;conv=>whnf
  refine Ac E (.cons .tmp .nil) (congrArg Ad ?_) E
  rw [decide_eq_true h1,Bool.true_and,Bool.eq_iff_iff]
  simp
 ·have h1:¬ d.dev = dev:=by simpa using h
  refine rg ?_;conv=>whnf
  refine Ac E (.cons .tmp .nil) (congrArg Ad ?_) E
  rw [decide_eq_false h1,Bool.false_and]
theorem endsC3 (n:Net) (hb:Ah n = true) (src:Int) (k:Int) (hk:DomIn n k):Sy.Spec Tryz.prog 322 [Aa k,.ref 8 (Ap n) 0,.ref 1 (B0 src) 0] [] (Ad (decide (Ei n k = src))) []:=Ab Γ hm 100 F322 Tryz.ntmps322 rfl fun F hF=>by
 have q:=Sh n hb k hk
 conv=>whnf
 refine At q F254 E E E (by kernel_rfl) E ?_
 refine rd (by kernel_rfl) ?_;conv=>whnf
 refine ⟨(by kernel_rfl),?_⟩
 conv=>whnf
 refine Ac E (.cons .tmp .nil) (congrArg Ad ?_) E
 rw [Bool.eq_iff_iff]
 simp
theorem endsS (n:Net) (hn:n.Fin) (hb:Ah n = true) (src dst:Nat) (vni:Int) :
  Sy.Spec Tryz.prog 260 [Ap n,B0 src,B0 dst,Aa vni] [] (.tup [Aa (endsT n src dst vni).1,Aa (endsT n src dst vni).2]) []:=Ab Γ hm 100 F260 Tryz.ntmps260 rfl fun F hF=>by
 have hres:=endsT.eq_1 n src dst vni
 dsimp only at hres
 generalize endsT n src dst vni = res at *
 have q1:=Tv n.devices (fun d=>decide (d.vtep = (dst:Int))) 319 [] [.ref 1 (B0 dst) 0] rfl (fun d _=>⟨⟨_,_,F319⟩,endsC1 dst d⟩) hn.devices
 generalize C7 (fun d:Device=>decide (d.vtep = (dst:Int))) n.devices = dev at *
 have q2:=Hz n.domains (fun d=>decide (d.dev = dev) && decide (d.vni = vni)) 320 [] [.ref 1 (Aa dev) 0,.ref 1 (Aa vni) 0] rfl (fun d _=>⟨⟨_,_,F320⟩,endsC2 dev vni d⟩) hn.domains
 have hlt:=Ir (fun d:Domain=>decide (d.dev = dev) && decide (d.vni = vni)) n.domains
 generalize C7 (fun d:Domain=>decide (d.dev = dev) && decide (d.vni = vni)) n.domains = dom at *
 conv=>whnf
 refine Bf 4 8 (Ap n) E E E ?_
 refine Bf 5 1 (B0 src) E E E ?_
 refine Bf 6 1 (B0 dst) E E E ?_
 refine Bf 7 1 (Aa vni) E E E ?_
 refine rg ?_;conv=>whnf
 refine Ag q1 F318 E E E E E ?_
 refine rg ?_;conv=>whnf
 refine Bf 10 1 (Aa dev) E E E ?_
 refine rg ?_;conv=>whnf
 refine Ag q2 F262 E E E E E ?_
 refine rg ?_;conv=>whnf
 refine ⟨fun h=>?_,fun h=>?_⟩
 ·rw [if_pos (.inl (of_decide_eq_true h))] at hres
  subst hres
  (refine rg ?_;(conv=>whnf);refine aT ?_;refine rg ?_;conv=>whnf)
  exact Ac E (.cons .tmp (.cons .tmp .nil)) E E
 have h1:=of_decide_eq_false h
 clear h
 refine rg ?_;conv=>whnf
 refine ⟨fun h=>?_,fun h=>?_⟩
 ·rw [if_pos (.inr (of_decide_eq_true h))] at hres
  subst hres
  refine rg ?_;conv=>whnf
  exact Ac E (.cons .tmp (.cons .tmp .nil)) E E
 have h2:=of_decide_eq_false h
 clear h
 rw [if_neg (fun h=>h.elim h1 h2)] at hres
 have hd0:0 ≤ dom:=by omega
 have hkd:dom.toNat < n.domains.length:=by omega
 have e2:nth n.domains dom = n.domains[dom.toNat]:=Ao hkd
 have hpe:=hn.peers _ (List.getElem_mem hkd)
 have hpin:∀ k ∈ (n.domains[dom.toNat]'hkd).peers,DomIn n k:=fun k hk=>Xw hb hkd hk
 obtain ⟨d,hdd⟩:∃ d,n.domains[dom.toNat]'hkd = d:=⟨_,rfl⟩
 rw [hdd] at e2 hpe hpin
 rw [e2] at hres
 have q3:=J8 d.peers (fun k=>decide (Ei n k = (src:Int))) 322 [] [.ref 8 (Ap n) 0,.ref 1 (B0 src) 0] rfl (fun k hk=>⟨⟨_,_,F322⟩,endsC3 n hb src k (hpin k hk)⟩) hpe
 have hlt2:=Ir (fun k:Int=>decide (Ei n k = (src:Int))) d.peers
 generalize C7 (fun k:Int=>decide (Ei n k = (src:Int))) d.peers = i at *
 refine rg ?_;conv=>whnf
 refine ⟨E,hd0,hkd,?_⟩
 rw [hdd]
 conv=>whnf
 refine Ag q3 F321 E E E E E ?_
 refine rg ?_;conv=>whnf
 refine ⟨fun h=>?_,fun h=>?_⟩
 ·rw [if_pos (of_decide_eq_true h)] at hres
  subst hres
  refine rg ?_;conv=>whnf
  exact Ac E (.cons .tmp (.cons .tmp .nil)) E E
 have h3:=of_decide_eq_false h
 clear h
 rw [if_neg h3] at hres
 have hki:i.toNat < d.peers.length:=by omega
 rw [Ao hki] at hres
 subst hres
 refine rg ?_;conv=>whnf
 refine ⟨E,by omega,hki,?_⟩
 conv=>whnf
 exact Ac E (.cons .tmp (.cons .tmp .nil)) E E
theorem Ahc (n:Net) (hn:n.Fin) (b:List UInt8) (hb:b.length < 100000) :
  Sy.Spec Tryz.prog 183 [Ap n,.sl 1 Aj b] [] (.tup [Aa (comeT n b).1,Aa (comeT n b).2.1,Bc (comeT n b).2.2.1,Aa (comeT n b).2.2.2]) []:=Ab Γ hm 100 F183 Tryz.ntmps183 rfl fun F hF=>by
 have hres:=comeT.eq_1 n b
 generalize comeT n b = res at *
 have hr:=B4 n hn
 conv=>whnf
 refine Bf 2 8 (Ap n) E E E ?_
 refine rg ?_;conv=>whnf
 refine Ag hr F67 E E E E E ?_
 cases hbn:Ah n
 ·rw [if_pos hbn] at hres
  subst hres
  (refine rg ?_;(conv=>whnf);refine aT ?_;refine rg ?_;conv=>whnf)
  refine Av 6 zF E (.cons (.refl _) (.cons (.refl _) (.cons (.refl _) (.cons .nil .nil)))) ?_
  exact Ac E (.cons .tmp (.cons .tmp (.cons (.cell E E E E) (.cons .tmp .nil)))) E E
 rw [if_neg (by rw [hbn]; decide)] at hres
 have q1:=Ajj b hb
 have huo:=Q5 b
 generalize unwrapT b = u at *
 obtain ⟨src,dst,vni,f,e⟩:=u
 dsimp only at hres q1 huo
 have hsrc:=huo.2.2.2.src
 (refine rg ?_;(conv=>whnf);refine aF ?_;refine rg ?_;conv=>whnf)
 refine Ag q1 F259 E E E E E ?_
 refine rg ?_;conv=>whnf
 refine ⟨fun h=>?_,fun h=>?_⟩
 ·rw [if_pos (by simpa using h)] at hres
  subst hres
  refine rg ?_;conv=>whnf
  refine Av 6 zF E (.cons (.refl _) (.cons (.refl _) (.cons (.refl _) (.cons .nil .nil)))) ?_
  exact Ac E (.cons .tmp (.cons .tmp (.cons (.cell E E E E) (.cons .tmp .nil)))) E E
 rw [if_neg (by simpa using h)] at hres
 clear h
 have q2:=endsS n hn hbn src dst vni
 generalize endsT n src dst vni = en at *
 obtain ⟨fr,dom⟩:=en
 dsimp only at hres q2
 refine rg ?_;conv=>whnf
 refine Ag q2 F260 E E E E E ?_
 refine rg ?_;conv=>whnf
 refine ⟨fun h=>?_,fun h=>?_⟩
 ·rw [if_pos (of_decide_eq_true h)] at hres
  subst hres
  refine rg ?_;conv=>whnf
  refine Av 6 zF E (.cons (.refl _) (.cons (.refl _) (.cons (.refl _) (.cons .nil .nil)))) ?_
  exact Ac E (.cons .tmp (.cons .tmp (.cons (.cell E E E E) (.cons .tmp .nil)))) E E
 rw [if_neg (of_decide_eq_false h)] at hres
 clear h
 have qg:=Le f.src (by omega)
 refine rg ?_;conv=>whnf
 refine Ag qg F162 E E E E E ?_
 cases hg:Du f.src
 rotate_left
 ·rw [if_pos hg] at hres
  subst hres
  (refine rg ?_;(conv=>whnf);refine aT ?_;refine rg ?_;conv=>whnf)
  refine Av 6 zF E (.cons (.refl _) (.cons (.refl _) (.cons (.refl _) (.cons .nil .nil)))) ?_
  exact Ac E (.cons .tmp (.cons .tmp (.cons (.cell E E E E) (.cons .tmp .nil)))) E E
 rw [if_neg (by rw [hg]; decide)] at hres
 subst hres
 (refine rg ?_;(conv=>whnf);refine aF ?_;refine rg ?_;conv=>whnf)
 refine ⟨(by kernel_rfl),?_⟩
 conv=>whnf
 exact Ac E (.cons .tmp (.cons .tmp (.cons (.cell E E E E) (.cons .tmp .nil)))) E E
theorem Agc (n:Net) (hn:n.Fin) (hb:Ah n = true) (src dst:Nat) (vni:Int) :
  Sy.Spec Tryz.prog 225 [Ap n,B0 src,B0 dst,Aa vni] [] (.tup [Aa (endsT n src dst vni).1,Aa (endsT n src dst vni).2]) []:=Ab Γ hm 100 F225 Tryz.ntmps225 rfl fun F hF=>by
 have hres:=endsT.eq_1 n src dst vni
 dsimp only at hres
 generalize endsT n src dst vni = res at *
 have hsd:=hn.devices
 have hsm:=hn.domains
 unfold Aq at hsd hsm
 conv=>whnf
 refine Bf 4 8 (Ap n) E E E ?_
 refine A2 n.devices.length (fun j=>∀ i (h:i < n.devices.length),i < j → decide (n.devices[i].vtep = (dst:Int)) = false) (fun j=>[(1,B0 src),(2,B0 dst),(3,Aa vni),(4,.ref 8 (Ap n) 0),(10,Aa j)]) (fun _=>[]) [] (fun i h h2=>by omega) ⟨⟨E,E,E,E,E,E,E,E,E,E,Y⟩,Y,E,E⟩ ?_
 intro j hj hI
 refine rg ?_;conv=>whnf
 refine ⟨fun h=>?_,fun h=>?_⟩
 ·have hlt:j < n.devices.length:=by have:=of_decide_eq_true h; omega
  have hj0:((j:Nat):Int).toNat < n.devices.length:=by simpa using hlt
  obtain ⟨d,hd⟩:∃ d,n.devices[j] = d:=⟨_,rfl⟩
  have e1:n.devices[((j:Nat):Int).toNat]'hj0 = d:=hd
  clear h
  refine rg ?_;conv=>whnf
  refine ⟨E,by omega,hj0,?_⟩
  rw [e1]
  conv=>whnf
  refine ⟨fun h=>?_,fun h=>?_⟩
  ·have hne:¬ d.vtep = (dst:Int):=by simpa using h
   refine rg ?_;conv=>whnf
   refine ⟨by unfold I64; omega,?_⟩
   conv=>whnf
   refine Ax [] hI hlt (fun i hi h2=>?_) ⟨⟨E,E,E,E,E,E,E,E,E,E,Y⟩,Y,E,E⟩
   by_cases hij:i = j
   ·subst hij; rw [hd]; exact decide_eq_false hne
   ·exact hI i hi (by omega)
  have heq:d.vtep = (dst:Int):=by simpa using h
  clear h
  have hdev:C7 (fun d:Device=>decide (d.vtep = (dst:Int))) n.devices = (j:Int):=Ct hlt hI (by rw [hd]; exact decide_eq_true heq)
  rw [hdev] at hres
  refine rg ?_;conv=>whnf
  refine A2 n.domains.length (fun k=>∀ i (h:i < n.domains.length),i < k → (decide (n.domains[i].dev = (j:Int)) && decide (n.domains[i].vni = vni)) = false) (fun k=>[(1,B0 src),(3,Aa vni),(4,.ref 8 (Ap n) 0),(10,Aa j),(11,Aa k)]) (fun _=>[]) [] (fun i h h2=>by omega) ⟨⟨E,E,E,E,E,E,E,E,E,E,Y⟩,Y,E,E⟩ ?_
  intro k hk hK
  refine rg ?_;conv=>whnf
  refine ⟨fun h=>?_,fun h=>?_⟩
  ·have hlk:k < n.domains.length:=by have:=of_decide_eq_true h; omega
   have hk0:((k:Nat):Int).toNat < n.domains.length:=by simpa using hlk
   have hpe:=hn.peers _ (List.getElem_mem hlk)
   have hpin:∀ z ∈ (n.domains[k]'hlk).peers,DomIn n z:=fun z hz=>Xw hb hlk hz
   obtain ⟨x,hx⟩:∃ x,n.domains[k] = x:=⟨_,rfl⟩
   have e2:n.domains[((k:Nat):Int).toNat]'hk0 = x:=hx
   have e3:nth n.domains (k:Int) = x:=by rw [Ao hk0]; exact hx
   rw [hx] at hpe hpin
   clear h
   have next:(decide (x.dev = (j:Int)) && decide (x.vni = vni)) = false → ∀ i (h:i < n.domains.length),i < k + 1 → (decide (n.domains[i].dev = (j:Int)) && decide (n.domains[i].vni = vni)) = false:=fun hf i hi h2=>by
    by_cases hik:i = k
    ·subst hik; rw [hx]; exact hf
    ·exact hK i hi (by omega)
   refine rg ?_;conv=>whnf
   refine ⟨E,by omega,hk0,?_⟩
   rw [e2]
   conv=>whnf
   refine ⟨fun h=>?_,fun h=>?_⟩
   ·have hne:¬ x.dev = (j:Int):=by simpa using h
    (refine rg ?_;(conv=>whnf);refine aT ?_;refine rg ?_;conv=>whnf)
    refine ⟨by unfold I64; omega,?_⟩
    conv=>whnf
    exact Ax [] hK hlk (next (by rw [decide_eq_false hne,Bool.false_and])) ⟨⟨E,E,E,E,E,E,E,E,E,E,Y⟩,Y,E,E⟩
   have hxd:x.dev = (j:Int):=by simpa using h
   clear h
   refine rg ?_;conv=>whnf
   refine ⟨E,by omega,hk0,?_⟩
   rw [e2]
   conv=>whnf
   refine ⟨fun h=>?_,fun h=>?_⟩
   ·have hne:¬ x.vni = vni:=by simpa using h
    refine rg ?_;conv=>whnf
    refine ⟨by unfold I64; omega,?_⟩
    conv=>whnf
    exact Ax [] hK hlk (next (by rw [decide_eq_false hne,Bool.and_false])) ⟨⟨E,E,E,E,E,E,E,E,E,E,Y⟩,Y,E,E⟩
   have hxv:x.vni = vni:=by simpa using h
   clear h
   have hdom:C7 (fun d:Domain=>decide (d.dev = (j:Int)) && decide (d.vni = vni)) n.domains = (k:Int):=Ct hlk hK (by rw [hx,decide_eq_true hxd,decide_eq_true hxv]; rfl)
   rw [hdom,if_neg (by omega),e3] at hres
   unfold Aq at hpe
   refine rg ?_;conv=>whnf
   refine A2 x.peers.length (fun m=>∀ i (h:i < x.peers.length),i < m → decide (Ei n x.peers[i] = (src:Int)) = false) (fun m=>[(1,B0 src),(4,.ref 8 (Ap n) 0),(11,Aa k),(12,Aa m)]) (fun _=>[]) [] (fun i h h2=>by omega) ⟨⟨E,E,E,E,E,E,E,E,Y⟩,Y,E,E⟩ ?_
   intro m hm0 hM
   refine rg ?_;conv=>whnf
   refine ⟨E,by omega,hk0,?_⟩
   rw [e2]
   conv=>whnf
   refine ⟨fun h=>?_,fun h=>?_⟩
   ·have hlm:m < x.peers.length:=by have:=of_decide_eq_true h; omega
    have hm1:((m:Nat):Int).toNat < x.peers.length:=by simpa using hlm
    obtain ⟨z,hz⟩:∃ z,x.peers[m] = z:=⟨_,rfl⟩
    have e4:x.peers[((m:Nat):Int).toNat]'hm1 = z:=hz
    have qv:=Sb n hb z (hpin z (by rw [← hz]; exact List.getElem_mem hlm))
    clear h
    refine rg ?_;conv=>whnf
    refine ⟨E,by omega,hk0,?_⟩
    rw [e2]
    conv=>whnf
    refine ⟨E,by omega,hm1,?_⟩
    rw [e4]
    conv=>whnf
    refine At qv F223 E E E (by kernel_rfl) E ?_
    refine rd (by kernel_rfl) ?_;conv=>whnf
    refine ⟨(by kernel_rfl),?_⟩
    conv=>whnf
    refine ⟨fun h=>?_,fun h=>?_⟩
    ·have hzv:Ei n z = (src:Int):=by simpa using h
     have hidx:C7 (fun k:Int=>decide (Ei n k = (src:Int))) x.peers = (m:Int):=Ct hlm hM (by rw [hz]; exact decide_eq_true hzv)
     have e5:nth x.peers (m:Int) = z:=by rw [Ao hm1]; exact hz
     rw [hidx,if_neg (by omega),e5] at hres
     subst hres
     refine rg ?_;conv=>whnf
     refine ⟨E,by omega,hk0,?_⟩
     rw [e2]
     conv=>whnf
     refine ⟨E,by omega,hm1,?_⟩
     rw [e4]
     conv=>whnf
     exact Ac E (.cons .tmp (.cons .tmp .nil)) E E
    ·have hne:¬ Ei n z = (src:Int):=by simpa using h
     refine rg ?_;conv=>whnf
     refine ⟨by unfold I64; omega,?_⟩
     conv=>whnf
     refine Ax [] hM hlm (fun i hi h2=>?_) ⟨⟨E,E,E,E,E,E,E,E,Y⟩,Y,E,E⟩
     by_cases him:i = m
     ·subst him; rw [hz]; exact decide_eq_false hne
     ·exact hM i hi (by omega)
   ·have hmm:m = x.peers.length:=by have:=of_decide_eq_false h; omega
    subst hmm
    have hidx:C7 (fun k:Int=>decide (Ei n k = (src:Int))) x.peers = -1:=C3 (fun i hi=>hM i hi hi)
    rw [hidx,if_pos (by decide)] at hres
    subst hres
    refine rg ?_;conv=>whnf
    exact Ac E (.cons .tmp (.cons .tmp .nil)) E E
  ·have hkk:k = n.domains.length:=by have:=of_decide_eq_false h; omega
   subst hkk
   have hdom:C7 (fun d:Domain=>decide (d.dev = (j:Int)) && decide (d.vni = vni)) n.domains = -1:=C3 (fun i hi=>hK i hi hi)
   rw [hdom,if_pos (.inr (by decide))] at hres
   subst hres
   refine rg ?_;conv=>whnf
   exact Ac E (.cons .tmp (.cons .tmp .nil)) E E
 ·have hjj:j = n.devices.length:=by have:=of_decide_eq_false h; omega
  subst hjj
  have hdev:C7 (fun d:Device=>decide (d.vtep = (dst:Int))) n.devices = -1:=C3 (fun i hi=>hI i hi hi)
  rw [hdev,if_pos (.inl (by decide))] at hres
  subst hres
  refine rg ?_;conv=>whnf
  exact Ac E (.cons .tmp (.cons .tmp .nil)) E E
theorem Agd (n:Net) (hn:n.Fin) (b:List UInt8) (hb:b.length < 100000) :
  Sy.Spec Tryz.prog 152 [Ap n,.sl 1 Aj b] [] (.tup [Aa (comeT n b).1,Aa (comeT n b).2.1,Bc (comeT n b).2.2.1,Aa (comeT n b).2.2.2]) []:=Ab Γ hm 100 F152 Tryz.ntmps152 rfl fun F hF=>by
 have hres:=comeT.eq_1 n b
 generalize comeT n b = res at *
 have hr:=Dw n hn
 conv=>whnf
 refine Bf 2 8 (Ap n) E E E ?_
 refine rg ?_;conv=>whnf
 refine Ag hr F74 E E E E E ?_
 cases hbn:Ah n
 ·rw [if_pos hbn] at hres
  subst hres
  (refine rg ?_;(conv=>whnf);refine aT ?_;refine rg ?_;conv=>whnf)
  refine Av 6 zF E (.cons (.refl _) (.cons (.refl _) (.cons (.refl _) (.cons .nil .nil)))) ?_
  exact Ac E (.cons .tmp (.cons .tmp (.cons (.cell E E E E) (.cons .tmp .nil)))) E E
 rw [if_neg (by rw [hbn]; decide)] at hres
 have q1:=Abd b hb
 have huo:=Q5 b
 generalize unwrapT b = u at *
 obtain ⟨src,dst,vni,f,e⟩:=u
 dsimp only at hres q1 huo
 have hsrc:=huo.2.2.2.src
 (refine rg ?_;(conv=>whnf);refine aF ?_;refine rg ?_;conv=>whnf)
 refine Ag q1 F224 E E E E E ?_
 refine rg ?_;conv=>whnf
 refine ⟨fun h=>?_,fun h=>?_⟩
 ·rw [if_pos (by simpa using h)] at hres
  subst hres
  refine rg ?_;conv=>whnf
  refine Av 6 zF E (.cons (.refl _) (.cons (.refl _) (.cons (.refl _) (.cons .nil .nil)))) ?_
  exact Ac E (.cons .tmp (.cons .tmp (.cons (.cell E E E E) (.cons .tmp .nil)))) E E
 rw [if_neg (by simpa using h)] at hres
 clear h
 have q2:=Agc n hn hbn src dst vni
 generalize endsT n src dst vni = en at *
 obtain ⟨fr,dom⟩:=en
 dsimp only at hres q2
 refine rg ?_;conv=>whnf
 refine Ag q2 F225 E E E E E ?_
 refine rg ?_;conv=>whnf
 refine ⟨fun h=>?_,fun h=>?_⟩
 ·rw [if_pos (of_decide_eq_true h)] at hres
  subst hres
  refine rg ?_;conv=>whnf
  refine Av 6 zF E (.cons (.refl _) (.cons (.refl _) (.cons (.refl _) (.cons .nil .nil)))) ?_
  exact Ac E (.cons .tmp (.cons .tmp (.cons (.cell E E E E) (.cons .tmp .nil)))) E E
 rw [if_neg (of_decide_eq_false h)] at hres
 clear h
 have qg:=Iw f.src (by omega)
 refine rg ?_;conv=>whnf
 refine Ag qg F77 E E E E E ?_
 cases hg:Du f.src
 rotate_left
 ·rw [if_pos hg] at hres
  subst hres
  (refine rg ?_;(conv=>whnf);refine aT ?_;refine rg ?_;conv=>whnf)
  refine Av 6 zF E (.cons (.refl _) (.cons (.refl _) (.cons (.refl _) (.cons .nil .nil)))) ?_
  exact Ac E (.cons .tmp (.cons .tmp (.cons (.cell E E E E) (.cons .tmp .nil)))) E E
 rw [if_neg (by rw [hg]; decide)] at hres
 subst hres
 (refine rg ?_;(conv=>whnf);refine aF ?_;refine rg ?_;conv=>whnf)
 refine ⟨(by kernel_rfl),?_⟩
 conv=>whnf
 exact Ac E (.cons .tmp (.cons .tmp (.cons (.cell E E E E) (.cons .tmp .nil)))) E E
end Go.Sy.YtmelpejjondedaaGreat
namespace Go.Sy.YtmelpejjondedaaGreat
open Go.Proofs
set_option maxRecDepth 20000
set_option maxHeartbeats 4000000
theorem Ak7 {x:Int} (h0:0 ≤ x) (h1:x < 4294967297):IntKind.i64.wrap x = x:=by
 rw [IntKind.wrap_i64]; omega
theorem Aj6 (b:Int) (h:0 ≤ b ∧ b ≤ 32):Adj b = ((2 ^ (32 - b).toNat - 1:Nat):Int):=by
 obtain ⟨k,hk,hk2⟩:∃ k:Nat,(32 - b).toNat = k ∧ k ≤ 32:=⟨_,rfl,by omega⟩
 have h1:min (32 - b).toNat IntKind.u32.bits = k:=by show min (32 - b).toNat 32 = k; omega
 have hp:=Nat.pow_le_pow_right (n:=2) (by decide) hk2
 have e32:(2:Nat) ^ 32 = 4294967296:=rfl
 rw [e32] at hp
 have h0:=Nat.one_le_two_pow (n:=k)
 rw [Adj,h1,hk,IntKind.wrap_u32,IntKind.wrap_u32,show (2:Int) ^ k = ((2 ^ k:Nat):Int) by rw [Int.natCast_pow]; rfl]
 generalize 2 ^ k = q at *
 omega
theorem Anz (a b x:Int) (hb:0 ≤ b ∧ b ≤ 32) (ha:0 ≤ a ∧ a < 4294967296) (hx:0 ≤ x ∧ x < 4294967296):Ze a b x = true ↔ I9 a b ≤ x ∧ x ≤ lastI a b:=by
 obtain ⟨a,rfl⟩:=Int.eq_ofNat_of_zero_le ha.1
 obtain ⟨x,rfl⟩:=Int.eq_ofNat_of_zero_le hx.1
 obtain ⟨k,hk,hk2⟩:∃ k:Nat,(32 - b).toNat = k ∧ k ≤ 32:=⟨_,rfl,by omega⟩
 have h0:=Nat.one_le_two_pow (n:=k)
 rw [Ze,Aj6 b hb,hk,masked a x k (by omega) (by omega) hk2,decide_eq_true_iff,Ajz a x (2 ^ k) (by omega),Ma a k b hb hk,Aab a k b hb hk]
 omega
theorem Ano (a b:Int) (ha:0 ≤ a ∧ a < 4294967296):0 ≤ lastI a b ∧ lastI a b < 4294967296:=by
 by_cases hb:0 ≤ b ∧ b ≤ 32
 ·obtain ⟨a,rfl⟩:=Int.eq_ofNat_of_zero_le ha.1
  obtain ⟨k,hk,hk2⟩:∃ k:Nat,(32 - b).toNat = k ∧ k ≤ 32:=⟨_,rfl,by omega⟩
  have h0:=Nat.one_le_two_pow (n:=k)
  rw [Aab a k b hb hk]
  have hd:a - a % 2 ^ k = 2 ^ k * (a / 2 ^ k):=by have:=Nat.div_add_mod a (2 ^ k); omega
  have h32:2 ^ k * 2 ^ (32 - k) = 4294967296:=by
   rw [← Nat.pow_add,show k + (32 - k) = 32 by omega]
  have:a / 2 ^ k < 2 ^ (32 - k):=by rw [Nat.div_lt_iff_lt_mul (by omega),Nat.mul_comm,h32]; omega
  have:2 ^ k * (a / 2 ^ k) + 2 ^ k ≤ 2 ^ k * 2 ^ (32 - k):=by
   rw [← Nat.mul_succ]; exact Nat.mul_le_mul_left _ this
  omega
 ·rw [lastI,if_neg hb]; omega
theorem Ale (a b:Int) (ha:0 ≤ a ∧ a < 4294967296):0 ≤ I9 a b ∧ I9 a b < 4294967296:=by
 by_cases hb:0 ≤ b ∧ b ≤ 32
 ·obtain ⟨a,rfl⟩:=Int.eq_ofNat_of_zero_le ha.1
  rw [Ma a _ b hb rfl]
  omega
 ·rw [I9,if_neg hb]; omega
end Go.Sy.YtmelpejjondedaaGreat
namespace Go.Sy.YtmelpejjondedaaGreat
open Go.Proofs
attribute [local irreducible] Go.Sy.G Go.Sy.DR
set_option maxRecDepth 20000
set_option maxHeartbeats 8000000
theorem Amy (a:Nat) (bits:Int) (ha:a < 4294967296):Sy.Spec Tryz.prog 326 [Lb a bits] [] (B0 (lastI a bits)) []:=Ab Γ hm 100 F326 Tryz.ntmps326 rfl fun F hF=>by
 have hr:=Ky a bits
 have hl:=lastI.eq_1 a bits
 by_cases hb:0 ≤ bits ∧ bits ≤ 32
 ·have hf:=Z0 a bits ha
  have hs:=Adl a bits hb
  have hle:=Ale a bits ⟨by omega,by omega⟩
  have hll:=Ano a bits ⟨by omega,by omega⟩
  rw [decide_eq_true hb] at hr
  rw [if_pos hb] at hl
  obtain ⟨k,hk,hk2⟩:∃ k:Nat,(32 - bits).toNat = k ∧ k ≤ 32:=⟨_,rfl,by omega⟩
  have h1:=Nat.one_le_two_pow (n:=k)
  have hp:2 ^ k ≤ 2 ^ 32:=Nat.pow_le_pow_right (by decide) hk2
  have e32:(2:Nat) ^ 32 = 4294967296:=rfl
  rw [e32] at hp
  rw [hk] at hs hl
  rw [show (2:Int) ^ k = ((2 ^ k:Nat):Int) by rw [Int.natCast_pow]; rfl] at hl
  generalize 2 ^ k = q at *
  generalize I9 a bits = f at *
  generalize lastI a bits = l at *
  conv=>whnf
  refine Bf 1 2 (Lb a bits) E E E ?_
  refine rg ?_;conv=>whnf
  refine Ag hr F324 E E E E E ?_
  (refine rg ?_;(conv=>whnf);refine aF ?_;refine rg ?_;conv=>whnf)
  refine At hf F325 E E E (by kernel_rfl) E ?_
  refine rd (by kernel_rfl) ?_;conv=>whnf
  refine At hs F341 E E E (by kernel_rfl) E ?_
  refine rd (by kernel_rfl) ?_;conv=>whnf
  rw [Ak7 hle.1 (by omega)]
  refine ⟨by unfold I64; omega,?_⟩
  conv=>whnf
  refine ⟨by unfold I64; omega,?_⟩
  conv=>whnf
  refine ⟨(by kernel_rfl),?_⟩
  conv=>whnf
  refine Ac E (.cons .tmp .nil) (congrArg (fun z=>SV.val (.int .u32 z)) ?_) E
  rw [IntKind.wrap_u32]
  omega
 ·rw [if_neg hb] at hl
  rw [hl]
  rw [decide_eq_false hb] at hr
  conv=>whnf
  refine Bf 1 2 (Lb a bits) E E E ?_
  refine rg ?_;conv=>whnf
  refine Ag hr F324 E E E E E ?_
  (refine rg ?_;(conv=>whnf);refine aT ?_;refine rg ?_;conv=>whnf)
  exact Ac E (.cons .tmp .nil) E E
theorem Aph (a b x:Int) (hb:0 ≤ b ∧ b ≤ 32) (ha:0 ≤ a ∧ a < 4294967296) (hx:0 ≤ x ∧ x < 4294967296):Sy.Spec Tryz.prog 270 [Ady a b,B0 x] [] (Ad (Ze a b x)) []:=Ab Γ hm 100 F270 Tryz.ntmps270 rfl fun F hF=>by
 have hi:=Anz a b x hb ha hx
 generalize Ze a b x = r at *
 obtain ⟨y,hy⟩:=Int.eq_ofNat_of_zero_le ha.1
 have hr:=Ky a b
 have hf:=Z0 y b (by omega)
 have hl:=Amy y b (by omega)
 rw [decide_eq_true hb] at hr
 rw [← hy] at hf hl
 generalize I9 a b = f at *
 generalize lastI a b = l at *
 conv=>whnf
 refine Bf 2 2 (Ady a b) E E E ?_
 refine rg ?_;conv=>whnf
 refine Ag hr F324 E E E E E ?_
 (refine rg ?_;(conv=>whnf);refine aT ?_;refine rg ?_;conv=>whnf)
 refine Ag hf F325 E E E E E ?_
 refine rg ?_;conv=>whnf
 refine ⟨fun h=>?_,fun h=>?_⟩
 ·have h1:f ≤ x:=of_decide_eq_true h
  refine rg ?_;conv=>whnf
  refine Ag hl F326 E E E E E ?_
  refine rg ?_;conv=>whnf
  refine Ac E (.cons .tmp .nil) (congrArg Ad ?_) E
  cases r
  ·refine (decide_eq_false (fun h2=>?_)).symm
   simpa using hi.2 ⟨h1,h2⟩
  ·exact (decide_eq_true (hi.1 E).2).symm
 ·have h1:¬ f ≤ x:=of_decide_eq_false h
  refine rg ?_;conv=>whnf
  refine Ac E (.cons .tmp .nil) (congrArg Ad ?_) E
  cases r
  ·rfl
  ·exact absurd (hi.1 E).1 h1
theorem Akc (n:Net) (hn:n.Fin) (i k:Int) (hi:0 ≤ i ∧ i.toNat < n.vrfs.length) (hk:0 ≤ k ∧ k.toNat < n.vrfs.length) :
  Sy.Spec Tryz.prog 271 [Ap n,Aa i,Aa k] [] (Ad (leaksB n i k)) []:=Ab Γ hm 100 F271 Tryz.ntmps271 rfl fun F hF=>by
 have hp1:=A9 i n.vrfs.length
 have hp2:=A9 k n.vrfs.length
 rw [Dy ⟨hi.1,by omega⟩] at hp1
 rw [Dy ⟨hk.1,by omega⟩] at hp2
 have him:=hn.imports _ (List.getElem_mem hk.2)
 have hex:=hn.exports _ (List.getElem_mem hi.2)
 unfold Aq at hex
 have hlk:=leaksB.eq_1 n i k
 rw [Ao hi.2,Ao hk.2,Yc] at hlk
 generalize leaksB n i k = res at *
 conv=>whnf
 refine Bf 3 8 (Ap n) E E E ?_
 refine rg ?_;conv=>whnf
 refine Ag hp1 F35 E E E E E ?_
 (refine rg ?_;(conv=>whnf);refine aF ?_;refine rg ?_;conv=>whnf)
 refine Ag hp2 F35 E E E E E ?_
 (refine rg ?_;(conv=>whnf);refine aF ?_;refine rg ?_;conv=>whnf)
 refine ⟨fun h=>?_,fun h=>?_⟩
 ·rw [h,Bool.true_or] at hlk
  subst hlk
  refine rg ?_;conv=>whnf
  exact Ac E (.cons .tmp .nil) E E
 rw [h,Bool.false_or] at hlk
 refine rg ?_;conv=>whnf
 refine A2 (n.vrfs[i.toNat]'hi.2).exports.length (fun j=>∀ q (hq:q < (n.vrfs[i.toNat]'hi.2).exports.length),q < j → ((n.vrfs[i.toNat]'hi.2).dev == (n.vrfs[k.toNat]'hk.2).dev && inB (n.vrfs[k.toNat]'hk.2).imports (n.vrfs[i.toNat]'hi.2).exports[q]) = false) (fun j=>[(1,Aa i),(2,Aa k),(3,.ref 8 (Ap n) 0),(7,Aa j)]) (fun _=>[]) [] (fun q _ h=>absurd h (by omega)) ⟨⟨E,E,E,E,E,E,E,E,Y⟩,Y,E,E⟩ ?_
 intro j hj hI
 refine rg ?_;conv=>whnf
 refine ⟨E,hi.1,hi.2,?_⟩
 conv=>whnf
 refine ⟨fun h=>?_,fun h=>?_⟩
 ·have hlt:j < (n.vrfs[i.toNat]'hi.2).exports.length:=by simpa using h
  have hj0:((j:Nat):Int).toNat < (n.vrfs[i.toNat]'hi.2).exports.length:=by simpa using hlt
  have hin:=El (n.vrfs[k.toNat]'hk.2).imports ((n.vrfs[i.toNat]'hi.2).exports[((j:Nat):Int).toNat]'hj0) him
  have hnx:((n.vrfs[i.toNat]'hi.2).dev == (n.vrfs[k.toNat]'hk.2).dev && inB (n.vrfs[k.toNat]'hk.2).imports ((n.vrfs[i.toNat]'hi.2).exports[((j:Nat):Int).toNat]'hj0)) = false → ∀ q (hq:q < (n.vrfs[i.toNat]'hi.2).exports.length),q < j + 1 → ((n.vrfs[i.toNat]'hi.2).dev == (n.vrfs[k.toNat]'hk.2).dev && inB (n.vrfs[k.toNat]'hk.2).imports (n.vrfs[i.toNat]'hi.2).exports[q]) = false:=fun hz q hq hqj=>by
   rcases Nat.lt_or_ge q j with h1 | h1
   ·exact hI q hq h1
   ·have:q = j:=by omega
    subst this; exact hz
  refine rg ?_;conv=>whnf
  refine ⟨E,hi.1,hi.2,?_⟩
  conv=>whnf
  refine ⟨E,hk.1,hk.2,?_⟩
  conv=>whnf
  refine ⟨fun h=>?_,fun h=>?_⟩
  ·have hdv:=h
   rw [h,Bool.true_and] at hlk
   refine rd (by kernel_rfl) ?_;conv=>whnf
   refine ⟨E,hk.1,hk.2,?_⟩
   conv=>whnf
   refine ⟨E,hi.1,hi.2,?_⟩
   conv=>whnf
   refine ⟨E,by omega,hj0,?_⟩
   conv=>whnf
   refine At hin F142 E E E (by kernel_rfl) E ?_
   refine rd (by kernel_rfl) ?_;conv=>whnf
   refine ⟨(by kernel_rfl),?_⟩
   conv=>whnf
   refine ⟨fun h=>?_,fun h=>?_⟩
   ·have e:(n.vrfs[i.toNat]'hi.2).exports.any (inB (n.vrfs[k.toNat]'hk.2).imports) = true:=List.any_eq_true.2 ⟨_,List.getElem_mem hlt,h⟩
    rw [e] at hlk
    subst hlk
    refine rg ?_;conv=>whnf
    exact Ac E (.cons .tmp .nil) E E
   ·refine rg ?_;conv=>whnf
    refine ⟨by unfold I64; omega,?_⟩
    conv=>whnf
    exact Ax [] hI (by omega) (hnx (by rw [hdv,h]; rfl)) ⟨⟨E,E,E,E,E,E,E,E,Y⟩,Y,E,E⟩
  ·have hdv:=h
   rw [h,Bool.false_and] at hlk
   refine rd (by kernel_rfl) ?_;conv=>whnf
   refine ⟨(by kernel_rfl),?_⟩
   ((conv=>whnf);refine aF ?_;refine rg ?_;conv=>whnf)
   refine ⟨by unfold I64; omega,?_⟩
   conv=>whnf
   exact Ax [] hI (by omega) (hnx (by rw [hdv]; rfl)) ⟨⟨E,E,E,E,E,E,E,E,Y⟩,Y,E,E⟩
 ·have:j = (n.vrfs[i.toNat]'hi.2).exports.length:=by have:=of_decide_eq_false h; omega
  subst this
  have e:((n.vrfs[i.toNat]'hi.2).dev == (n.vrfs[k.toNat]'hk.2).dev && (n.vrfs[i.toNat]'hi.2).exports.any (inB (n.vrfs[k.toNat]'hk.2).imports)) = false:=by
   cases hd:(n.vrfs[i.toNat]'hi.2).dev == (n.vrfs[k.toNat]'hk.2).dev
   ·rfl
   ·rw [Bool.true_and,List.any_eq_false]
    intro x hx
    obtain ⟨q,hq,rfl⟩:=List.getElem_of_mem hx
    have:=hI q hq hq
    rw [hd,Bool.true_and] at this
    simp [this]
  rw [e] at hlk
  subst hlk
  refine rg ?_;conv=>whnf
  exact Ac E (.cons .tmp .nil) E E
theorem Xg (n:Net) (hb:Ah n = true) (i:Int) (hi:InIrbs n i):Sy.Spec Tryz.prog 269 [Ap n,Aa i] [] (Aa (Dt n i)) []:=Ab Γ hm 100 F269 Tryz.ntmps269 rfl fun F hF=>by
 have hf:=(C2 hb hi.2).1
 rw [Dt,Ao hi.2,Ao hf.2]
 obtain ⟨x,hx⟩:∃ x,n.irbs[i.toNat]'hi.2 = x:=⟨_,rfl⟩
 have hf2:(0 ≤ x.domain ∧ x.domain.toNat < n.domains.length):=by rw [← hx]; exact hf
 have e:n.domains[(n.irbs[i.toNat]'hi.2).domain.toNat]'hf.2 = n.domains[x.domain.toNat]'hf2.2:=by simp only [hx]
 rw [e]
 obtain ⟨d,hd⟩:∃ d,n.domains[x.domain.toNat]'hf2.2 = d:=⟨_,rfl⟩
 rw [hd]
 conv=>whnf
 refine ⟨E,hi.1,hi.2,?_⟩
 rw [hx]
 conv=>whnf
 refine ⟨E,hf2.1,hf2.2,?_⟩
 rw [hd]
 conv=>whnf
 refine ⟨(by kernel_rfl),?_⟩
 conv=>whnf
 exact Ac E (.cons .tmp .nil) E E
theorem Af4 (n:Net) (irb a b:Int) (hk:InIrbs n irb) (ha:InIrbs n a) (hb:InIrbs n b) :
  Sy.Spec Tryz.prog 272 [Ap n,Aa irb,Aa a,Aa b] [] (Ad (decide (0 < cmpR n irb a b))) []:=Ab Γ hm 100 F272 Tryz.ntmps272 rfl fun F hF=>by
 have hc:=cmpR.eq_1 n irb a b
 unfold Y8 at hc
 rw [Ao hk.2,Ao ha.2,Ao hb.2] at hc
 generalize cmpR n irb a b = r at *
 conv=>whnf
 refine ⟨E,ha.1,ha.2,?_⟩
 conv=>whnf
 refine ⟨E,hb.1,hb.2,?_⟩
 conv=>whnf
 refine ⟨(by kernel_rfl),?_⟩
 conv=>whnf
 refine ⟨fun h=>?_,fun h=>?_⟩
 ·have h1:(n.irbs[a.toNat]'ha.2).bits ≠ (n.irbs[b.toNat]'hb.2).bits:=by simpa using h
  rw [if_pos h1] at hc
  subst hc
  refine rg ?_;conv=>whnf
  refine ⟨E,ha.1,ha.2,?_⟩
  conv=>whnf
  refine ⟨E,hb.1,hb.2,?_⟩
  conv=>whnf
  refine ⟨(by kernel_rfl),?_⟩
  conv=>whnf
  refine Ac E (.cons .tmp .nil) (congrArg Ad ?_) E
  refine decide_eq_decide.2 ?_
  omega
 ·have h1:¬ (n.irbs[a.toNat]'ha.2).bits ≠ (n.irbs[b.toNat]'hb.2).bits:=by simpa using h
  rw [if_neg h1] at hc
  refine rg ?_;conv=>whnf
  refine ⟨E,ha.1,ha.2,?_⟩
  conv=>whnf
  refine ⟨E,hk.1,hk.2,?_⟩
  conv=>whnf
  refine ⟨fun h=>?_,fun h=>?_⟩
  ·have h2:(n.irbs[a.toNat]'ha.2).vrf = (n.irbs[irb.toNat]'hk.2).vrf:=by simpa using h
   rw [if_pos h2] at hc
   refine rd (by kernel_rfl) ?_;conv=>whnf
   refine ⟨E,hb.1,hb.2,?_⟩
   conv=>whnf
   refine ⟨E,hk.1,hk.2,?_⟩
   conv=>whnf
   refine ⟨(by kernel_rfl),?_⟩
   conv=>whnf
   refine Ac E (.cons .tmp .nil) (congrArg Ad ?_) E
   subst hc
   split <;> simp_all
  ·have h2:¬ (n.irbs[a.toNat]'ha.2).vrf = (n.irbs[irb.toNat]'hk.2).vrf:=by simpa using h
   rw [if_neg h2] at hc
   refine rd (by kernel_rfl) ?_;conv=>whnf
   refine ⟨(by kernel_rfl),?_⟩
   conv=>whnf
   refine Ac E (.cons .tmp .nil) (congrArg Ad ?_) E
   subst hc
   split <;> simp_all
def Eq (c:Int → Int → Int) (l:List Int):Int:=if l = [] then -1 else Qk c l (l.length - 1)
theorem Ad5 (c:Int → Int → Int) (l:List Int) (x:Int) (j:Nat) (h:j + 1 ≤ l.length):Qk c (l ++ [x]) j = Qk c l j:=by
 rw [Qk,Qk,List.drop_append_of_le_length (by omega),List.take_append_of_le_length (by simp; omega)]
 congr 1
 cases l with
 | nil=>simp at h
 | cons a l=>rfl
theorem Ah9 (c:Int → Int → Int) (l:List Int) (x:Int) (h:l ≠ []):Eq c (l ++ [x]) = if 0 < c x (Eq c l) then x else Eq c l:=by
 have hl:0 < l.length:=List.length_pos_iff.2 h
 rw [Eq,if_neg (by simp),Eq,if_neg h]
 have e:(l ++ [x]).length - 1 = (l.length - 1) + 1:=by simp; omega
 rw [e,U1 c (l ++ [x]) (l.length - 1) (by simp; omega),Ad5 c l x (l.length - 1) (by omega)]
 have e2:(l ++ [x])[l.length - 1 + 1]'(by simp; omega) = x:=by
  have:l.length - 1 + 1 = l.length:=by omega
  simp [this]
 rw [e2]
theorem Alr (c:Int → Int → Int) (x:Int):Eq c [x] = x:=by
 rw [Eq,if_neg (by simp)]; rfl
theorem Aau (c:Int → Int → Int) (l:List Int) (h:l ≠ []):Eq c l ∈ l:=by
 have hl:0 < l.length:=List.length_pos_iff.2 h
 rw [Eq,if_neg h]
 exact To c l hl _ (by omega)
theorem filtI_in {p:Nat → Bool} {j:Nat} {x:Int} (h:x ∈ Ee p j):0 ≤ x ∧ x < j:=by
 have:=filtI_mem.1 h
 omega
theorem Ag7 {n:Net} {irb dst:Int} (h:∀ i,i < n.irbs.length → Hf n irb dst i = false) :
  lookT n irb dst = if K3 n irb dst = [] then (0,false) else (Eq (cmpR n irb) (K3 n irb dst),true):=by
 have:¬ (List.range n.irbs.length).any (Hf n irb dst) = true:=fun ha=>by
  obtain ⟨i,hi,ht⟩:=List.any_eq_true.1 ha
  rw [h i (List.mem_range.1 hi)] at ht
  cases ht
 rw [lookT,if_neg this]
 split
 ·rfl
 ·rename_i hw
  rw [Eq,if_neg hw]
set_option maxHeartbeats 16000000 in
theorem Af3 (n:Net) (hn:n.Fin) (hb:Ah n = true) (hu:Addrs n) (irb dst:Int) (hk:InIrbs n irb) (hd:0 ≤ dst ∧ dst < 4294967296) :
  Sy.Spec Tryz.prog 216 [Ap n,Aa irb,B0 dst] [] (.tup [Aa (lookT n irb dst).1,Ad (lookT n irb dst).2]) []:=Ab Γ hm 100 F216 Tryz.ntmps216 rfl fun F hF=>by
 have hp:=A9 irb n.irbs.length
 rw [Dy ⟨hk.1,by have:=hk.2; omega⟩] at hp
 have hlk:=Ag7 (n:=n) (irb:=irb) (dst:=dst)
 have hlk0:=lookT.eq_1 n irb dst
 have hwl:K3 n irb dst = Ee (Ke n irb dst) n.irbs.length:=rfl
 generalize lookT n irb dst = res at *
 have hsi:=hn.irbs
 unfold Aq at hsi
 have qk:=Xg n hb irb hk
 have hfk:=(C2 hb hk.2).2.1
 conv=>whnf
 refine Bf 3 8 (Ap n) E E E ?_
 refine rg ?_;conv=>whnf
 refine Ag hp F35 E E E E E ?_
 (refine rg ?_;(conv=>whnf);refine aF ?_;refine rg ?_;conv=>whnf)
 refine A2 n.irbs.length (fun j=>∀ i,i < j → Hf n irb dst i = false) (fun j=>[(1,Aa irb),(2,B0 dst),(3,.ref 8 (Ap n) 0),(8,Aa (Eq (cmpR n irb) (Ee (Ke n irb dst) j))),(9,Aa j)]) (fun _=>[]) [] (fun i hi=>absurd hi (by omega)) ⟨⟨E,E,E,E,E,E,E,E,E,E,Y⟩,Y,E,E⟩ ?_
 intro j hj hI
 refine rg ?_;conv=>whnf
 refine ⟨fun h=>?_,fun h=>?_⟩
 ·have hlt:j < n.irbs.length:=by simpa using h
  have hj0:((j:Nat):Int).toNat < n.irbs.length:=by simpa using hlt
  have hij:InIrbs n (j:Int):=⟨by omega,hj0⟩
  have qj:=Xg n hb j hij
  have hsucc:=Mb (Ke n irb dst) j
  have hta:Hf n irb dst j = (Dt n j == Dt n irb && (nth n.irbs j).addr == dst):=rfl
  have hwa:Ke n irb dst j = (Ze (nth n.irbs j).addr (nth n.irbs j).bits dst && Zw n irb j):=rfl
  have hse:Zw n irb j = (Dt n irb == Dt n j && leaksB n (nth n.irbs j).vrf (nth n.irbs irb).vrf):=rfl
  have enj:nth n.irbs (j:Int) = n.irbs[((j:Nat):Int).toNat]'hj0:=Ao (l:=n.irbs) (i:=(j:Int)) hj0
  rw [enj] at hta hwa hse
  rw [Ao hk.2] at hse
  have hfj:=C2 hb hj0
  have hua:=hu _ (List.getElem_mem hj0)
  have q1:=Aph (n.irbs[((j:Nat):Int).toNat]'hj0).addr (n.irbs[((j:Nat):Int).toNat]'hj0).bits dst hfj.2.2 hua hd
  have q2:=Akc n hn (n.irbs[((j:Nat):Int).toNat]'hj0).vrf (n.irbs[irb.toNat]'hk.2).vrf hfj.2.1 hfk
  have hnx:Hf n irb dst j = false → ∀ i,i < j + 1 → Hf n irb dst i = false:=fun hz i hi=>by
   rcases Nat.lt_or_ge i j with h1 | h1
   ·exact hI i h1
   ·have:i = j:=by omega
    subst this; exact hz
  have hbs:=Ah9 (cmpR n irb) (Ee (Ke n irb dst) j) j
  have hbm:=Aau (cmpR n irb) (Ee (Ke n irb dst) j)
  have hbi:=fun x=>@filtI_in (Ke n irb dst) j x
  have hbo:=Alr (cmpR n irb) j
  have hbn:Eq (cmpR n irb) [] = -1:=rfl
  generalize Ee (Ke n irb dst) j = u at *
  refine rg ?_;conv=>whnf
  refine At qj F269 E E E (by kernel_rfl) E ?_
  refine rd (by kernel_rfl) ?_;conv=>whnf
  refine At qk F269 E E E (by kernel_rfl) E ?_
  refine rd (by kernel_rfl) ?_;conv=>whnf
  refine ⟨(by kernel_rfl),?_⟩
  conv=>whnf
  refine ⟨fun h2=>?_,fun h2=>?_⟩
  ·have h3:Dt n j ≠ Dt n irb:=by simpa using h2
   have e1:Hf n irb dst j = false:=by rw [hta]; simp [h3]
   have e2:Ke n irb dst j = false:=by rw [hwa,hse]; simp [Ne.symm h3]
   rw [if_neg (by rw [e2]; simp)] at hsucc
   refine rg ?_;conv=>whnf
   refine ⟨by unfold I64; omega,?_⟩
   conv=>whnf
   exact Ax [] hI (by omega) (hnx e1) ⟨⟨E,E,E,E,E,E,congrArg (fun z=>Aa (Eq (cmpR n irb) z)) hsucc,E,E,E,Y⟩,Y,E,E⟩
  have h3:Dt n j = Dt n irb:=by simpa using h2
  refine rg ?_;conv=>whnf
  refine ⟨E,hij.1,hj0,?_⟩
  conv=>whnf
  refine ⟨fun h4=>?_,fun h4=>?_⟩
  ·have e1:Hf n irb dst j = true:=by rw [hta,h3,h4]; simp
   rw [if_pos (List.any_eq_true.2 ⟨j,List.mem_range.2 hlt,e1⟩)] at hlk0
   subst hlk0
   refine rg ?_;conv=>whnf
   exact Ac E (.cons .tmp (.cons .tmp .nil)) E E
  have e1:Hf n irb dst j = false:=by rw [hta,h4]; simp
  obtain ⟨hv,hhv⟩:∃ hv,Ze (n.irbs[((j:Nat):Int).toNat]'hj0).addr (n.irbs[((j:Nat):Int).toNat]'hj0).bits dst = hv:=⟨_,rfl⟩
  obtain ⟨lv,hlv⟩:∃ lv,leaksB n (n.irbs[((j:Nat):Int).toNat]'hj0).vrf (n.irbs[irb.toNat]'hk.2).vrf = lv:=⟨_,rfl⟩
  rw [hhv] at q1 hwa
  rw [hlv] at q2 hse
  cases hv
  ·rw [if_neg (by rw [hwa]; simp)] at hsucc
   refine rg ?_;conv=>whnf
   refine ⟨E,hij.1,hj0,?_⟩
   conv=>whnf
   refine At q1 F270 E E E (by kernel_rfl) E ?_
   (refine rd (by kernel_rfl) ?_;(conv=>whnf);refine aT ?_;refine rd (by kernel_rfl) ?_;conv=>whnf)
   refine ⟨(by kernel_rfl),?_⟩
   ((conv=>whnf);refine aT ?_;refine rg ?_;conv=>whnf)
   refine ⟨by unfold I64; omega,?_⟩
   conv=>whnf
   exact Ax [] hI (by omega) (hnx e1) ⟨⟨E,E,E,E,E,E,congrArg (fun z=>Aa (Eq (cmpR n irb) z)) hsucc,E,E,E,Y⟩,Y,E,E⟩
  cases lv
  ·rw [if_neg (by rw [hwa,hse]; simp)] at hsucc
   refine rg ?_;conv=>whnf
   refine ⟨E,hij.1,hj0,?_⟩
   conv=>whnf
   refine At q1 F270 E E E (by kernel_rfl) E ?_
   (refine rd (by kernel_rfl) ?_;(conv=>whnf);refine aF ?_;refine rd (by kernel_rfl) ?_;conv=>whnf)
   refine ⟨E,hij.1,hj0,?_⟩
   conv=>whnf
   refine ⟨E,hk.1,hk.2,?_⟩
   conv=>whnf
   refine At q2 F271 E E E (by kernel_rfl) E ?_
   refine rd (by kernel_rfl) ?_;conv=>whnf
   refine ⟨(by kernel_rfl),?_⟩
   ((conv=>whnf);refine aT ?_;refine rg ?_;conv=>whnf)
   refine ⟨by unfold I64; omega,?_⟩
   conv=>whnf
   exact Ax [] hI (by omega) (hnx e1) ⟨⟨E,E,E,E,E,E,congrArg (fun z=>Aa (Eq (cmpR n irb) z)) hsucc,E,E,E,Y⟩,Y,E,E⟩
  rw [if_pos (by rw [hwa,hse,h3]; simp)] at hsucc
  refine rg ?_;conv=>whnf
  refine ⟨E,hij.1,hj0,?_⟩
  conv=>whnf
  refine At q1 F270 E E E (by kernel_rfl) E ?_
  (refine rd (by kernel_rfl) ?_;(conv=>whnf);refine aF ?_;refine rd (by kernel_rfl) ?_;conv=>whnf)
  refine ⟨E,hij.1,hj0,?_⟩
  conv=>whnf
  refine ⟨E,hk.1,hk.2,?_⟩
  conv=>whnf
  refine At q2 F271 E E E (by kernel_rfl) E ?_
  refine rd (by kernel_rfl) ?_;conv=>whnf
  refine ⟨(by kernel_rfl),?_⟩
  ((conv=>whnf);refine aF ?_;refine rg ?_;conv=>whnf)
  refine ⟨fun h=>?_,fun h=>?_⟩
  ·have hlt0:Eq (cmpR n irb) u < 0:=of_decide_eq_true h
   have hne:u = []:=Classical.byContradiction fun hne=>by have:=hbi _ (hbm hne); omega
   subst hne
   (refine rg ?_;(conv=>whnf);refine aT ?_;refine rg ?_;conv=>whnf)
   refine ⟨by unfold I64; omega,?_⟩
   conv=>whnf
   exact Ax [] hI (by omega) (hnx e1) ⟨⟨E,E,E,E,E,E,congrArg Aa (by rw [hsucc]; exact hbo),E,E,E,Y⟩,Y,E,E⟩
  have hge0:¬ Eq (cmpR n irb) u < 0:=of_decide_eq_false h
  have hne:u ≠ []:=fun e=>by rw [e] at hge0; exact hge0 (by rw [hbn]; omega)
  have hbe:=hbi _ (hbm hne)
  have hbs2:=hbs hne
  rw [← hsucc] at hbs2
  have hbI:InIrbs n (Eq (cmpR n irb) u):=⟨hbe.1,by omega⟩
  have q3:=Af4 n irb j (Eq (cmpR n irb) u) hk hij hbI
  generalize Eq (cmpR n irb) u = b at *
  refine rg ?_;conv=>whnf
  refine Ag q3 F272 E E E E E ?_
  by_cases hc:0 < cmpR n irb j b
  ·rw [if_pos hc] at hbs2
   rw [decide_eq_true hc]
   (refine rg ?_;(conv=>whnf);refine aT ?_;refine rg ?_;conv=>whnf)
   refine ⟨by unfold I64; omega,?_⟩
   conv=>whnf
   exact Ax [] hI (by omega) (hnx e1) ⟨⟨E,E,E,E,E,E,congrArg Aa hbs2,E,E,E,Y⟩,Y,E,E⟩
  ·rw [if_neg hc] at hbs2
   rw [decide_eq_false hc]
   (refine rg ?_;(conv=>whnf);refine aF ?_;refine rg ?_;conv=>whnf)
   refine ⟨by unfold I64; omega,?_⟩
   conv=>whnf
   exact Ax [] hI (by omega) (hnx e1) ⟨⟨E,E,E,E,E,E,congrArg Aa hbs2,E,E,E,Y⟩,Y,E,E⟩
 ·have hje:j = n.irbs.length:=by have:=of_decide_eq_false h; omega
  subst hje
  have hlk2:=hlk (fun i hi=>hI i hi)
  rw [hwl] at hlk2
  have hbm:=Aau (cmpR n irb) (Ee (Ke n irb dst) n.irbs.length)
  have hbi:=fun x=>@filtI_in (Ke n irb dst) n.irbs.length x
  have hbn:Eq (cmpR n irb) [] = -1:=rfl
  generalize Ee (Ke n irb dst) n.irbs.length = u at *
  by_cases hne:u = []
  ·rw [if_pos hne] at hlk2
   subst hlk2 hne
   rw [hbn]
   (refine rg ?_;(conv=>whnf);refine aT ?_;refine rg ?_;conv=>whnf)
   exact Ac E (.cons .tmp (.cons .tmp .nil)) E E
  rw [if_neg hne] at hlk2
  have hbe:=hbi _ (hbm hne)
  generalize Eq (cmpR n irb) u = b at *
  subst hlk2
  refine rg ?_;conv=>whnf
  refine ⟨fun h=>absurd (of_decide_eq_true h) (by omega),fun _=>?_⟩
  refine rg ?_;conv=>whnf
  exact Ac E (.cons .tmp (.cons .tmp .nil)) E E
end Go.Sy.YtmelpejjondedaaGreat
namespace Go.Sy.YtmelpejjondedaaGreat
open Go.Proofs
attribute [local irreducible] Go.Sy.G Go.Sy.DR
set_option maxRecDepth 100000
set_option maxHeartbeats 4000000
theorem Ai8 {n:Net} (hb:Ah n = true) {d:Int} (hd:DomIn n d) (hi:0 ≤ (n.domains[d.toNat]'hd.2).irb) :
  ∃ h:(n.domains[d.toNat]'hd.2).irb.toNat < n.irbs.length,(n.irbs[(n.domains[d.toNat]'hd.2).irb.toNat]'h).domain = d:=by
 simp only [Ah,Bool.and_eq_true] at hb
 have:=allB_iff.1 hb.1.1.1.1.1.1.1.2 _ hd.2
 simp only [Ia,Bool.and_eq_true,Bool.or_eq_true,beq_iff_eq] at this
 have h2:=this.1.2
 rcases h2 with h2 | ⟨h2,h3⟩
 ·omega
 ·have h4:=Bn h2
  have h5:(n.domains[d.toNat]'hd.2).irb.toNat < n.irbs.length:=by omega
  rw [Ao h5] at h3
  have:=hd.1
  exact ⟨h5,by omega⟩
theorem Ap1 {n:Net} (hb:Ah n = true) {i:Nat} (hi:i < n.irbs.length):(nth n.domains (n.irbs[i]'hi).domain).irb = (i:Int):=by
 have:=Aqu hb hi
 simp only [U5,Bool.and_eq_true,beq_iff_eq] at this
 exact this.1.1.2
theorem Acm (n:Net) (hn:n.Fin) (hm0:n.Num) (dom:Int) (m:Nat) :
  Sy.Spec Tryz.prog 173 [Ap n,Aa dom,Ay m] [] (.tup [Aa (routerT n dom m).1,Ad (routerT n dom m).2]) []:=Ab Γ hm 100 F173 Tryz.ntmps173 rfl fun F hF=>by
 have hres:=routerT.eq_1 n dom m
 generalize routerT n dom m = res at *
 have hr:=B4 n hn
 conv=>whnf
 refine ⟨fun h=>?_,fun h=>?_⟩
 ·have hp:Am dom n.domains.length = false:=by
   cases hx:Am dom n.domains.length
   ·rfl
   ·have:=Bn hx; have:=of_decide_eq_true h; omega
  rw [if_pos (.inl hp)] at hres
  subst hres
  (refine rg ?_;(conv=>whnf);refine aT ?_;refine rg ?_;(conv=>whnf);refine aT ?_;refine rg ?_;conv=>whnf)
  exact Ac E (.cons .tmp (.cons .tmp .nil)) E E
 have h0:0 ≤ dom:=by have:=of_decide_eq_false h; omega
 clear h
 refine rg ?_;conv=>whnf
 refine ⟨fun h=>?_,fun h=>?_⟩
 ·have hp:Am dom n.domains.length = false:=by
   cases hx:Am dom n.domains.length
   ·rfl
   ·have:=Bn hx; have:=of_decide_eq_true h; omega
  rw [if_pos (.inl hp)] at hres
  subst hres
  (refine rg ?_;(conv=>whnf);refine aT ?_;refine rg ?_;conv=>whnf)
  exact Ac E (.cons .tmp (.cons .tmp .nil)) E E
 have h1:dom < n.domains.length:=by have:=of_decide_eq_false h; omega
 clear h
 have hpl:Am dom n.domains.length = true:=Dy ⟨h0,h1⟩
 refine rg ?_;conv=>whnf
 refine Ag hr F67 E E E E E ?_
 cases hbn:Ah n
 ·rw [if_pos (.inr hbn)] at hres
  subst hres
  (refine rg ?_;(conv=>whnf);refine aT ?_;refine rg ?_;conv=>whnf)
  exact Ac E (.cons .tmp (.cons .tmp .nil)) E E
 rw [if_neg (by simp [hbn,hpl])] at hres
 have hd:=En hpl
 have e2:nth n.domains dom = n.domains[dom.toNat]'hd.2:=Ao hd.2
 have hir:=Ai8 hbn hd
 obtain ⟨d,hdd⟩:∃ d,n.domains[dom.toNat]'hd.2 = d:=⟨_,rfl⟩
 simp only [hdd] at e2 hir
 rw [e2] at hres
 (refine rg ?_;(conv=>whnf);refine aF ?_;refine rg ?_;conv=>whnf)
 refine ⟨E,hd.1,hd.2,?_⟩
 rw [hdd]
 conv=>whnf
 refine ⟨fun h=>?_,fun h=>?_⟩
 ·rw [if_pos (.inl (of_decide_eq_true h))] at hres
  subst hres
  (refine rg ?_;(conv=>whnf);refine aT ?_;refine rg ?_;conv=>whnf)
  exact Ac E (.cons .tmp (.cons .tmp .nil)) E E
 have hi0:0 ≤ d.irb:=by have:=of_decide_eq_false h; omega
 clear h
 obtain ⟨hi1,hi2⟩:=hir hi0
 have ha:=hm0.addr _ (List.getElem_mem hi1)
 rw [Ao hi1] at hres
 obtain ⟨x,hx⟩:∃ x,n.irbs[d.irb.toNat]'hi1 = x:=⟨_,rfl⟩
 rw [hx] at ha hres
 obtain ⟨a,hae⟩:=Int.eq_ofNat_of_zero_le ha.1
 have qh:=Ael a (by omega)
 rw [← hae] at qh
 refine rg ?_;conv=>whnf
 refine ⟨E,hi0,hi1,?_⟩
 rw [hx]
 conv=>whnf
 refine Ag qh F244 E E E E E ?_
 refine rg ?_;conv=>whnf
 refine ⟨fun h=>?_,fun h=>?_⟩
 ·have hne:Ej x.addr ≠ m:=fun e=>by
   rw [e] at h
   simp at h
  rw [if_pos (.inr hne)] at hres
  subst hres
  refine rg ?_;conv=>whnf
  exact Ac E (.cons .tmp (.cons .tmp .nil)) E E
 ·have heq:Ej x.addr = m:=by
   have:(Ej x.addr:Int) = (m:Int):=by simpa using h
   omega
  rw [if_neg (fun h=>h.elim (by omega) (fun h2=>h2 heq))] at hres
  subst hres
  refine rg ?_;conv=>whnf
  exact Ac E (.cons .tmp (.cons .tmp .nil)) E E
theorem Abb (n:Net) (hn:n.Fin) (hm0:n.Num) (hb:Ah n = true) (dom:Int) (hpl:Am dom n.domains.length = true) (m:Nat) :
  Sy.Spec Tryz.prog 145 [Ap n,Aa dom,Ay m] [] (.tup [Aa (routerT n dom m).1,Ad (routerT n dom m).2]) []:=Ab Γ hm 100 F145 Tryz.ntmps145 rfl fun F hF=>by
 have hres:=routerT.eq_1 n dom m
 generalize routerT n dom m = res at *
 rw [if_neg (by simp [hb,hpl])] at hres
 have hd:=En hpl
 have hir:=Ai8 hb hd
 have e2:nth n.domains dom = n.domains[dom.toNat]'hd.2:=Ao hd.2
 rw [e2] at hres
 have hs:=hn.irbs
 unfold Aq at hs
 conv=>whnf
 refine Bf 3 8 (Ap n) E E E ?_
 refine A2 n.irbs.length (fun j=>∀ i (h:i < n.irbs.length),i < j → ¬ (n.irbs[i].domain = dom ∧ Ej n.irbs[i].addr = m)) (fun j=>[(1,Aa dom),(2,Ay m),(3,.ref 8 (Ap n) 0),(8,Aa j)]) (fun _=>[]) [] (fun i h h2=>by omega) ⟨⟨E,E,E,E,E,E,E,E,Y⟩,Y,E,E⟩ ?_
 intro j hj hI
 refine rg ?_;conv=>whnf
 refine ⟨fun h=>?_,fun h=>?_⟩
 ·have hlt:j < n.irbs.length:=by have:=of_decide_eq_true h; omega
  have hj0:((j:Nat):Int).toNat < n.irbs.length:=by simpa using hlt
  have hid:=Ap1 hb hlt
  have ha:=hm0.addr _ (List.getElem_mem hlt)
  obtain ⟨x,hx⟩:∃ x,n.irbs[j] = x:=⟨_,rfl⟩
  have e1:n.irbs[((j:Nat):Int).toNat]'hj0 = x:=hx
  rw [hx] at hid ha
  obtain ⟨a,hae⟩:=Int.eq_ofNat_of_zero_le ha.1
  have qh:=M0 a (by omega)
  rw [← hae] at qh
  have next:¬ (x.domain = dom ∧ Ej x.addr = m) → ∀ i (h:i < n.irbs.length),i < j + 1 → ¬ (n.irbs[i].domain = dom ∧ Ej n.irbs[i].addr = m):=fun hf i hi h2=>by
   by_cases hij:i = j
   ·subst hij; rw [hx]; exact hf
   ·exact hI i hi (by omega)
  clear h
  refine rg ?_;conv=>whnf
  refine ⟨E,by omega,hj0,?_⟩
  rw [e1]
  conv=>whnf
  refine ⟨fun h=>?_,fun h=>?_⟩
  ·have hxd:x.domain = dom:=by simpa using h
   clear h
   refine rg ?_;conv=>whnf
   refine ⟨E,by omega,hj0,?_⟩
   rw [e1]
   conv=>whnf
   refine Ag qh F213 E E E E E ?_
   refine rg ?_;conv=>whnf
   refine ⟨fun h=>?_,fun h=>?_⟩
   ·have heq:Ej x.addr = m:=by
     have:(Ej x.addr:Int) = (m:Int):=by simpa using h
     omega
    rw [hxd,e2] at hid
    have e3:nth n.irbs (j:Int) = x:=by rw [Ao hj0]; exact hx
    rw [hid,if_neg (fun h=>h.elim (by omega) (fun h2=>h2 (by rw [e3]; exact heq)))] at hres
    subst hres
    refine rg ?_;conv=>whnf
    exact Ac E (.cons .tmp (.cons .tmp .nil)) E E
   ·have hne:¬ Ej x.addr = m:=fun e=>by rw [e] at h; simp at h
    refine rg ?_;conv=>whnf
    refine ⟨by unfold I64; omega,?_⟩
    conv=>whnf
    exact Ax [] hI hlt (next (fun h=>hne h.2)) ⟨⟨E,E,E,E,E,E,E,E,Y⟩,Y,E,E⟩
  ·have hne:¬ x.domain = dom:=by simpa using h
   (refine rg ?_;(conv=>whnf);refine aF ?_;refine rg ?_;conv=>whnf)
   refine ⟨by unfold I64; omega,?_⟩
   conv=>whnf
   exact Ax [] hI hlt (next (fun h=>hne h.1)) ⟨⟨E,E,E,E,E,E,E,E,Y⟩,Y,E,E⟩
 ·have hjj:j = n.irbs.length:=by have:=of_decide_eq_false h; omega
  subst hjj
  have hr0:res = (0,false):=by
   by_cases hi0:(n.domains[dom.toNat]'hd.2).irb < 0
   ·rw [if_pos (.inl hi0)] at hres; exact hres
   ·obtain ⟨hi1,hi2⟩:=hir (by omega)
    rw [Ao hi1] at hres
    have:=hI _ hi1 hi1
    rw [if_pos (.inr (fun e=>this ⟨hi2,e⟩))] at hres
    exact hres
  subst hr0
  refine rg ?_;conv=>whnf
  exact Ac E (.cons .tmp (.cons .tmp .nil)) E E
theorem Qv {n:Net} {i:Int} (h:Am i n.irbs.length = true):InIrbs n i:=by
 have:=Bn h
 exact ⟨this.1,by omega⟩
theorem Ai1 {p:PacketM} (h:PacketOK p):PacketOK (Aem p):=⟨h.tos,h.id,by have:=h.ttl; show p.ttl - 1 ≤ 255; omega,h.proto,h.src,h.dst⟩
theorem Ya (p:PacketM):ipPutT (Aem p) = if 1480 < p.body.length then ([],14) else (Ts (Aem p),0):=rfl
theorem Aj1 (n:Net) (hn:n.Fin) (hm0:n.Num) (irb:Int) (f:FrameM) (hf:FrameOK f) :
  Sy.Spec Tryz.prog 174 [Ap n,Aa irb,Bc f] [] (.tup [Aa (hopT n irb f).1,Bc (hopT n irb f).2.1,Aa (hopT n irb f).2.2]) []:=Ab Γ hm 100 F174 Tryz.ntmps174 rfl fun F hF=>by
 have hres:=hopT.eq_1 n irb f
 generalize hopT n irb f = res at *
 have hr:=B4 n hn
 have hb:=hf.body
 conv=>whnf
 refine ⟨fun h=>?_,fun h=>?_⟩
 ·have hp:Am irb n.irbs.length = false:=by
   cases hx:Am irb n.irbs.length
   ·rfl
   ·have:=Bn hx; have:=of_decide_eq_true h; omega
  rw [if_pos (.inl hp)] at hres
  subst hres
  (refine rg ?_;(conv=>whnf);refine aT ?_;refine rg ?_;(conv=>whnf);refine aT ?_;refine rg ?_;conv=>whnf)
  refine Av 7 zF E (.cons (.refl _) (.cons (.refl _) (.cons (.refl _) (.cons .nil .nil)))) ?_
  exact Ac E (.cons .tmp (.cons (.cell E E E E) (.cons .tmp .nil))) E E
 have h0:0 ≤ irb:=by have:=of_decide_eq_false h; omega
 clear h
 refine rg ?_;conv=>whnf
 refine ⟨fun h=>?_,fun h=>?_⟩
 ·have hp:Am irb n.irbs.length = false:=by
   cases hx:Am irb n.irbs.length
   ·rfl
   ·have:=Bn hx; have:=of_decide_eq_true h; omega
  rw [if_pos (.inl hp)] at hres
  subst hres
  (refine rg ?_;(conv=>whnf);refine aT ?_;refine rg ?_;conv=>whnf)
  refine Av 7 zF E (.cons (.refl _) (.cons (.refl _) (.cons (.refl _) (.cons .nil .nil)))) ?_
  exact Ac E (.cons .tmp (.cons (.cell E E E E) (.cons .tmp .nil))) E E
 have h1:irb < n.irbs.length:=by have:=of_decide_eq_false h; omega
 clear h
 have hpl:Am irb n.irbs.length = true:=Dy ⟨h0,h1⟩
 refine rg ?_;conv=>whnf
 refine Ag hr F67 E E E E E ?_
 cases hbn:Ah n
 ·rw [if_pos (.inr hbn)] at hres
  subst hres
  (refine rg ?_;(conv=>whnf);refine aT ?_;refine rg ?_;conv=>whnf)
  refine Av 7 zF E (.cons (.refl _) (.cons (.refl _) (.cons (.refl _) (.cons .nil .nil)))) ?_
  exact Ac E (.cons .tmp (.cons (.cell E E E E) (.cons .tmp .nil))) E E
 rw [if_neg (by simp [hbn,hpl])] at hres
 refine Bf 3 8 (Ap n) E E E ?_
 refine Bf 5 4 (Bc f) E E E ?_
 (refine rg ?_;(conv=>whnf);refine aF ?_;refine rg ?_;conv=>whnf)
 refine ⟨fun h=>?_,fun h=>?_⟩
 ·rw [if_pos (by have:¬ (f.typ:Int) = 2048:=(by simpa using h); omega)] at hres
  subst hres
  refine rg ?_;conv=>whnf
  refine Av 7 zF E (.cons (.refl _) (.cons (.refl _) (.cons (.refl _) (.cons .nil .nil)))) ?_
  exact Ac E (.cons .tmp (.cons (.cell E E E E) (.cons .tmp .nil))) E E
 rw [if_neg (by have:(f.typ:Int) = 2048:=(by simpa using h); omega)] at hres
 clear h
 have q1:=Aiy f.body (by omega)
 have hok:=@X9 f.body
 generalize ipTakeT f.body = tk at *
 obtain ⟨p,e⟩:=tk
 dsimp only at hres q1 hok
 refine rg ?_;conv=>whnf
 refine Ag q1 F245 E E E E E ?_
 refine rg ?_;conv=>whnf
 by_cases he:e = 0
 rotate_left
 ·rw [if_pos he] at hres
  subst hres
  refine ⟨fun h=>absurd (show e = 0 by simpa using h) he,fun _=>?_⟩
  refine rg ?_;conv=>whnf
  refine ⟨fun _=>?_,fun h=>absurd (show e = 0 by simpa using h) he⟩
  refine rg ?_;conv=>whnf
  refine Av 7 zF E (.cons (.refl _) (.cons (.refl _) (.cons (.refl _) (.cons .nil .nil)))) ?_
  exact Ac E (.cons .tmp (.cons (.cell E E E E) (.cons .tmp .nil))) E E
 subst he
 rw [if_neg (by simp)] at hres
 obtain ⟨hpo,hpb⟩:=hok rfl
 have hpt:=hpo.ttl
 have hpd:=hpo.dst
 have q2:=ipHopS p (by omega) hpt
 (refine ⟨fun _=>?_,fun h=>False.elim (absurd h (by decide))⟩;refine rg ?_;conv=>whnf)
 by_cases ht:p.ttl ≤ 1
 ·rw [if_pos ht] at hres
  subst hres
  rw [hop1,if_pos ht] at q2
  refine Ag q2 F246 E E E E E ?_
  (refine rg ?_;(conv=>whnf);refine aT ?_;refine rg ?_;conv=>whnf)
  refine Av 7 zF E (.cons (.refl _) (.cons (.refl _) (.cons (.refl _) (.cons .nil .nil)))) ?_
  exact Ac E (.cons .tmp (.cons (.cell E E E E) (.cons .tmp .nil))) E E
 rw [if_neg ht] at hres
 rw [hop1,if_neg ht] at q2
 refine Ag q2 F246 E E E E E ?_
 have q3:=Apy n hn hbn irb p.dst (Qv hpl)
 have hth:=fun h=>@Aea n irb p.dst h
 generalize lookT n irb p.dst = lk at *
 obtain ⟨to,ok⟩:=lk
 dsimp only at hres q3 hth
 (refine rg ?_;(conv=>whnf);refine aF ?_;refine rg ?_;conv=>whnf)
 refine Ag q3 F247 E E E E E ?_
 cases ok
 ·rw [if_pos rfl] at hres
  subst hres
  (refine rg ?_;(conv=>whnf);refine aT ?_;refine rg ?_;conv=>whnf)
  refine Av 7 zF E (.cons (.refl _) (.cons (.refl _) (.cons (.refl _) (.cons .nil .nil)))) ?_
  exact Ac E (.cons .tmp (.cons (.cell E E E E) (.cons .tmp .nil))) E E
 rw [if_neg (by decide)] at hres
 have hto:=hth rfl
 have hpp:=Ya p
 have q4:=Aiz (Aem p) (Ai1 hpo) (by show p.body.length < 100000; omega)
 rw [hpp] at q4
 clear hpp
 by_cases hl:1480 < p.body.length
 ·rw [if_pos hl] at hres q4
  subst hres
  (refine rg ?_;(conv=>whnf);refine aF ?_;refine rg ?_;conv=>whnf)
  refine Ag q4 F248 E E E E E ?_
  (refine rg ?_;(conv=>whnf);refine aT ?_;refine rg ?_;conv=>whnf)
  refine Av 7 zF E (.cons (.refl _) (.cons (.refl _) (.cons (.refl _) (.cons .nil .nil)))) ?_
  exact Ac E (.cons .tmp (.cons (.cell E E E E) (.cons .tmp .nil))) E E
 rw [if_neg hl] at hres q4
 have ha:=hm0.addr _ (List.getElem_mem hto.2)
 rw [Ao hto.2] at hres
 obtain ⟨x,hx⟩:∃ x,n.irbs[to.toNat]'hto.2 = x:=⟨_,rfl⟩
 rw [hx] at ha hres
 obtain ⟨a,hae⟩:=Int.eq_ofNat_of_zero_le ha.1
 have qh:=Ael a (by omega)
 rw [← hae] at qh
 have qd:=Ael p.dst hpd
 subst hres
 (refine rg ?_;(conv=>whnf);refine aF ?_;refine rg ?_;conv=>whnf)
 refine Ag q4 F248 E E E E E ?_
 (refine rg ?_;(conv=>whnf);refine aF ?_;refine rg ?_;conv=>whnf)
 refine ⟨E,hto.1,hto.2,?_⟩
 rw [hx]
 conv=>whnf
 refine At qd F244 E E E (by kernel_rfl) E ?_
 refine rd (by kernel_rfl) ?_;conv=>whnf
 refine ⟨E,hto.1,hto.2,?_⟩
 rw [hx]
 conv=>whnf
 refine At qh F244 E E E (by kernel_rfl) E ?_
 refine rd (by kernel_rfl) ?_;conv=>whnf
 refine ⟨(by kernel_rfl),?_⟩
 conv=>whnf
 exact Ac E (.cons .tmp (.cons (.cell E E E E) (.cons .tmp .nil))) E E
theorem Akf (n:Net) (hn:n.Fin) (hm0:n.Num) (irb:Int) (f:FrameM) (hf:FrameOK f) :
  Sy.Spec Tryz.prog 146 [Ap n,Aa irb,Bc f] [] (.tup [Aa (hopT n irb f).1,Bc (hopT n irb f).2.1,Aa (hopT n irb f).2.2]) []:=Ab Γ hm 100 F146 Tryz.ntmps146 rfl fun F hF=>by
 have hres:=hopT.eq_1 n irb f
 generalize hopT n irb f = res at *
 have hr:=Dw n hn
 have hpS:=A9 irb n.irbs.length
 have hb:=hf.body
 conv=>whnf
 refine Bf 3 8 (Ap n) E E E ?_
 refine Bf 5 4 (Bc f) E E E ?_
 refine rg ?_;conv=>whnf
 refine Ag hr F74 E E E E E ?_
 cases hbn:Ah n
 ·rw [if_pos (.inr hbn)] at hres
  subst hres
  (refine rg ?_;(conv=>whnf);refine aT ?_;refine rg ?_;(conv=>whnf);refine aT ?_;refine rg ?_;conv=>whnf)
  refine Av 7 zF E (.cons (.refl _) (.cons (.refl _) (.cons (.refl _) (.cons .nil .nil)))) ?_
  exact Ac E (.cons .tmp (.cons (.cell E E E E) (.cons .tmp .nil))) E E
 (refine rg ?_;(conv=>whnf);refine aF ?_;refine rg ?_;conv=>whnf)
 refine Ag hpS F35 E E E E E ?_
 cases hpl:Am irb n.irbs.length
 ·rw [if_pos (.inl hpl)] at hres
  subst hres
  (refine rg ?_;(conv=>whnf);refine aT ?_;refine rg ?_;conv=>whnf)
  refine Av 7 zF E (.cons (.refl _) (.cons (.refl _) (.cons (.refl _) (.cons .nil .nil)))) ?_
  exact Ac E (.cons .tmp (.cons (.cell E E E E) (.cons .tmp .nil))) E E
 rw [if_neg (by simp [hbn,hpl])] at hres
 (refine rg ?_;(conv=>whnf);refine aF ?_;refine rg ?_;conv=>whnf)
 refine ⟨fun h=>?_,fun h=>?_⟩
 ·rw [if_pos (by have:¬ (f.typ:Int) = 2048:=(by simpa using h); omega)] at hres
  subst hres
  refine rg ?_;conv=>whnf
  refine Av 7 zF E (.cons (.refl _) (.cons (.refl _) (.cons (.refl _) (.cons .nil .nil)))) ?_
  exact Ac E (.cons .tmp (.cons (.cell E E E E) (.cons .tmp .nil))) E E
 rw [if_neg (by have:(f.typ:Int) = 2048:=(by simpa using h); omega)] at hres
 clear h
 have q1:=Xk f.body (by omega)
 have hok:=@X9 f.body
 generalize ipTakeT f.body = tk at *
 obtain ⟨p,e⟩:=tk
 dsimp only at hres q1 hok
 refine rg ?_;conv=>whnf
 refine Ag q1 F214 E E E E E ?_
 refine rg ?_;conv=>whnf
 by_cases he:e = 0
 rotate_left
 ·rw [if_pos he] at hres
  subst hres
  refine ⟨fun _=>?_,fun h=>absurd (show e = 0 by simpa using h) he⟩
  refine rg ?_;conv=>whnf
  refine Av 7 zF E (.cons (.refl _) (.cons (.refl _) (.cons (.refl _) (.cons .nil .nil)))) ?_
  exact Ac E (.cons .tmp (.cons (.cell E E E E) (.cons .tmp .nil))) E E
 subst he
 rw [if_neg (by simp)] at hres
 obtain ⟨hpo,hpb⟩:=hok rfl
 have hpt:=hpo.ttl
 have hpd:=hpo.dst
 have q2:=Akj p (by omega) hpt
 (refine ⟨fun h=>False.elim (absurd h (by decide)),fun _=>?_⟩;refine rg ?_;conv=>whnf)
 by_cases ht:p.ttl ≤ 1
 ·rw [if_pos ht] at hres
  subst hres
  rw [hop1,if_pos ht] at q2
  refine Ag q2 F215 E E E E E ?_
  (refine rg ?_;(conv=>whnf);refine aT ?_;refine rg ?_;conv=>whnf)
  refine Av 7 zF E (.cons (.refl _) (.cons (.refl _) (.cons (.refl _) (.cons .nil .nil)))) ?_
  exact Ac E (.cons .tmp (.cons (.cell E E E E) (.cons .tmp .nil))) E E
 rw [if_neg ht] at hres
 rw [hop1,if_neg ht] at q2
 refine Ag q2 F215 E E E E E ?_
 have q3:=Af3 n hn hbn hm0.addr irb p.dst (Qv hpl) (by omega)
 have hth:=fun h=>@Aea n irb p.dst h
 generalize lookT n irb p.dst = lk at *
 obtain ⟨to,ok⟩:=lk
 dsimp only at hres q3 hth
 (refine rg ?_;(conv=>whnf);refine aF ?_;refine rg ?_;conv=>whnf)
 refine Ag q3 F216 E E E E E ?_
 cases ok
 ·rw [if_pos rfl] at hres
  subst hres
  (refine rg ?_;(conv=>whnf);refine aT ?_;refine rg ?_;conv=>whnf)
  refine Av 7 zF E (.cons (.refl _) (.cons (.refl _) (.cons (.refl _) (.cons .nil .nil)))) ?_
  exact Ac E (.cons .tmp (.cons (.cell E E E E) (.cons .tmp .nil))) E E
 rw [if_neg (by decide)] at hres
 have hto:=hth rfl
 have hpp:=Ya p
 have q4:=Z2 (Aem p) (Ai1 hpo) (by show p.body.length < 100000; omega)
 rw [hpp] at q4
 clear hpp
 by_cases hl:1480 < p.body.length
 ·rw [if_pos hl] at hres q4
  subst hres
  (refine rg ?_;(conv=>whnf);refine aF ?_;refine rg ?_;conv=>whnf)
  refine Ag q4 F217 E E E E E ?_
  (refine rg ?_;(conv=>whnf);refine aT ?_;refine rg ?_;conv=>whnf)
  refine Av 7 zF E (.cons (.refl _) (.cons (.refl _) (.cons (.refl _) (.cons .nil .nil)))) ?_
  exact Ac E (.cons .tmp (.cons (.cell E E E E) (.cons .tmp .nil))) E E
 rw [if_neg hl] at hres q4
 have ha:=hm0.addr _ (List.getElem_mem hto.2)
 rw [Ao hto.2] at hres
 obtain ⟨x,hx⟩:∃ x,n.irbs[to.toNat]'hto.2 = x:=⟨_,rfl⟩
 rw [hx] at ha hres
 obtain ⟨a,hae⟩:=Int.eq_ofNat_of_zero_le ha.1
 have qh:=M0 a (by omega)
 rw [← hae] at qh
 have qd:=M0 p.dst hpd
 subst hres
 (refine rg ?_;(conv=>whnf);refine aF ?_;refine rg ?_;conv=>whnf)
 refine Ag q4 F217 E E E E E ?_
 (refine rg ?_;(conv=>whnf);refine aF ?_;refine rg ?_;conv=>whnf)
 refine ⟨E,hto.1,hto.2,?_⟩
 rw [hx]
 conv=>whnf
 refine At qd F213 E E E (by kernel_rfl) E ?_
 refine rd (by kernel_rfl) ?_;conv=>whnf
 refine At qh F213 E E E (by kernel_rfl) E ?_
 refine rd (by kernel_rfl) ?_;conv=>whnf
 refine ⟨(by kernel_rfl),?_⟩
 conv=>whnf
 exact Ac E (.cons .tmp (.cons (.cell E E E E) (.cons .tmp .nil))) E E
theorem Ahv (f:FrameM) (hb:f.body.length < 100000):Sy.Spec Tryz.prog 261 [Bc f] [] (Bc f) []:=Ab Γ hm 100 F261 Tryz.ntmps261 rfl fun F hF=>by
 conv=>whnf
 refine Ai (Bw Γ.toTy (d:=7) (n:=f.body.length) Aj 0 E E E E E E E E (by omega) (by omega) E E E) E E ?_
 refine rg ?_;conv=>whnf
 refine Ai (U8 Γ.toTy (l:=List.replicate f.body.length 0) (m:=f.body) E E E E E .sl) E E ?_
 refine rg ?_;conv=>whnf
 refine As 7 E ?_
 refine rg ?_;conv=>whnf
 refine Ac E (.cons (.cell E E E E) .nil) ?_ E
 show SV.agg [_,_,_,.sl 1 Aj f.body] = SV.agg [_,_,_,.sl 1 Aj (f.body.take (List.replicate f.body.length (0:UInt8)).length ++ (List.replicate f.body.length (0:UInt8)).drop f.body.length)]
 have e:f.body.take (List.replicate f.body.length (0:UInt8)).length ++ (List.replicate f.body.length (0:UInt8)).drop f.body.length = f.body:=by
  rw [List.length_replicate,List.take_length,List.drop_eq_nil_of_le (by simp),List.append_nil]
 rw [e]
 rfl
theorem Acc (q:QueuedM) (hb:q.frame.body.length < 100000):Sy.Spec Tryz.prog 185 [Aw q] [] (Aw q) []:=Ab Γ hm 100 F185 Tryz.ntmps185 rfl fun F hF=>by
 have qc:=Ahv q.frame hb
 conv=>whnf
 refine Ag qc F261 E E E E E ?_
 refine rg ?_;conv=>whnf
 exact Ac E (.cons (.cell E E E E) .nil) E E
def O0 (l:List QueuedM):Prop:=∀ q ∈ l,q.frame.body.length < 100000
theorem Aqf (l:List QueuedM) (hl:l.length < 1000000) (hb:O0 l):Sy.Spec Tryz.prog 184 [.sl 7 Aw l] [] (.osl 0) [(0,.row 7 Aw l)]:=Ab Γ hm 100 F184 Tryz.ntmps184 rfl fun F hF=>by
 conv=>whnf
 refine Bt 3 1000 7 Aw E E ?_
 refine Au l.length (fun j=>[(3,.osl 1000),(6,.sl 7 Aw l),(7,Aa l.length),(8,Aa j)]) (fun j=>[(1000,.row 7 Aw (l.take j))]) [] ⟨⟨E,E,E,E,E,E,E,E,Y⟩,⟨.inl E,E,Y⟩,E,E⟩ ?_
 intro j hj
 refine rg ?_;conv=>whnf
 refine ⟨fun h=>?_,fun h=>?_⟩
 ·have hlt:j < l.length:=by have:=of_decide_eq_true h; omega
  have hj0:((j:Nat):Int).toNat < l.length:=by simpa using hlt
  obtain ⟨q,hq⟩:∃ q,l[j] = q:=⟨_,rfl⟩
  have e1:l[((j:Nat):Int).toNat]'hj0 = q:=hq
  have hs:l.take (j + 1) = l.take j ++ [q]:=by rw [List.take_succ_eq_append_getElem hlt,hq]
  have hqb:=hb q (by rw [← hq]; exact List.getElem_mem hlt)
  have hll:(l.take j).length = j:=by rw [List.length_take]; omega
  clear h
  refine rg ?_;conv=>whnf
  refine ⟨E,by omega,hj0,?_⟩
  rw [e1]
  conv=>whnf
  refine Ag (Acc q hqb) F185 E E E E E ?_
  refine rg ?_;conv=>whnf
  refine Ai (Af Γ.toTy 16 E E E E E (.row E) (.lit (e:=Aw) (l:=[q]) E E) (by simp) (by rw [hll]; simp; omega) (by rw [hll]; simp; omega)) E E ?_
  refine rg ?_;conv=>whnf
  refine ⟨by unfold I64; omega,?_⟩
  conv=>whnf
  exact Ar [(1000,16)] hlt ⟨⟨E,E,E,E,E,E,E,E,Y⟩,⟨.inl (congrArg (Ob.row 7 Aw) hs),E,Y⟩,E,E⟩
 ·have hjj:j = l.length:=by have:=of_decide_eq_false h; omega
  subst hjj
  rw [List.take_length]
  refine rg ?_;conv=>whnf
  exact done E (.cons .tmp .nil) [(0,1000)] [(0,.row 7 Aw l)] (fun _ h=>h) E E ⟨Y,⟨.inl E,E,Y⟩,E,E⟩
theorem Adv (l:List QueuedM) (q:QueuedM) (hl:l.length < 1000000) (hb:O0 l) (hqb:q.frame.body.length < 100000) :
  Sy.Spec Tryz.prog 170 [.sl 7 Aw l,Aw q] [] (.tup [.sl 7 Aw (pushT l q).1,Ad (pushT l q).2]) []:=Ab Γ hm 100 F170 Tryz.ntmps170 rfl fun F hF=>by
 have hres:=pushT.eq_1 l q
 generalize pushT l q = res at *
 conv=>whnf
 refine Ai (Ak [(0,55)] E F184 (Aqf l hl hb) E Y E ⟨.inr E,Y⟩) E E ?_
 refine rg ?_;conv=>whnf
 refine ⟨fun h=>?_,fun h=>?_⟩
 ·rw [if_pos (by have:=of_decide_eq_true h; omega)] at hres
  subst hres
  refine rg ?_;conv=>whnf
  refine As 55 E ?_
  exact Ac E (.cons .tmp (.cons .tmp .nil)) E E
 ·rw [if_neg (by have:=of_decide_eq_false h; omega)] at hres
  subst hres
  refine rg ?_;conv=>whnf
  refine Ag (Acc q hqb) F185 E E E E E ?_
  refine rg ?_;conv=>whnf
  refine Ai (Af Γ.toTy 17 E E E E E (.row E) (.lit (e:=Aw) (l:=[q]) E E) (by decide) (by simp; omega) (by simp; omega)) E E ?_
  refine As 17 E ?_
  refine rg ?_;conv=>whnf
  exact Ac E (.cons .tmp (.cons .tmp .nil)) E E
theorem Af8 (l:List QueuedM) (q:QueuedM) (hl:l.length < 1000000) :
  Sy.Spec Tryz.prog 80 [.sl 7 Aw l,Aw q] [] (.tup [.sl 7 Aw (pushT l q).1,Ad (pushT l q).2]) []:=Ab Γ hm 100 F80 Tryz.ntmps80 rfl fun F hF=>by
 have hres:=pushT.eq_1 l q
 generalize pushT l q = res at *
 conv=>whnf
 refine Ai (Af Γ.toTy 9 E E E E E (.lit (e:=Aw) (l:=[]) E E) .sl (by simp) (by simp; omega) (by simp; omega)) E E ?_
 refine rg ?_;conv=>whnf
 refine ⟨fun h=>?_,fun h=>?_⟩
 ·rw [if_pos (by have:=of_decide_eq_true h; omega)] at hres
  subst hres
  refine rg ?_;conv=>whnf
  refine As 9 E ?_
  exact Ac E (.cons .tmp (.cons .tmp .nil)) E E
 ·rw [if_neg (by have:=of_decide_eq_false h; omega)] at hres
  subst hres
  refine rg ?_;conv=>whnf
  refine Ai (Af Γ.toTy 17 E E E E E (.row E) (.lit (e:=Aw) (l:=[q]) E E) (by decide) (by simp; omega) (by simp; omega)) E E ?_
  refine As 17 E ?_
  refine rg ?_;conv=>whnf
  exact Ac E (.cons .tmp (.cons .tmp .nil)) E E
def Mi (l:List QueuedM) (at_:Int) (j:Nat):List QueuedM:=if 0 ≤ at_ ∧ at_ < j then (l.take j).eraseIdx at_.toNat else l.take j
theorem Afz (l:List QueuedM) (at_:Int) {j:Nat} (h:j < l.length):Mi l at_ (j + 1) = if (j:Int) ≠ at_ then Mi l at_ j ++ [l[j]] else Mi l at_ j:=by
 have hll:(l.take j).length = j:=by rw [List.length_take]; omega
 unfold Mi
 rw [List.take_succ_eq_append_getElem h]
 by_cases h1:(j:Int) = at_
 ·rw [if_neg (show ¬ (j:Int) ≠ at_ from fun h=>h h1),if_pos (show 0 ≤ at_ ∧ at_ < ((j + 1:Nat):Int) by omega),if_neg (show ¬ (0 ≤ at_ ∧ at_ < (j:Int)) by omega),show at_.toNat = j by omega,List.eraseIdx_append_of_length_le (by omega),hll,Nat.sub_self]
  simp
 ·rw [if_pos (show (j:Int) ≠ at_ from h1)]
  by_cases h2:0 ≤ at_ ∧ at_ < j
  ·rw [if_pos h2,if_pos (show 0 ≤ at_ ∧ at_ < ((j + 1:Nat):Int) by omega),List.eraseIdx_append_of_lt_length (by omega)]
  ·rw [if_neg h2,if_neg (show ¬ (0 ≤ at_ ∧ at_ < ((j + 1:Nat):Int)) by omega)]
theorem Aa9 (l:List QueuedM) (at_:Int) (j:Nat):(Mi l at_ j).length ≤ l.length:=by
 unfold Mi
 split
 ·exact Nat.le_trans (List.length_eraseIdx_le _ _) (by rw [List.length_take]; omega)
 ·rw [List.length_take]; omega
theorem Af6 (l:List QueuedM) (at_:Int) (hl:l.length < 1000000) :
  Sy.Spec Tryz.prog 70 [.sl 7 Aw l,Aa at_] [] (.tup [Aw (takeT l at_).1,.sl 7 Aw (takeT l at_).2.1,Ad (takeT l at_).2.2]) []:=Ab Γ hm 100 F70 Tryz.ntmps70 rfl fun F hF=>by
 have hres:=takeT.eq_1 l at_
 generalize takeT l at_ = res at *
 conv=>whnf
 refine Bt 7 1000 7 Aw E E ?_
 refine Au l.length (fun j=>[(0,.sl 7 Aw l),(1,Aa at_),(4,.ptr 4 0),(7,.osl 1000),(8,Aa j)]) (fun j=>[(4,.box [Aa 0,Aa 0,Aa 0,Ay 0,Ay 0,Aa 0,.val (.slice none 0 0)]),(1000,.row 7 Aw (Mi l at_ j))]) [(4,4),(1000,1000)] ⟨⟨E,E,E,E,E,E,E,E,E,E,Y⟩,⟨.inl E,E,.inl (congrArg (Ob.row 7 Aw) (by simp [Mi])),E,Y⟩,E,E⟩ ?_
 intro j hj
 have hrl:=Aa9 l at_ j
 refine rg ?_;conv=>whnf
 refine ⟨fun h=>?_,fun h=>?_⟩
 ·have hlt:j < l.length:=by have:=of_decide_eq_true h; omega
  have hj0:((j:Nat):Int).toNat < l.length:=by simpa using hlt
  have hs:=Afz l at_ hlt
  obtain ⟨q,hq⟩:∃ q,l[j] = q:=⟨_,rfl⟩
  have e1:l[((j:Nat):Int).toNat]'hj0 = q:=hq
  rw [hq] at hs
  clear h
  refine rg ?_;conv=>whnf
  refine ⟨fun h=>?_,fun h=>?_⟩
  ·rw [if_pos (by simpa using h)] at hs
   refine rg ?_;conv=>whnf
   refine ⟨E,by omega,hj0,?_⟩
   rw [e1]
   conv=>whnf
   refine Ai (Af Γ.toTy 24 E E E E E (.row E) (.lit (e:=Aw) (l:=[q]) E E) (by simp) (by simp; omega) (by simp; omega)) E E ?_
   refine rg ?_;conv=>whnf
   refine ⟨by unfold I64; omega,?_⟩
   conv=>whnf
   exact Ar [(4,4),(1000,24)] hlt ⟨⟨E,E,E,E,E,E,E,E,E,E,Y⟩,⟨.inl E,E,.inl (congrArg (Ob.row 7 Aw) hs),E,Y⟩,E,E⟩
  ·rw [if_neg (by simpa using h)] at hs
   refine rg ?_;conv=>whnf
   refine ⟨by unfold I64; omega,?_⟩
   conv=>whnf
   exact Ar [(4,4),(1000,1000)] hlt ⟨⟨E,E,E,E,E,E,E,E,E,E,Y⟩,⟨.inl E,E,.inl (congrArg (Ob.row 7 Aw) hs),E,Y⟩,E,E⟩
 have hjj:j = l.length:=by have:=of_decide_eq_false h; omega
 subst hjj
 clear h
 refine rg ?_;conv=>whnf
 have bad:at_ < 0 ∨ (l.length:Int) ≤ at_ → Mi l at_ l.length = l ∧ res = (noQ,l,false):=fun h=>by
  rw [if_pos h] at hres
  refine ⟨?_,hres⟩
  rw [Mi,if_neg (by omega),List.take_length]
 refine ⟨fun h=>?_,fun h=>?_⟩
 ·obtain ⟨b1,b2⟩:=bad (.inl (of_decide_eq_true h))
  subst b2
  rw [b1]
  (refine rg ?_;(conv=>whnf);refine aT ?_;refine rg ?_;conv=>whnf)
  refine As 1000 E ?_
  refine Av 4 [Aa 0,Aa 0,Aa 0,Ay 0,Ay 0,Aa 0,.sl 1 Aj []] E (.cons (.refl _) (.cons (.refl _) (.cons (.refl _) (.cons (.refl _) (.cons (.refl _) (.cons (.refl _) (.cons .nil .nil))))))) ?_
  exact Ac E (.cons (.cell E E E E) (.cons .tmp (.cons .tmp .nil))) E E
 have h0:0 ≤ at_:=by have:=of_decide_eq_false h; omega
 clear h
 refine rg ?_;conv=>whnf
 refine ⟨fun h=>?_,fun h=>?_⟩
 ·obtain ⟨b1,b2⟩:=bad (.inr (by have:=of_decide_eq_true h; omega))
  subst b2
  rw [b1]
  refine rg ?_;conv=>whnf
  refine As 1000 E ?_
  refine Av 4 [Aa 0,Aa 0,Aa 0,Ay 0,Ay 0,Aa 0,.sl 1 Aj []] E (.cons (.refl _) (.cons (.refl _) (.cons (.refl _) (.cons (.refl _) (.cons (.refl _) (.cons (.refl _) (.cons .nil .nil))))))) ?_
  exact Ac E (.cons (.cell E E E E) (.cons .tmp (.cons .tmp .nil))) E E
 have h1:at_ < l.length:=by have:=of_decide_eq_false h; omega
 clear h bad
 have hk:at_.toNat < l.length:=by omega
 rw [if_neg (by omega),List.getElem?_eq_getElem hk,Option.getD_some] at hres
 obtain ⟨q,hq⟩:∃ q,l[at_.toNat]'hk = q:=⟨_,rfl⟩
 rw [hq] at hres
 have hru:Mi l at_ l.length = l.eraseIdx at_.toNat:=by rw [Mi,if_pos ⟨h0,h1⟩,List.take_length]
 rw [hru]
 subst hres
 refine rg ?_;conv=>whnf
 refine ⟨E,h0,hk,?_⟩
 rw [hq]
 conv=>whnf
 refine As 1000 E ?_
 exact Ac E (.cons (.cell E E E E) (.cons .tmp (.cons .tmp .nil))) E E
theorem Xr (l:List QueuedM) (at_:Int) (hl:l.length < 1000000) (hb:O0 l) :
  Sy.Spec Tryz.prog 106 [.sl 7 Aw l,Aa at_] [] (.tup [Aw (takeT l at_).1,.sl 7 Aw (takeT l at_).2.1,Ad (takeT l at_).2.2]) []:=Ab Γ hm 100 F106 Tryz.ntmps106 rfl fun F hF=>by
 have hres:=takeT.eq_1 l at_
 generalize takeT l at_ = res at *
 conv=>whnf
 refine ⟨fun h=>?_,fun h=>?_⟩
 ·rw [if_pos (.inl (of_decide_eq_true h))] at hres
  subst hres
  (refine rg ?_;(conv=>whnf);refine aT ?_;refine rg ?_;conv=>whnf)
  refine Ai (Ak [(0,55)] E F184 (Aqf l hl hb) E Y E ⟨.inr E,Y⟩) E E ?_
  refine As 55 E ?_
  refine rg ?_;conv=>whnf
  refine Av 4 [Aa 0,Aa 0,Aa 0,Ay 0,Ay 0,Aa 0,.sl 1 Aj []] E (.cons (.refl _) (.cons (.refl _) (.cons (.refl _) (.cons (.refl _) (.cons (.refl _) (.cons (.refl _) (.cons .nil .nil))))))) ?_
  exact Ac E (.cons (.cell E E E E) (.cons .tmp (.cons .tmp .nil))) E E
 have h0:0 ≤ at_:=by have:=of_decide_eq_false h; omega
 clear h
 refine rg ?_;conv=>whnf
 refine ⟨fun h=>?_,fun h=>?_⟩
 ·rw [if_pos (.inr (of_decide_eq_true h))] at hres
  subst hres
  refine rg ?_;conv=>whnf
  refine Ai (Ak [(0,55)] E F184 (Aqf l hl hb) E Y E ⟨.inr E,Y⟩) E E ?_
  refine As 55 E ?_
  refine rg ?_;conv=>whnf
  refine Av 4 [Aa 0,Aa 0,Aa 0,Ay 0,Ay 0,Aa 0,.sl 1 Aj []] E (.cons (.refl _) (.cons (.refl _) (.cons (.refl _) (.cons (.refl _) (.cons (.refl _) (.cons (.refl _) (.cons .nil .nil))))))) ?_
  exact Ac E (.cons (.cell E E E E) (.cons .tmp (.cons .tmp .nil))) E E
 have h1:at_ < l.length:=by have:=of_decide_eq_false h; omega
 clear h
 have hk:at_.toNat < l.length:=by omega
 have hne:l ≠ []:=fun e=>by rw [e] at hk; simp at hk
 have hkk:((at_.toNat:Nat):Int) = at_:=by omega
 rw [if_neg (by omega),List.getElem?_eq_getElem hk,Option.getD_some] at hres
 obtain ⟨q,hq⟩:∃ q,l[at_.toNat]'hk = q:=⟨_,rfl⟩
 rw [hq] at hres
 have hqb:=hb q (by rw [← hq]; exact List.getElem_mem hk)
 refine G_dat 0 90 E hne ?_
 intro B off cap hcap
 refine run Γ hm 3 ?_
 conv=>whnf
 refine Bi (Vz 90 (.inl E) E E) (by kernel_rfl) E ?_
 refine rd (by kernel_rfl) ?_;conv=>whnf
 refine ⟨E,h0,hk,?_⟩
 rw [hq]
 conv=>whnf
 refine At (Acc q hqb) F185 E E E (by kernel_rfl) E ?_
 refine rd (by kernel_rfl) ?_;conv=>whnf
 refine Bi (Zi (hi:=at_.toNat) Γ.toTy E E E E (congrArg (fun z=>SV.val (.int .i64 z)) hkk.symm) (congrArg (fun z=>SV.val (.int .i64 z)) hkk.symm) (by omega)) (by kernel_rfl) E ?_
 refine Bi (Vz 90 (.inl E) E E) (by kernel_rfl) E ?_
 refine rd (by kernel_rfl) ?_;conv=>whnf
 refine ⟨by unfold I64; omega,?_⟩
 conv=>whnf
 refine Bi (Bb (lo:=at_.toNat + 1) (hi:=l.length) Γ.toTy E E E E (.inr ⟨_,_,E,congrArg (fun z=>SV.val (.int .i64 z)) (by omega)⟩) (.inl ⟨E,E⟩) (by omega) (Nat.le_refl _)) (by kernel_rfl) E ?_
 have hll:((l.take l.length).drop (at_.toNat + 1)).length = l.length - (at_.toNat + 1):=by rw [List.length_drop,List.length_take]; omega
 refine Bi (Zn Γ.toTy 90 E E E E E E (Nat.le_of_lt hk) E (by rw [hll]; omega) (by rw [hll]; omega)) (by kernel_rfl) E ?_
 have he:l.take at_.toNat ++ (l.take l.length).drop (at_.toNat + 1) = l.eraseIdx at_.toNat:=by rw [List.take_length,List.eraseIdx_eq_take_drop_succ]
 have hel:(l.take at_.toNat ++ (l.take l.length).drop (at_.toNat + 1)).length < 1000000:=by rw [he,List.length_eraseIdx]; split <;> omega
 have heb:O0 (l.take at_.toNat ++ (l.take l.length).drop (at_.toNat + 1)):=by rw [he]; exact fun x hx=>hb x (List.mem_of_mem_eraseIdx hx)
 refine rd (by kernel_rfl) ?_;conv=>whnf
 refine Bi (Ak [(0,55)] E F184 (Aqf _ hel heb) E Y E ⟨.inr E,Y⟩) (by kernel_rfl) E ?_
 refine rd (by kernel_rfl) ?_;conv=>whnf
 refine ⟨(by kernel_rfl),?_⟩
 conv=>whnf
 refine As 55 E ?_
 refine Ac E (.cons (.cell E E E E) (.cons .tmp (.cons .tmp .nil))) ?_ E
 subst hres
 show SV.tup [_,.sl 7 Aw (l.eraseIdx at_.toNat),_] = SV.tup [_,.sl 7 Aw (l.take at_.toNat ++ (l.take l.length).drop (at_.toNat + 1)),_]
 rw [he]
 rfl
def Eu {α:Type} (q:α → Bool) (l:List α):Nat → Nat
 | 0=>0
 | j + 1=>match l[j]? with
  | some x=>if q x = true then Eu q l j + 1 else Eu q l j
  | none=>Eu q l j
def dfC {α:Type} (q:α → Bool) (l:List α):Nat → List α
 | 0=>l
 | j + 1=>match l[j]? with
  | some x=>if q x = true then (dfC q l j).set (Eu q l j) x else dfC q l j
  | none=>dfC q l j
theorem Wo {α:Type} (q:α → Bool) (l:List α) (j:Nat):Eu q l j ≤ j:=by
 induction j with
 | zero=>exact Nat.le_refl _
 | succ j ih =>
  simp only [Eu]
  split
  ·split <;> omega
  ·omega
theorem Sr {α:Type} (q:α → Bool) (l:List α) (j:Nat):(dfC q l j).length = l.length:=by
 induction j with
 | zero=>rfl
 | succ j ih =>
  simp only [dfC]
  split
  ·split
   ·rw [List.length_set]; exact ih
   ·exact ih
  ·exact ih
theorem Ajb {α:Type} (q:α → Bool) (l:List α) (j k:Nat) (h:j ≤ k):(dfC q l j)[k]? = l[k]?:=by
 induction j with
 | zero=>rfl
 | succ j ih =>
  simp only [dfC]
  split
  ·split
   ·rw [List.getElem?_set_ne (by have:=Wo q l j; omega)]; exact ih (by omega)
   ·exact ih (by omega)
  ·exact ih (by omega)
theorem Ae6 {α:Type} (q:α → Bool) (l:List α) (j:Nat) (h:j ≤ l.length):(dfC q l j).take (Eu q l j) = (l.take j).filter q:=by
 induction j with
 | zero=>rfl
 | succ j ih =>
  have hj:j < l.length:=by omega
  have ih:=ih (by omega)
  have hc:=Wo q l j
  simp only [dfC,Eu,List.getElem?_eq_getElem hj]
  rw [List.take_add_one,List.getElem?_eq_getElem hj,List.filter_append]
  by_cases hq:q l[j] = true
  ·rw [if_pos hq,if_pos hq]
   have hlt:Eu q l j < ((dfC q l j).set (Eu q l j) l[j]).length:=by rw [List.length_set,Sr]; omega
   rw [List.take_add_one,List.getElem?_eq_getElem hlt,List.getElem_set_self]
   rw [List.take_set_of_le (Nat.le_refl _),ih]
   simp [hq]
  ·rw [if_neg hq,if_neg hq,ih]
   simp [hq]
theorem Aap {α:Type} (q:α → Bool) (l:List α) (i:Nat) (hi:i ≤ l.length) (h:∀ k (hk:k < l.length),k < i → q l[k] = true):dfC q l i = l ∧ Eu q l i = i:=by
 induction i with
 | zero=>exact ⟨rfl,rfl⟩
 | succ i ih =>
  obtain ⟨h1,h2⟩:=ih (by omega) (fun k hk hki=>h k hk (by omega))
  have hil:i < l.length:=by omega
  simp only [dfC,Eu,List.getElem?_eq_getElem hil]
  rw [if_pos (h i hil (by omega)),if_pos (h i hil (by omega)),h1,h2]
  exact ⟨List.set_getElem_self hil,E⟩
theorem Ie {α:Type} (p:α → Bool) (l:List α):(C7 p l = -1 ∧ ∀ x ∈ l,p x = false) ∨ ∃ (i:Nat) (hi:i < l.length),C7 p l = i ∧ p l[i] = true ∧ ∀ k (hk:k < l.length),k < i → p l[k] = false:=by
 unfold C7
 cases h:l.findIdx? p with
 | none=>exact .inl ⟨rfl,by simpa using h⟩
 | some i =>
  rw [List.findIdx?_eq_some_iff_getElem] at h
  obtain ⟨hi,h1,h2⟩:=h
  exact .inr ⟨i,hi,E,h1,fun k hk hki=>by simpa using h2 k hki⟩
theorem Oo (l:List EntryM) (hl:l.length < 2147483648):Sy.Spec Tryz.prog 48 [.sl 3 Al l] [] (.osl 0) [(0,.row 3 Al l)]:=Ab Γ hm 100 F48 Tryz.ntmps48 rfl fun F hF=>by
 conv=>whnf
 refine D1 E (.inl E) E E E .sl E E ?_
 intro b hb
 cases b
 ·(refine rg ?_;(conv=>whnf);refine aF ?_;refine rg ?_;conv=>whnf)
  refine Ai (Af Γ.toTy 7 E E E E E (.lit (e:=Al) (l:=[]) E E) .sl (by simp) (by simp; omega) (by simp; omega)) E E ?_
  refine rg ?_;conv=>whnf
  exact done E (.cons .tmp .nil) [(0,7)] [(0,.row 3 Al l)] (fun _ h=>h) E E ⟨Y,⟨.inl E,E,Y⟩,E,E⟩
 ·have h0:l = []:=List.eq_nil_of_length_eq_zero (hb rfl)
  subst h0
  (refine rg ?_;(conv=>whnf);refine aT ?_;refine rg ?_;conv=>whnf)
  refine Bt 2 1000 3 Al E E ?_
  exact done E (.cons .tmp .nil) [(0,1000)] [(0,.row 3 Al [])] (fun _ h=>h) E E ⟨Y,⟨.inl E,E,Y⟩,E,E⟩
theorem Li (l:List EntryM) (p:EntryM → Bool) (f:FuncId) (first cap:List SV) (hc:(SV.clo (.func f) first cap).inn [] = true) (hf:∀ x ∈ l,Jb Tryz.prog f (first ++ [Al x] ++ cap) (Ad (p x))) (hl:Aq l) :
  Sy.Spec Tryz.prog 163 [.sl 3 Al l,.clo (.func f) first cap] [] (Aa (C7 p l)) []:=Ab Γ hm 100 F163 Tryz.ntmps163 rfl fun F hF=>by
 unfold Aq at hl
 have hin:∀ x:EntryM,Cj [] (first ++ [Al x] ++ cap) = true:=fun x=>Dd hc rfl
 conv=>whnf
 refine A2 l.length (fun j=>Da (fun _ x=>!(p x)) l j) (fun j=>[(0,.sl 3 Al l),(1,.clo (.func f) first cap),(7,Aa l.length),(8,Aa j)]) (fun _=>[]) [] (A5 _ _) ⟨⟨E,E,Bm _,hc,E,E,E,E,Y⟩,Y,E,E⟩ ?_
 intro j hj hI
 refine rg ?_;conv=>whnf
 refine ⟨fun h=>?_,fun h=>?_⟩
 ·have h:=of_decide_eq_true h
  have hj2:j < l.length:=by omega
  refine rg ?_;conv=>whnf
  refine ⟨E,by omega,by omega,?_⟩
  conv=>whnf
  refine Ep (hf l[j] (List.getElem_mem hj2)) E E E (by simp only [hin]; rfl) E E ?_
  refine rg ?_;conv=>whnf
  refine ⟨fun h2=>?_,fun h2=>?_⟩
  ·refine rg ?_;conv=>whnf
   refine Ac E (.cons .tmp .nil) (congrArg Aa ?_) E
   exact Ct hj2 (fun i hi hij=>by simpa using hI i hi hij) h2
  ·refine rg ?_;conv=>whnf
   refine ⟨by unfold I64; omega,?_⟩
   conv=>whnf
   exact Ax [] hI hj2 (A3 hI hj2 (by simp [h2])) ⟨⟨E,E,Bm _,hc,E,E,E,E,Y⟩,Y,E,E⟩
 ·have h:=of_decide_eq_false h
  refine rg ?_;conv=>whnf
  refine Ac E (.cons .tmp .nil) (congrArg Aa ?_) E
  exact C3 (fun i hi=>by simpa using hI i hi (by omega))
theorem Ua (l:List EntryM) (p:EntryM → Bool) (f:FuncId) (first cap:List SV) (hc:(SV.clo (.func f) first cap).inn [] = true) (hc0:(SV.clo (.func f) first cap).inn [0] = true) (hf:∀ x ∈ l,Jb Tryz.prog f (first ++ [Al x] ++ cap) (Ad (p x))) (hl:Aq l) :
  Sy.Spec Tryz.prog 186 [.osl 0,.clo (.func f) first cap] [(0,.row 3 Al l)] (.osl 1) [(0,.non),(1,.row 3 Al (l.filter fun x=>!(p x)))]:=Ab Γ hm 100 F186 Tryz.ntmps186 rfl fun F hF=>by
 have qi:=Li l p f first cap hc hf hl
 unfold Aq at hl
 have hin:∀ x:EntryM,Cj [] (first ++ [Al x] ++ cap) = true:=fun x=>Dd hc rfl
 conv=>whnf
 refine Afb [0] qi F163 E (.cons (.row E E) (.cons (.refl _) .nil)) (by simp only [Cj,hc,Bool.and_true]; rfl) E E ?_
 rcases Ie p l with ⟨h1,h2⟩ | ⟨i,hi,h1,h2,h3⟩
 ·rw [h1]
  have e1:(l.filter fun x=>!(p x)) = l:=List.filter_eq_self.2 (fun x hx=>by simp [h2 x hx])
  rw [e1]
  (refine rg ?_;(conv=>whnf);refine aT ?_;refine rg ?_;conv=>whnf)
  refine Aih 0 1000 [0,4] E E (by decide) (by simp; exact ⟨E,E⟩) ?_
  exact done E (.cons .tmp .nil) [(0,0),(1,1000)] _ (fun _ h=>h) E E ⟨Y,⟨.inl E,E,.inl E,E,Y⟩,E,E⟩
 obtain ⟨f1,f2⟩:=Aap (fun x=>!(p x)) l i (by omega) (fun k hk hki=>by simp [h3 k hk hki])
 have g1:dfC (fun x=>!(p x)) l (i + 1 + 0) = l:=by
  show dfC (fun x=>!(p x)) l (i + 1) = l
  simp only [dfC,List.getElem?_eq_getElem hi]
  rw [if_neg (by simp [h2]),f1]
 have g2:Eu (fun x=>!(p x)) l (i + 1 + 0) = i:=by
  show Eu (fun x=>!(p x)) l (i + 1) = i
  simp only [Eu,List.getElem?_eq_getElem hi]
  rw [if_neg (by simp [h2]),f2]
 rw [h1]
 (refine rg ?_;(conv=>whnf);refine aF ?_;refine rg ?_;conv=>whnf)
 refine ⟨by unfold I64; omega,?_⟩
 conv=>whnf
 refine Au (l.length - (i + 1)) (fun j=>[(0,.osl 0),(1,.clo (.func f) first cap),(5,Aa (Eu (fun x=>!(p x)) l (i + 1 + j))),(6,Aa ((i + 1 + j:Nat)))]) (fun j=>[(0,.row 3 Al (dfC (fun x=>!(p x)) l (i + 1 + j)))]) []
  ⟨⟨rfl,rfl,Bm _,hc0,congrArg Aa (congrArg Int.ofNat g2),rfl,congrArg (fun z=>SV.val (.int .i64 z)) (by omega),rfl,trivial⟩,⟨.inl (congrArg (Ob.row 3 Al) g1),rfl,trivial⟩,rfl,rfl⟩ ?_
 intro j hj
 have hcl:=Wo (fun x=>!(p x)) l (i + 1 + j)
 have hdl:=Sr (fun x=>!(p x)) l (i + 1 + j)
 have hget:=Ajb (fun x=>!(p x)) l (i + 1 + j) (i + 1 + j) (Nat.le_refl _)
 have s1:∀ h:i + 1 + j < l.length,Eu (fun x=>!(p x)) l (i + 1 + (j + 1)) = if (!(p l[i + 1 + j])) = true then Eu (fun x=>!(p x)) l (i + 1 + j) + 1 else Eu (fun x=>!(p x)) l (i + 1 + j):=fun hlt=>by
  show Eu (fun x=>!(p x)) l (i + 1 + j + 1) = _
  simp only [Eu,List.getElem?_eq_getElem hlt]
 have s2:∀ h:i + 1 + j < l.length,dfC (fun x=>!(p x)) l (i + 1 + (j + 1)) = if (!(p l[i + 1 + j])) = true then (dfC (fun x=>!(p x)) l (i + 1 + j)).set (Eu (fun x=>!(p x)) l (i + 1 + j)) l[i + 1 + j] else dfC (fun x=>!(p x)) l (i + 1 + j):=fun hlt=>by
  show dfC (fun x=>!(p x)) l (i + 1 + j + 1) = _
  simp only [dfC,List.getElem?_eq_getElem hlt]
 have htk:=fun h=>Ae6 (fun x=>!(p x)) l (i + 1 + j) h
 obtain ⟨D,hD⟩:∃ D,dfC (fun x=>!(p x)) l (i + 1 + j) = D:=⟨_,rfl⟩
 obtain ⟨K,hK⟩:∃ K,Eu (fun x=>!(p x)) l (i + 1 + j) = K:=⟨_,rfl⟩
 rw [hD] at hdl hget s2 htk ⊢
 rw [hK] at hcl s1 s2 htk ⊢
 refine rg ?_;conv=>whnf
 refine ⟨fun h=>?_,fun h=>?_⟩
 ·have hlt:i + 1 + j < l.length:=by have:=of_decide_eq_true h; omega
  have hfx:=hf l[i + 1 + j] (List.getElem_mem hlt)
  have s1:=s1 hlt
  have s2:=s2 hlt
  rw [List.getElem?_eq_getElem hlt,List.getElem?_eq_getElem (by omega)] at hget
  have hget:=Option.some.inj hget
  obtain ⟨x,hx⟩:∃ x,l[i + 1 + j] = x:=⟨_,rfl⟩
  rw [hx] at hfx s1 s2 hget
  refine rg ?_;conv=>whnf
  refine ⟨by omega,by simp; omega,?_⟩
  conv=>whnf
  refine ⟨E,by omega,?_⟩
  rw [show D[((i + 1 + j:Nat):Int).toNat]'(by omega) = x from hget]
  conv=>whnf
  refine Ep hfx E E E (by simp only [hin]; rfl) E E ?_
  cases hpx:p x
  ·rw [hpx] at s1 s2
   (refine rg ?_;(conv=>whnf);refine aT ?_;refine rg ?_;conv=>whnf)
   refine ⟨by omega,by simp; omega,?_⟩
   conv=>whnf
   refine ⟨E,by omega,x,E,E,?_⟩
   conv=>whnf
   refine ⟨by unfold I64; omega,?_⟩
   conv=>whnf
   refine ⟨by unfold I64; omega,?_⟩
   conv=>whnf
   exact Ar [] (by omega) ⟨⟨E,E,Bm _,hc0,congrArg Aa (congrArg Int.ofNat s1),E,congrArg (fun z=>SV.val (.int .i64 z)) (by omega),E,Y⟩,⟨.inl (congrArg (Ob.row 3 Al) s2),E,Y⟩,E,E⟩
  ·rw [hpx] at s1 s2
   (refine rg ?_;(conv=>whnf);refine aF ?_;refine rg ?_;conv=>whnf)
   refine ⟨by unfold I64; omega,?_⟩
   conv=>whnf
   exact Ar [] (by omega) ⟨⟨E,E,Bm _,hc0,congrArg Aa (congrArg Int.ofNat s1),E,congrArg (fun z=>SV.val (.int .i64 z)) (by omega),E,Y⟩,⟨.inl (congrArg (Ob.row 3 Al) s2),E,Y⟩,E,E⟩
 ·have hend:i + 1 + j = l.length:=by have:=of_decide_eq_false h; omega
  have hne:D ≠ []:=fun h=>by rw [h] at hdl; simp at hdl; omega
  have htk:=htk (by omega)
  rw [show l.take (i + 1 + j) = l from List.take_of_length_le (by omega)] at htk
  refine Ajh 0 [0] E hne (by simp; rfl) ?_
  intro b cap' hcap
  refine rg ?_;conv=>whnf
  refine Ai (C1 Γ.toTy E E E E (.inr ⟨_,_,E,E⟩) (.inl ⟨E,E⟩) (by omega) (by omega)) E E ?_
  refine rg ?_;conv=>whnf
  refine Ai (J9 Γ.toTy 0 (k:=K) E E E E (by decide) E E E (by omega) (by omega)) E E ?_
  refine rg ?_;conv=>whnf
  refine Ai (C1 Γ.toTy E E E E (.inl ⟨E,E⟩) (.inr ⟨_,_,E,E⟩) (by omega) (by omega)) E E ?_
  refine rg ?_;conv=>whnf
  refine Wr 0 1000 [4] K E E (by rw [List.length_take]; omega) (fun i hi=>?_) ?_
  ·rw [List.mem_singleton] at hi
   subst hi
   show SV.val (.slice (some (if cap' = 0 then ⟨b,0,none⟩ else ⟨b,0 * 3,none⟩)) (K - 0) (cap' - 0)) = _
   split <;> simp
  refine done E (.cons .tmp .nil) [(0,0),(1,1000)] _ (fun _ h=>h) E E ⟨Y,⟨.inl E,E,.inl ?_,E,Y⟩,E,E⟩
  rw [← htk]
  exact congrArg (Ob.row 3 Al) (by rw [List.take_take,Nat.min_self])
theorem Zo (l:List EntryM) (i:Nat) (hi:i < l.length) (hl:Aq l) :
  Sy.Spec Tryz.prog 293 [.osl 0,Aa i,Aa ((i + 1:Nat):Int)] [(0,.row 3 Al l)] (.osl 1) [(0,.non),(1,.row 3 Al (l.take i ++ l.drop (i + 1)))]:=Ab Γ hm 100 F293 Tryz.ntmps293 rfl fun F hF=>by
 unfold Aq at hl
 have hne:l ≠ []:=fun h=>by rw [h] at hi; simp at hi
 conv=>whnf
 refine Ajh 0 [0,8] E hne (by simp; exact ⟨E,E⟩) ?_
 intro b cap hcap
 refine rg ?_;conv=>whnf
 refine Ai (Zh Γ.toTy E E E E E E E (by omega) (by omega) hcap) E E ?_
 refine rg ?_;conv=>whnf
 refine ⟨fun h=>absurd h (by simp; omega),fun _=>?_⟩
 refine rg ?_;conv=>whnf
 refine Bi (C1 Γ.toTy E E E E (.inl ⟨E,E⟩) (.inr ⟨_,_,E,E⟩) (by omega) (by omega)) (by kernel_rfl) E ?_
 refine rd (by kernel_rfl) ?_;conv=>whnf
 refine Bi (C1 (hi:=l.length) Γ.toTy E E E E (.inr ⟨_,_,E,E⟩) (.inl ⟨E,E⟩) (by omega) (by omega)) (by kernel_rfl) E ?_
 refine rd (by kernel_rfl) ?_;conv=>whnf
 have hif:(if cap = 0 then (⟨b,0,none⟩:Addr) else ⟨b,0 * 3,none⟩) = ⟨b,0,none⟩:=by split <;> simp
 refine Bi (We Γ.toTy 0 (n:=l.length) (i:=i) (j:=i + 1) E E E (congrArg (fun z=>SV.val (.slice (some z) i cap)) hif) E E E E (by omega) (by omega)) (by kernel_rfl) E ?_
 refine rd (by kernel_rfl) ?_;conv=>whnf
 refine ⟨(by kernel_rfl),?_⟩
 conv=>whnf
 refine Ai (C1 (lo:=i + (l.length - (i + 1))) (hi:=l.length) Γ.toTy E E E E (.inr ⟨_,_,E,E⟩) (.inr ⟨_,_,E,E⟩) (by omega) (by omega)) E E ?_
 refine rg ?_;conv=>whnf
 have hll:(l.take i ++ l.drop (i + 1)).length = i + (l.length - (i + 1)):=by rw [List.length_append,List.length_take,List.length_drop]; omega
 refine Ai (J9 Γ.toTy 0 (k:=i + (l.length - (i + 1))) E E E E (by decide) E E E (by omega) (by omega)) E E ?_
 refine rg ?_;conv=>whnf
 refine Wr 0 1000 [6] (i + (l.length - (i + 1))) E E (by rw [List.length_take]; omega) (by simp; rfl) ?_
 refine done E (.cons .tmp .nil) [(0,0),(1,1000)] _ (fun _ h=>h) E E ⟨Y,⟨.inl E,E,.inl ?_,E,Y⟩,E,E⟩
 exact congrArg (Ob.row 3 Al) (by rw [List.take_take,Nat.min_self]; exact (List.take_of_length_le (by omega)).symm)
theorem Vf (m:Nat) (h:m < 18446744073709551616):Sy.Spec Tryz.prog 97 [Ay m] [] (Ad (Ed m)) []:=Ab Γ hm 100 F97 Tryz.ntmps97 rfl fun F hF=>by
 have q:=Le m h
 conv=>whnf
 refine ⟨fun h1=>?_,fun h1=>?_⟩
 ·have h2:m ≤ 281474976710655:=by simp at h1; omega
  refine rg ?_;conv=>whnf
  refine Ag q F162 E E E E E ?_
  refine rg ?_;conv=>whnf
  exact Ac E (.cons .tmp .nil) (congrArg Ad (by rw [Ed,decide_eq_true h2,Bool.true_and])) E
 ·have h2:¬ m ≤ 281474976710655:=by simp at h1; omega
  refine rg ?_;conv=>whnf
  exact Ac E (.cons .tmp .nil) (congrArg Ad (by rw [Ed,decide_eq_false h2,Bool.false_and])) E
theorem Q6 (i:Int):Sy.Spec Tryz.prog 98 [Aa i] [] (Ad (Ck i)) []:=Ab Γ hm 100 F98 Tryz.ntmps98 rfl fun F hF=>by
 conv=>whnf
 (repeat' (first | (refine ⟨fun h=>?_,fun h=>?_⟩ <;> (repeat (first | simp only [decide_eq_true_eq] at h | simp only [decide_eq_false_iff_not] at h)) <;> ((refine rg ?_);(conv=>whnf))) | (refine Ac rfl (.cons .tmp .nil) ?_ rfl)))
 all_goals (refine congrArg Ad ?_)
 all_goals grind [Ck]
theorem Ajl (m:Nat) (e:EntryM):Sy.Spec Tryz.prog 164 [Al e,.ref 1 (Ay m) 0] [] (Ad (decide (e.mac = m))) []:=Ab Γ hm 100 F164 Tryz.ntmps164 rfl fun F hF=>by
 conv=>whnf
 refine Ac E (.cons .tmp .nil) ?_ E
 refine congrArg Ad ?_
 rw [Bool.eq_iff_iff]; simp; omega
theorem Ur (t:List EntryM) (m:Nat) (hl:Aq t):Sy.Spec Tryz.prog 99 [.sl 3 Al t,Ay m] [] (Aa (Co t m)) []:=Ab Γ hm 100 F99 Tryz.ntmps99 rfl fun F hF=>by
 have q:=Li t (fun e=>decide (e.mac = m)) 164 [] [.ref 1 (Ay m) 0] rfl (fun x _=>⟨⟨_,_,F164⟩,Ajl m x⟩) hl
 conv=>whnf
 refine Bf 3 1 (Ay m) E E E ?_
 refine rg ?_;conv=>whnf
 refine Ag q F163 E E E E E ?_
 refine rg ?_;conv=>whnf
 exact Ac E (.cons .tmp .nil) E E
theorem Amd (t:List EntryM) (m:Nat) (hl:Aq t):Sy.Spec Tryz.prog 307 [.sl 3 Al t,Ay m] [] (.tup [Aa (findE t m).1,Ad (findE t m).2]) []:=Ab Γ hm 100 F307 Tryz.ntmps307 rfl fun F hF=>by
 have q:=Ur t m hl
 have hlt:Co t m < t.length:=Ir _ _
 have hres:=findE.eq_1 t m
 generalize findE t m = res at *
 generalize Co t m = i at *
 conv=>whnf
 refine Ag q F99 E E E E E ?_
 refine rg ?_;conv=>whnf
 refine ⟨fun h=>?_,fun h=>?_⟩
 ·rw [if_pos (by simpa using h)] at hres
  subst hres
  refine rg ?_;conv=>whnf
  exact Ac E (.cons .tmp (.cons .tmp .nil)) E E
 ·have h0:¬ i < 0:=by simpa using h
  have hi:i.toNat < t.length:=by omega
  rw [if_neg h0,List.getElem?_eq_getElem hi] at hres
  subst hres
  refine rg ?_;conv=>whnf
  refine ⟨E,by omega,by omega,?_⟩
  conv=>whnf
  exact Ac E (.cons .tmp (.cons .tmp .nil)) E E
theorem O2 (t:List EntryM) (hl:Aq t) (hmac:∀ e ∈ t,e.mac < 18446744073709551616):Sy.Spec Tryz.prog 47 [.sl 3 Al t] [] (Ad (tableB t)) []:=Ab Γ hm 100 F47 Tryz.ntmps47 rfl fun F hF=>by
 unfold Aq at hl
 have hres:=tableB.eq_1 t
 generalize tableB t = res at *
 conv=>whnf
 refine ⟨fun h=>?_,fun h=>?_⟩
 ·have h8:¬ t.length ≤ 8:=by simp at h; omega
  rw [decide_eq_false h8,Bool.false_and] at hres
  subst hres
  refine rg ?_;conv=>whnf
  exact Ac E (.cons .tmp .nil) E E
 have h8:t.length ≤ 8:=by simp at h; omega
 rw [decide_eq_true h8,Bool.true_and] at hres
 refine rg ?_;conv=>whnf
 refine A2 t.length (fun j=>Da (Ii t) t j) (fun j=>[(0,.sl 3 Al t),(8,.sl 3 Al t),(9,Aa t.length),(10,Aa j)]) (fun _=>[]) [] (A5 _ _) ⟨⟨E,E,E,E,E,E,E,E,Y⟩,Y,E,E⟩ ?_
 intro j hj hI
 refine rg ?_;conv=>whnf
 refine ⟨fun h=>?_,fun h=>?_⟩
 ·have hlt:j < t.length:=by have:=of_decide_eq_true h; omega
  have q1:=Vf t[j].mac (hmac _ (List.getElem_mem hlt))
  have q2:=Q6 t[j].seen
  have q3:=Ur t t[j].mac hl
  have hent:Ii t j t[j] = (Ed t[j].mac && Ck t[j].seen && decide (Co t t[j].mac = j)):=rfl
  have hbad:Ii t j t[j] = false → res = false:=fun hf=>by rw [hres]; exact Bd hlt hf
  have hgood:Ii t j t[j] = true → Da (Ii t) t (j + 1):=fun ht=>A3 hI hlt ht
  refine rg ?_;conv=>whnf
  refine ⟨E,by omega,by omega,?_⟩
  rw [show t[((j:Nat):Int).toNat]'(by omega) = t[j] from rfl]
  generalize t[j] = x at *
  conv=>whnf
  refine Ag q1 F97 E E E E E ?_
  cases h1:Ed x.mac
  ·rw [hbad (by rw [hent,h1]; rfl)]
   (refine rg ?_;(conv=>whnf);refine aT ?_;refine rg ?_;(conv=>whnf);refine aT ?_;refine rg ?_;(conv=>whnf);refine aT ?_;refine rg ?_;conv=>whnf)
   exact Ac E (.cons .tmp .nil) E E
  (refine rg ?_;(conv=>whnf);refine aF ?_;refine rg ?_;conv=>whnf)
  refine Ag q2 F98 E E E E E ?_
  cases h2:Ck x.seen
  ·rw [hbad (by rw [hent,h1,h2]; rfl)]
   (refine rg ?_;(conv=>whnf);refine aT ?_;refine rg ?_;(conv=>whnf);refine aT ?_;refine rg ?_;conv=>whnf)
   exact Ac E (.cons .tmp .nil) E E
  (refine rg ?_;(conv=>whnf);refine aF ?_;refine rg ?_;conv=>whnf)
  refine Ag q3 F99 E E E E E ?_
  refine rg ?_;conv=>whnf
  refine ⟨fun h3=>?_,fun h3=>?_⟩
  ·rw [hbad (by rw [hent,h1,h2,decide_eq_false (by simpa using h3)]; rfl)]
   refine rg ?_;conv=>whnf
   exact Ac E (.cons .tmp .nil) E E
  ·have h4:=hgood (by rw [hent,h1,h2,decide_eq_true (by simpa using h3)]; rfl)
   refine rg ?_;conv=>whnf
   refine ⟨by unfold I64; omega,?_⟩
   conv=>whnf
   exact Ax [] hI (by omega) h4 ⟨⟨E,E,E,E,E,E,E,E,Y⟩,Y,E,E⟩
 ·have hend:j = t.length:=by have:=of_decide_eq_false h; omega
  subst hend
  rw [hres.trans (Ca hI (Nat.le_refl _))]
  refine rg ?_;conv=>whnf
  exact Ac E (.cons .tmp .nil) E E
theorem Apd (now:Int) (hn:Ck now = true) (e:EntryM):Sy.Spec Tryz.prog 187 [Al e,.ref 1 (Aa now) 0] [] (Ad (decide (e.seen < now - 4))) []:=Ab Γ hm 100 F187 Tryz.ntmps187 rfl fun F hF=>by
 have hn2:0 ≤ now ∧ now ≤ 1099511627776:=by simpa [Ck] using hn
 conv=>whnf
 refine ⟨by unfold I64; omega,?_⟩
 conv=>whnf
 exact Ac E (.cons .tmp .nil) E E
theorem Apc (t:List EntryM) (now:Int) (hl:Aq t) (hmac:∀ e ∈ t,e.mac < 18446744073709551616):Sy.Spec Tryz.prog 107 [.sl 3 Al t,Aa now] [] (.sl 3 Al (ageT t now)) []:=Ab Γ hm 100 F107 Tryz.ntmps107 rfl fun F hF=>by
 have hl2:=hl
 unfold Aq at hl2
 have hres:=ageT.eq_1 t now
 generalize ageT t now = res at *
 have q1:=O2 t hl hmac
 have q2:=Q6 now
 conv=>whnf
 refine Ai (Ak [(0,55)] E F48 (Oo t hl2) E Y E ⟨.inr E,Y⟩) E E ?_
 refine rg ?_;conv=>whnf
 refine Ag q1 F47 E E E E E ?_
 cases h1:tableB t
 ·rw [if_pos (.inl h1)] at hres
  subst hres
  (refine rg ?_;(conv=>whnf);refine aT ?_;refine rg ?_;(conv=>whnf);refine aT ?_;refine rg ?_;conv=>whnf)
  refine As 55 E ?_
  exact Ac E (.cons .tmp .nil) E E
 (refine rg ?_;(conv=>whnf);refine aF ?_;refine rg ?_;conv=>whnf)
 refine Ag q2 F98 E E E E E ?_
 cases h2:Ck now
 ·rw [if_pos (.inr h2)] at hres
  subst hres
  (refine rg ?_;(conv=>whnf);refine aT ?_;refine rg ?_;conv=>whnf)
  refine As 55 E ?_
  exact Ac E (.cons .tmp .nil) E E
 rw [if_neg (by simp [h1,h2])] at hres
 (refine rg ?_;(conv=>whnf);refine aF ?_;refine rg ?_;conv=>whnf)
 refine Bf 3 1 (Aa now) E E E ?_
 refine rg ?_;conv=>whnf
 have q3:=Ua t (fun e=>decide (e.seen < now - 4)) 187 [] [.ref 1 (Aa now) 0] rfl rfl (fun x _=>⟨⟨_,_,F187⟩,Apd now h2 x⟩) hl
 refine Ai (Ak [(0,55),(1,56)] E F186 q3 E ⟨E,Y⟩ E ⟨.inl E,.inr E,Y⟩) E E ?_
 refine rg ?_;conv=>whnf
 refine As 56 E ?_
 refine Ac E (.cons .tmp .nil) ?_ E
 subst hres
 refine congrArg (SV.sl 3 Al) (List.filter_congr fun e _=>?_)
 rw [Bool.eq_iff_iff]; simp
theorem Se (t:List EntryM) (j:Nat) (h:0 < t.length) (hj:j ≤ t.length):oldestU t j < t.length:=by
 induction j with
 | zero=>exact h
 | succ j ih =>
  rw [oldestU]
  split
  ·omega
  ·exact ih (by omega)
theorem Afn (t:List EntryM) (hl:Aq t) (h0:0 < t.length):Sy.Spec Tryz.prog 292 [.sl 3 Al t] [] (Aa (oldestU t t.length:Nat)) []:=Ab Γ hm 100 F292 Tryz.ntmps292 rfl fun F hF=>by
 unfold Aq at hl
 conv=>whnf
 refine Au t.length (fun j=>[(0,.sl 3 Al t),(3,Aa (oldestU t j:Nat)),(6,.sl 3 Al t),(7,Aa t.length),(8,Aa j)]) (fun _=>[]) [] ⟨⟨E,E,E,E,E,E,E,E,E,E,Y⟩,Y,E,E⟩ ?_
 intro j hj
 refine rg ?_;conv=>whnf
 refine ⟨fun h=>?_,fun h=>?_⟩
 ·have hlt:j < t.length:=by have:=of_decide_eq_true h; omega
  have hol:=Se t j h0 (by omega)
  have hs:=oldestU.eq_2 t j
  rw [List.getElem?_eq_getElem hlt,List.getElem?_eq_getElem hol] at hs
  obtain ⟨o,ho⟩:∃ o,oldestU t j = o:=⟨_,rfl⟩
  simp only [ho] at hs hol ⊢
  have hs2:oldestU t (j + 1) = if t[j].seen < t[o].seen then j else o:=hs
  refine rg ?_;conv=>whnf
  refine ⟨E,by omega,by omega,?_⟩
  rw [show t[((j:Nat):Int).toNat]'(by omega) = t[j] from rfl]
  conv=>whnf
  refine ⟨E,by omega,by omega,?_⟩
  rw [show t[((o:Nat):Int).toNat]'(by omega) = t[o] from rfl]
  conv=>whnf
  refine ⟨(by kernel_rfl),?_⟩
  conv=>whnf
  refine ⟨fun h2=>?_,fun h2=>?_⟩
  ·rw [if_pos (of_decide_eq_true h2)] at hs2
   refine rg ?_;conv=>whnf
   refine ⟨by unfold I64; omega,?_⟩
   conv=>whnf
   exact Ar [] (by omega) ⟨⟨E,E,congrArg (fun z:Nat=>Aa z) hs2,E,E,E,E,E,E,E,Y⟩,Y,E,E⟩
  ·rw [if_neg (of_decide_eq_false h2)] at hs2
   refine rg ?_;conv=>whnf
   refine ⟨by unfold I64; omega,?_⟩
   conv=>whnf
   exact Ar [] (by omega) ⟨⟨E,E,congrArg (fun z:Nat=>Aa z) hs2,E,E,E,E,E,E,E,Y⟩,Y,E,E⟩
 ·have:j = t.length:=by have:=of_decide_eq_false h; omega
  subst this
  refine rg ?_;conv=>whnf
  exact Ac E (.cons .tmp .nil) E E
theorem Zs (t:List EntryM) (m:Nat) (wh now:Int) (hl:Aq t) (hmac:∀ e ∈ t,e.mac < 18446744073709551616) (hm64:m < 18446744073709551616) :
  Sy.Spec Tryz.prog 243 [.sl 3 Al t,Ay m,Aa wh,Aa now] [] (.sl 3 Al (learnT t m wh now)) []:=Ab Γ hm 100 F243 Tryz.ntmps243 rfl fun F hF=>by
 have hl2:=hl
 unfold Aq at hl2
 have hres:=learnT.eq_1 t m wh now
 generalize learnT t m wh now = res at *
 have q1:=O2 t hl hmac
 have q2:=Vf m hm64
 have q3:=Q6 now
 have q4:=Ur t m hl
 conv=>whnf
 refine Ai (Ak [(0,55)] E F48 (Oo t hl2) E Y E ⟨.inr E,Y⟩) E E ?_
 refine rg ?_;conv=>whnf
 refine Ag q1 F47 E E E E E ?_
 cases h1:tableB t
 ·rw [if_pos (.inl h1)] at hres
  subst hres
  (refine rg ?_;(conv=>whnf);refine aT ?_;refine rg ?_;(conv=>whnf);refine aT ?_;refine rg ?_;(conv=>whnf);refine aT ?_;refine rg ?_;conv=>whnf)
  refine As 55 E ?_
  exact Ac E (.cons .tmp .nil) E E
 (refine rg ?_;(conv=>whnf);refine aF ?_;refine rg ?_;conv=>whnf)
 refine Ag q2 F97 E E E E E ?_
 cases h2:Ed m
 ·rw [if_pos (.inr (.inl h2))] at hres
  subst hres
  (refine rg ?_;(conv=>whnf);refine aT ?_;refine rg ?_;(conv=>whnf);refine aT ?_;refine rg ?_;conv=>whnf)
  refine As 55 E ?_
  exact Ac E (.cons .tmp .nil) E E
 (refine rg ?_;(conv=>whnf);refine aF ?_;refine rg ?_;conv=>whnf)
 refine Ag q3 F98 E E E E E ?_
 cases h3:Ck now
 ·rw [if_pos (.inr (.inr h3))] at hres
  subst hres
  (refine rg ?_;(conv=>whnf);refine aT ?_;refine rg ?_;conv=>whnf)
  refine As 55 E ?_
  exact Ac E (.cons .tmp .nil) E E
 rw [if_neg (by simp [h1,h2,h3])] at hres
 have ht8:t.length ≤ 8:=by simp only [tableB,Bool.and_eq_true,decide_eq_true_eq] at h1; exact h1.1
 have hfound:∀ hi:0 ≤ Co t m,∃ h:(Co t m).toNat < t.length,t[(Co t m).toNat].mac = m:=fun hi=>by
  rcases Ie (fun e=>decide (EntryM.mac e = m)) t with ⟨h,_⟩ | ⟨k,hk,h,h2,_⟩
  ·rw [Co,h] at hi
   exact absurd hi (by decide)
  ·have e1:Co t m = k:=h
   simp only [e1,Int.toNat_natCast]
   exact ⟨hk,of_decide_eq_true h2⟩
 generalize Co t m = i at *
 (refine rg ?_;(conv=>whnf);refine aF ?_;refine rg ?_;conv=>whnf)
 refine Ag q4 F99 E E E E E ?_
 refine rg ?_;conv=>whnf
 refine ⟨fun h4=>?_,fun h4=>?_⟩
 ·have h5:0 ≤ i:=by simpa using h4
  obtain ⟨hi,hmm⟩:=hfound h5
  rw [if_pos h5] at hres
  refine rg ?_;conv=>whnf
  have hne:t ≠ []:=fun h=>by rw [h] at hi; simp at hi
  refine ⟨h5,by omega,?_⟩
  conv=>whnf
  refine ⟨hne,?_⟩
  conv=>whnf
  refine ⟨E,hi,⟨t[i.toNat].mac,wh,t[i.toNat].seen⟩,E,E,?_⟩
  conv=>whnf
  refine ⟨h5,by simp; omega,?_⟩
  conv=>whnf
  refine ⟨by simp; exact hne,?_⟩
  conv=>whnf
  refine ⟨E,by simp; omega,⟨t[i.toNat].mac,wh,now⟩,by rw [List.getElem_set_self]; rfl,by rw [List.getElem_set_self]; rfl,?_⟩
  conv=>whnf
  refine As 55 E ?_
  refine rg ?_;conv=>whnf
  refine Ac E (.cons .tmp .nil) (congrArg (SV.sl 3 Al) ?_) E
  rw [hres,List.set_set,hmm]
 ·have h5:¬ 0 ≤ i:=by simp at h4 ⊢; omega
  rw [if_neg h5] at hres
  refine rg ?_;conv=>whnf
  refine ⟨fun h6=>?_,fun h6=>?_⟩
  ·have h7:t.length = 8:=by simp at h6; omega
   rw [if_pos h7] at hres
   have q5:=Afn t hl (by omega)
   have hol:=Se t t.length (by omega) (Nat.le_refl _)
   refine rg ?_;conv=>whnf
   refine Afb [55] q5 F292 E (.cons (.row E E) .nil) E E E ?_
   generalize oldestU t t.length = o at *
   have q6:=Zo t o hol hl
   refine rg ?_;conv=>whnf
   refine ⟨by unfold I64; omega,?_⟩
   conv=>whnf
   refine Ai (Ak [(0,55),(1,56)] E F293 q6 E ⟨E,Y⟩ E ⟨.inl E,.inr E,Y⟩) E E ?_
   refine rg ?_;conv=>whnf
   refine Ai (Af Γ.toTy 60 rfl rfl rfl rfl rfl (.row rfl) (.lit (e:=Al) (l:=[⟨m,wh,now⟩]) rfl rfl) (fun j hj=>by cases hj; decide) (by simp; omega) (by simp; omega)) rfl rfl ?_
   refine As 60 E ?_
   refine rg ?_;conv=>whnf
   refine Ac E (.cons .tmp .nil) (congrArg (SV.sl 3 Al) ?_) E
   rw [hres,List.eraseIdx_eq_take_drop_succ]
  ·have h7:¬ t.length = 8:=by simp at h6; omega
   rw [if_neg h7] at hres
   refine rg ?_;conv=>whnf
   refine Ai (Af Γ.toTy 60 rfl rfl rfl rfl rfl (.row rfl) (.lit (e:=Al) (l:=[⟨m,wh,now⟩]) rfl rfl) (fun j hj=>by cases hj; decide) (by simp; omega) (by simp; omega)) rfl rfl ?_
   refine As 60 E ?_
   refine rg ?_;conv=>whnf
   exact Ac E (.cons .tmp .nil) (congrArg (SV.sl 3 Al) hres) E
end Go.Sy.YtmelpejjondedaaGreat
