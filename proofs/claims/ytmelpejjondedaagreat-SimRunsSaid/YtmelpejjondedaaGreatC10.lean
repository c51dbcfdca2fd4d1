/-
  Z14 Z15 Z16 Z17 K45 Sy39 Y1 Y2 T18 T20 T22 T23 T24 T26 T27 T28 T29 T30 T31 Y3 Y4 Y5 X2: parts of a proof, joined by program.
-/
import Derived.Test.YtmelpejjondedaaGreatC9
import Derived.Test.YtmelpejjondedaaGreatC7
import Derived.Test.YtmelpejjondedaaGreatC2
import Derived.Test.YtmelpejjondedaaGreatC6
import Derived.Test.YtmelpejjondedaaGreatC3
import Derived.Test.YtmelpejjondedaaGreatC5
namespace Go.Sy.YtmelpejjondedaaGreat
open Go.Proofs
attribute [local irreducible] Go.Sy.G Go.Sy.DR
set_option maxRecDepth 100000
set_option maxHeartbeats 4000000
def Acr (n:Net) (m:MacM) (d:Bool):Obs:=[(0,.box (Wx n 4 m.now m.injected m.drops)),(1,.non),(2,.row 1 J9 m.tables),(3,.row 1 Md m.queues),(4,.box (M3 n m.up d))]
def upT (m:MacM) (up:List Bool):MacM:=⟨up,m.tables,m.queues,m.now,m.injected,m.drops⟩
def doD (n:Net) (m:MacM) (d:Bool) (x:StepM):Bool :=
 if x.kind = 1 then d else if x.kind = 2 then (if (takeM m x.domain x.at_).2.2 then true else d) else if x.kind = 3 then d else if x.kind = 4 then d else if x.kind = 5 then (if x.up.length = n.links.length then false else d) else d
theorem simDoS (n:Net) (hn:n.Fin) (hm1:n.Num) (m:MacM) (d:Bool) (J D:Int) (hm0:MacOK n m J D) (hJ:J < 900000000000) (hD0:0 ≤ D) (hD:D ≤ 900000000000) (x:StepM) (hb:x.bytes.length < 100000) :
  Sy.Spec Tryz.prog 21 [.ptr 0 0,Dp x] (Df n m d) (.tup [.sl 3 A8 (doT n m x).2,Aa 0]) (Acr n (doT n m x).1 (doD n m d x)):=Ab Γ hm 100 F21 Tryz.ntmps21 rfl fun F hF=>by
 have hres:=doT.eq_1 n m x
 generalize doT n m x = res at *
 have hdd:=doD.eq_1 n m d x
 generalize doD n m d x = dd at *
 conv=>whnf
 refine Ai (Ad7 (d:=900) E E E) E E ?_
 (refine rg ?_;(conv=>whnf);refine aF ?_;refine rg ?_;conv=>whnf)
 refine ⟨fun h=>?_,fun h=>?_⟩
 ·have h1:x.kind = 1:=by simpa using h
  rw [if_pos h1] at hres hdd
  subst hres
  subst hdd
  have q1:=Afa n hn m dd J D hm0 (by omega) (by omega) x.port x.bytes hb
  refine rg ?_;conv=>whnf
  refine Ai (Ak [] E F51 q1 E ⟨E,E,E,E,Y⟩ E ⟨.inl E,.inl E,.inl E,.inl E,Y⟩) E E ?_
  refine rg ?_;conv=>whnf
  refine Am 4 3 A8 E ?_
  refine Jk 1 4 E E (by decide) ?_
  exact done E (.cons .tmp (.cons .tmp .nil)) [] (Acr n (injectT n m x.port x.bytes) dd) (fun _ h=>h) E E ⟨Y,⟨.inl E,E,.inl E,E,.inl E,E,.inl E,E,.inl E,E,Y⟩,E,E⟩
 have h1:¬ x.kind = 1:=by simpa using h
 rw [if_neg h1] at hres hdd
 clear h
 refine rg ?_;conv=>whnf
 refine ⟨fun h=>?_,fun h=>?_⟩
 ·have h1:x.kind = 2:=by simpa using h
  rw [if_pos h1] at hres hdd
  subst hres
  have q1:=Alx n hn hm1 m d J D hm0 hD0 hD x.domain x.at_
  rw [← hdd] at q1
  refine rg ?_;conv=>whnf
  refine Ai (Ak [] E F52 q1 E ⟨E,E,E,E,Y⟩ E ⟨.inl E,.inl E,.inl E,.inl E,Y⟩) E E ?_
  refine rg ?_;conv=>whnf
  refine Jk 1 4 E E (by decide) ?_
  exact done E (.cons .tmp (.cons .tmp .nil)) [] (Acr n (pickT n m x.domain x.at_).1 dd) (fun _ h=>h) E E ⟨Y,⟨.inl E,E,.inl E,E,.inl E,E,.inl E,E,.inl E,E,Y⟩,E,E⟩
 have h1:¬ x.kind = 2:=by simpa using h
 rw [if_neg h1] at hres hdd
 clear h
 refine rg ?_;conv=>whnf
 refine ⟨fun h=>?_,fun h=>?_⟩
 ·have h1:x.kind = 3:=by simpa using h
  rw [if_pos h1] at hres hdd
  subst hres
  subst hdd
  have q1:=Acq n m dd x.domain x.at_ (Cv hm0 _)
  refine rg ?_;conv=>whnf
  refine Ai (Ak [] E F53 q1 E ⟨E,E,E,E,Y⟩ E ⟨.inl E,.inl E,.inl E,.inl E,Y⟩) E E ?_
  refine rg ?_;conv=>whnf
  refine Am 4 3 A8 E ?_
  refine Jk 1 4 E E (by decide) ?_
  exact done E (.cons .tmp (.cons .tmp .nil)) [] (Acr n (takeM m x.domain x.at_).1 dd) (fun _ h=>h) E E ⟨Y,⟨.inl E,E,.inl E,E,.inl E,E,.inl E,E,.inl E,E,Y⟩,E,E⟩
 have h1:¬ x.kind = 3:=by simpa using h
 rw [if_neg h1] at hres hdd
 clear h
 refine rg ?_;conv=>whnf
 refine ⟨fun h=>?_,fun h=>?_⟩
 ·have h1:x.kind = 4:=by simpa using h
  rw [if_pos h1] at hres hdd
  subst hres
  subst hdd
  have q1:=Alv n m dd J D hm0 hn.domains
  refine rg ?_;conv=>whnf
  refine Ai (Ak [] E F54 q1 E ⟨E,E,E,E,Y⟩ E ⟨.inl E,.inl E,.inl E,.inl E,Y⟩) E E ?_
  refine rg ?_;conv=>whnf
  refine Am 4 3 A8 E ?_
  refine Jk 1 4 E E (by decide) ?_
  exact done E (.cons .tmp (.cons .tmp .nil)) [] (Acr n (Mb m) dd) (fun _ h=>h) E E ⟨Y,⟨.inl E,E,.inl E,E,.inl E,E,.inl E,E,.inl E,E,Y⟩,E,E⟩
 have h1:¬ x.kind = 4:=by simpa using h
 rw [if_neg h1] at hres hdd
 clear h
 refine rg ?_;conv=>whnf
 refine ⟨fun h=>?_,fun h=>?_⟩
 ·have h1:x.kind = 5:=by simpa using h
  rw [if_pos h1] at hres hdd
  clear h
  refine rg ?_;conv=>whnf
  refine ⟨(by kernel_rfl),?_⟩
  conv=>whnf
  refine ⟨fun h=>?_,fun h=>?_⟩
  ·have h2:x.up.length = n.links.length:=by have:=of_decide_eq_true h; omega
   rw [if_pos h2] at hres hdd
   subst hres
   subst hdd
   clear h
   have hls:=hn.links
   unfold Aq at hls
   refine rg ?_;conv=>whnf
   refine Ag (Ahj x.up (by omega)) F55 E E E E E ?_
   refine rg ?_;conv=>whnf
   refine Am 4 3 A8 E ?_
   refine Au 55 (M3 n x.up false) E (.cons (.refl _) (.cons (.refl _) (.cons (.refl _) (.cons (.refl _) (.cons .nil .nil))))) ?_
   exact done E (.cons .tmp (.cons .tmp .nil)) [(4,55)] (Acr n (upT m x.up) false) (fun _ h=>h) E E ⟨Y,⟨.inl E,E,.inr E,E,.inl E,E,.inl E,E,.inl E,E,Y⟩,E,E⟩
  ·have h2:¬ x.up.length = n.links.length:=by have:=of_decide_eq_false h; omega
   rw [if_neg h2] at hres hdd
   subst hres
   subst hdd
   clear h
   refine rg ?_;conv=>whnf
   refine Am 4 3 A8 E ?_
   refine Jk 1 4 E E (by decide) ?_
   exact done E (.cons .tmp (.cons .tmp .nil)) [] (Acr n m dd) (fun _ h=>h) E E ⟨Y,⟨.inl E,E,.inl E,E,.inl E,E,.inl E,E,.inl E,E,Y⟩,E,E⟩
 have h1:¬ x.kind = 5:=by simpa using h
 rw [if_neg h1] at hres hdd
 subst hres
 subst hdd
 clear h
 refine rg ?_;conv=>whnf
 refine Am 4 3 A8 E ?_
 refine Jk 1 4 E E (by decide) ?_
 exact done E (.cons .tmp (.cons .tmp .nil)) [] (Acr n m dd) (fun _ h=>h) E E ⟨Y,⟨.inl E,E,.inl E,E,.inl E,E,.inl E,E,.inl E,E,Y⟩,E,E⟩
theorem Ae9 (n:Net) (hn:n.Fin) (hb:okB n (List.replicate n.links.length true) = false) :
  Sy.Spec Tryz.prog 18 [Ap n] [] (.tup [.val (.pointer none),Aa 2]) []:=Ab Γ hm 100 F18 Tryz.ntmps18 rfl fun F hF=>by
 have hls:=hn.links
 unfold Aq at hls
 have q1:=Ah3 n.links.length (by omega)
 have q2:=X8 n (List.replicate n.links.length true) hn hb
 generalize List.replicate n.links.length true = up at *
 conv=>whnf
 refine D9 7 Ad [true] E E ?_
 refine As 7 E ?_
 refine rg ?_;conv=>whnf
 refine Ag q1 F43 E E E E E ?_
 refine rg ?_;conv=>whnf
 refine Ag q2 F44 E E E E E ?_
 (refine rg ?_;(conv=>whnf);refine aT ?_;refine rg ?_;conv=>whnf)
 exact Ac E (.cons .tmp (.cons .tmp .nil)) E E
theorem Aoq (n:Net) (hn:n.Fin) (hb:okB n (List.replicate n.links.length true) = true) :
  Sy.Spec Tryz.prog 18 [Ap n] [] (.tup [.ptr 0 0,Aa 0]) (Df n (newT n) false):=Ab Γ hm 100 F18 Tryz.ntmps18 rfl fun F hF=>by
 have hls:=hn.links
 have hds:=hn.domains
 unfold Aq at hls hds
 have q1:=Ah3 n.links.length (by omega)
 have q2:=Aaa n (List.replicate n.links.length true) hn hb
 have hnt:=newT.eq_1 n
 generalize newT n = m at *
 generalize List.replicate n.links.length true = up at *
 conv=>whnf
 refine D9 7 Ad [true] E E ?_
 refine As 7 E ?_
 refine rg ?_;conv=>whnf
 refine Ag q1 F43 E E E E E ?_
 refine rg ?_;conv=>whnf
 refine Ag q2 F44 E E E E E ?_
 (refine rg ?_;(conv=>whnf);refine aF ?_;refine rg ?_;conv=>whnf)
 refine At (copyS n hn) F45 E E E (by kernel_rfl) E ?_
 refine rd (by kernel_rfl) ?_;conv=>whnf
 refine Bj (Bw Γ.toTy (d:=28) (n:=n.domains.length) (fun _:Unit=>.val (.slice none 0 0)) () E E E E E E E E (by omega) (by omega) E E E) (by kernel_rfl) E ?_
 refine rd (by kernel_rfl) ?_;conv=>whnf
 refine Bj (Bw Γ.toTy (d:=32) (n:=n.domains.length) (fun _:Unit=>.val (.slice none 0 0)) () E E E E E E E E (by omega) (by omega) E E E) (by kernel_rfl) E ?_
 refine rd (by kernel_rfl) ?_;conv=>whnf
 refine ⟨(by kernel_rfl),?_⟩
 refine Ue 28 (e':=J9) (l':=List.replicate n.domains.length []) E (by simp) (fun M w i h1 h2 v hv=>?_) ?_
 ·rw [List.getElem_replicate]
  simp only [RdD] at hv
  exact L9 hv
 refine Ue 32 (e':=Md) (l':=List.replicate n.domains.length []) E (by simp) (fun M w i h1 h2 v hv=>?_) ?_
 ·rw [List.getElem_replicate]
  simp only [RdD] at hv
  exact L9 hv
 refine Au 24 (M3 n up false) E (.cons (.refl _) (.cons (.refl _) (.cons (.refl _) (.cons (.refl _) (.cons .nil .nil))))) ?_
 refine rg ?_;conv=>whnf
 subst hnt
 exact done E (.cons .tmp (.cons .tmp .nil)) [(0,34),(1,24),(2,28),(3,32)] (Df n ⟨up,List.replicate n.domains.length [],List.replicate n.domains.length [],0,0,fun _=>0⟩ false) (fun _ h=>h) E E ⟨Y,⟨.inl E,E,.inl E,E,.inl E,E,.inl E,E,Y⟩,E,E⟩
theorem Aja (x:StepM) :
  Sy.Spec Tryz.prog 21 [.val (.pointer none),Dp x] [] (.tup [.sl 3 A8 [],Aa 1]) []:=Ab Γ hm 100 F21 Tryz.ntmps21 rfl fun F hF=>by
 conv=>whnf
 refine Ai (Of Γ.toTy E (.inl E) E E E (.inr ⟨E,E,E⟩)) E E ?_
 (refine rg ?_;(conv=>whnf);refine aT ?_;refine rg ?_;conv=>whnf)
 refine Am 4 3 A8 E ?_
 exact Ac E (.cons .tmp (.cons .tmp .nil)) E E
end Go.Sy.YtmelpejjondedaaGreat
namespace Go.Sy.YtmelpejjondedaaGreat
open Go.Proofs
theorem Vc (n:Net):∀ (a b:List StepM) (m:MacM),Cz n m (a ++ b) = ((Cz n (Cz n m a).1 b).1,(Cz n m a).2 ++ (Cz n (Cz n m a).1 b).2)
 | [],b,m=>by simp [Cz]
 | o :: a,b,m=>by
  rw [List.cons_append,Cz,Cz,Vc n a b]
  simp
theorem Zn (n:Net) (m:MacM) (l:List StepM) (j:Nat) (hj:j < l.length) :
  Cz n m (l.take (j + 1)) = ((doT n (Cz n m (l.take j)).1 l[j]).1,(Cz n m (l.take j)).2 ++ (doT n (Cz n m (l.take j)).1 l[j]).2):=by
 rw [List.take_succ_eq_append_getElem hj,Vc]
 simp [Cz]
def runF (n:Net) (s:MacM × Bool) (l:List StepM):MacM × Bool:=l.foldl (fun s x=>((doT n s.1 x).1,doD n s.1 s.2 x)) s
theorem Acw (n:Net):∀ (l:List StepM) (s:MacM × Bool),(runF n s l).1 = (Cz n s.1 l).1
 | [],s=>rfl
 | x :: l,s=>by
  have:=Acw n l ((doT n s.1 x).1,doD n s.1 s.2 x)
  rw [Cz]
  exact this
def runD (n:Net) (m:MacM) (d:Bool) (l:List StepM):Bool:=(runF n (m,d) l).2
theorem Aje (n:Net) (m:MacM) (d:Bool) (l:List StepM) (j:Nat) (hj:j < l.length) :
  runD n m d (l.take (j + 1)) = doD n (Cz n m (l.take j)).1 (runD n m d (l.take j)) l[j]:=by
 unfold runD
 rw [List.take_succ_eq_append_getElem hj]
 have:=Acw n (l.take j) (m,d)
 unfold runF at this ⊢
 rw [List.foldl_append]
 show doD n (List.foldl _ (m,d) (l.take j)).1 _ l[j] = _
 rw [this]
theorem doT_ok {n:Net} (hn:n.Fin) (hm1:n.Num) {m:MacM} {J D:Int} (h:MacOK n m J D) (hJ:0 ≤ J) (hD:0 ≤ D) (x:StepM):MacOK n (doT n m x).1 (J + 1) (D + 4294967298):=by
 unfold doT
 split
 ·exact (Agy hn h hJ hD _ _).mono (by omega) (by omega)
 split
 ·have hok:=Sz h x.domain x.at_
  unfold pickT
  split
  ·exact hok.1.mono (by omega) (by omega)
  ·have hb:=Ko hn (Hq n (takeM m x.domain x.at_).1.up) (tableL (takeM m x.domain x.at_).1 x.domain) x.domain (takeM m x.domain x.at_).2.1 (takeM m x.domain x.at_).1.now
   have h1:=Xj hok.1 hD x.domain (On (n:=n) (fw:=Hq n (takeM m x.domain x.at_).1.up) (dom:=x.domain) (now:=(takeM m x.domain x.at_).1.now) (K0 hok.1 x.domain) hok.2)
   have h2:=Iv hn (takeM m x.domain x.at_).2.1.origin (Te n (takeM m x.domain x.at_).1 x.domain (takeM m x.domain x.at_).2.1).2.1 h1 (by omega) (Oo hn hm1 hok.2)
   refine h2.mono (by omega) ?_
   unfold Te
   omega
 split
 ·exact (Sz h x.domain x.at_).1.mono (by omega) (by omega)
 split
 ·have h1:=h.now
  refine ⟨h.up,by unfold Mb; simp only [List.length_map]; exact h.tabs,h.ques,fun t ht=>?_,h.que,?_,?_,fun i=>?_⟩
  ·unfold Mb at ht
   obtain ⟨t0,ht0,rfl⟩:=List.mem_map.1 ht
   exact Apr (h.tab t0 ht0) _
  ·unfold Mb
   dsimp only
   omega
  ·have:=h.inj
   unfold Mb
   dsimp only
   omega
  ·have:=h.drp i
   unfold Mb
   dsimp only
   omega
 split
 ·split
  ·rename_i h2
   exact MacOK.mono (n:=n) (m:=⟨x.up,m.tables,m.queues,m.now,m.injected,m.drops⟩) ⟨h2,h.tabs,h.ques,h.tab,h.que,h.now,h.inj,h.drp⟩ (by omega) (by omega)
  ·exact h.mono (by omega) (by omega)
 ·exact h.mono (by omega) (by omega)
theorem Aby {n:Net} (hn:n.Fin) (m:MacM) (x:StepM):(doT n m x).2.length < 4294967296:=by
 unfold doT
 split
 ·show (0:Nat) < 4294967296; decide
 split
 ·unfold pickT
  split
  ·show (0:Nat) < 4294967296; decide
  ·have hb:=Ko hn (Hq n (takeM m x.domain x.at_).1.up) (tableL (takeM m x.domain x.at_).1 x.domain) x.domain (takeM m x.domain x.at_).2.1 (takeM m x.domain x.at_).1.now
   have h2:=Hl n (takeM m x.domain x.at_).2.1.origin (Te n (takeM m x.domain x.at_).1 x.domain (takeM m x.domain x.at_).2.1).2.1 (I5 (takeM m x.domain x.at_).1 x.domain (Te n (takeM m x.domain x.at_).1 x.domain (takeM m x.domain x.at_).2.1))
   unfold Te at h2 ⊢
   omega
 split
 ·show (0:Nat) < 4294967296; decide
 split
 ·show (0:Nat) < 4294967296; decide
 split
 ·show (0:Nat) < 4294967296; decide
 ·show (0:Nat) < 4294967296; decide
theorem Aaw {n:Net} (hn:n.Fin) (hm1:n.Num):∀ (l:List StepM) {m:MacM} {J D:Int},MacOK n m J D → 0 ≤ J → 0 ≤ D → MacOK n (Cz n m l).1 (J + l.length) (D + l.length * 4294967298)
 | [],m,J,D,h,_,_=>by
  rw [Cz]
  exact h.mono (by simp) (by simp)
 | x :: l,m,J,D,h,hJ,hD=>by
  rw [Cz]
  have:=Aaw hn hm1 l (doT_ok hn hm1 h hJ hD x) (by omega) (by omega)
  exact this.mono (by simp only [List.length_cons]; omega) (by simp only [List.length_cons]; omega)
theorem S3 {n:Net} (hn:n.Fin):∀ (l:List StepM) (m:MacM),(Cz n m l).2.length ≤ l.length * 4294967296
 | [],m=>by simp [Cz]
 | x :: l,m=>by
  rw [Cz]
  have h1:=S3 hn l (doT n m x).1
  have h2:=Aby hn m x
  simp only [List.length_append,List.length_cons]
  omega
theorem Ah9 (n:Net):MacOK n (newT n) 0 0:=by
 refine ⟨by simp [newT],by simp [newT],by simp [newT],fun t ht=>?_,fun l hl=>?_,by simp [newT],by simp [newT],fun i=>by simp [newT]⟩
 ·have:t = []:=(List.mem_replicate.1 ht).2
  rw [this]; exact Uu
 ·have:l = []:=(List.mem_replicate.1 hl).2
  rw [this]; exact Vm
def Aam (n:Net):List Bool:=List.replicate n.links.length true
def runT (n:Net) (l:List StepM):List SeenM × Int:=if okB n (Aam n) = true then ((Cz n (newT n) l).2,0) else ([],2)
structure ScriptOK (l:List StepM):Prop where
 few:l.length ≤ 60
 bytes:∀ x ∈ l,x.bytes.length ≤ 2000
attribute [local irreducible] Go.Sy.G Go.Sy.DR
set_option maxRecDepth 100000
set_option maxHeartbeats 4000000
def runO (n:Net) (m:MacM) (d:Bool) (l:List SeenM):Obs:=[(0,.box (Wx n 1 m.now m.injected m.drops)),(1,.box (M3 n m.up d)),(2,.row 1 J9 m.tables),(3,.row 1 Md m.queues),(1000,.row 3 A8 l)]
theorem Ahy (n:Net) (hn:n.Fin) (hm1:n.Num) (l:List StepM) (hl:ScriptOK l) :
  Sy.Spec Tryz.prog 13 [Ap n,.sl 6 Dp l] [] (.tup [.sl 3 A8 (runT n l).1,Aa (runT n l).2]) []:=Ab Γ hm 100 F13 Tryz.ntmps13 rfl fun F hF=>by
 have hres:=runT.eq_1 n l
 generalize runT n l = res at *
 have hlen:=hl.few
 cases hok:okB n (Aam n)
 ·rw [if_neg (by rw [hok]; simp)] at hres
  subst hres
  have q1:=Ae9 n hn hok
  conv=>whnf
  refine Ag q1 F18 E E E E E ?_
  (refine rg ?_;(conv=>whnf);refine aT ?_;refine rg ?_;conv=>whnf)
  refine Am 4 3 A8 E ?_
  exact Ac E (.cons .tmp (.cons .tmp .nil)) E E
 ·rw [if_pos hok] at hres
  subst hres
  have q1:=Aoq n hn hok
  have hn0:=Ah9 n
  generalize newT n = m0 at *
  conv=>whnf
  refine Ai (Ak [(0,800),(1,801),(2,802),(3,803)] E F18 q1 E Y E ⟨.inr E,.inr E,.inr E,.inr E,Y⟩) E E ?_
  (refine rg ?_;(conv=>whnf);refine aF ?_;refine rg ?_;conv=>whnf)
  refine Bs 8 1000 3 A8 E E ?_
  refine Av l.length (fun j=>[(6,.ptr 0 0),(8,.osl 1000),(21,.sl 6 Dp l),(22,Aa l.length),(23,Aa j)]) (fun j=>runO n (Cz n m0 (l.take j)).1 (runD n m0 false (l.take j)) (Cz n m0 (l.take j)).2) [(0,800),(1,801),(2,802),(3,803)] ⟨⟨E,E,E,E,E,E,E,E,E,E,Y⟩,⟨.inl E,E,.inl E,E,.inl E,E,.inl E,E,.inl E,E,Y⟩,E,E⟩ ?_
  intro j hj
  refine rg ?_;conv=>whnf
  refine ⟨fun h=>?_,fun h=>?_⟩
  ·have hlt:j < l.length:=by have:=of_decide_eq_true h; omega
   have hj0:((j:Nat):Int).toNat < l.length:=by simpa using hlt
   obtain ⟨x,hoo⟩:∃ x,l[j] = x:=⟨_,rfl⟩
   have e1:l[((j:Nat):Int).toNat]'hj0 = x:=hoo
   have hs:=Zn n m0 l j hlt
   have hds:=Aje n m0 false l j hlt
   rw [hoo] at hs hds
   have hxb:=hl.bytes x (by rw [← hoo]; exact List.getElem_mem hlt)
   have hjo:=Aaw hn hm1 (l.take j) hn0 (Int.le_refl _) (Int.le_refl _)
   have hjl:(l.take j).length = j:=by rw [List.length_take]; omega
   have hjf:=S3 hn (l.take j) m0
   rw [hjl] at hjo hjf
   have q5:=simDoS n hn hm1 (Cz n m0 (l.take j)).1 (runD n m0 false (l.take j)) _ _ hjo (by omega) (by omega) (by omega) x (by omega)
   have hfw:=Aby hn (Cz n m0 (l.take j)).1 x
   clear h
   refine rg ?_;conv=>whnf
   refine ⟨E,by omega,hj0,?_⟩
   rw [e1]
   conv=>whnf
   refine Ai (Ak [(4,30)] E F21 q5 E ⟨E,E,E,E,Y⟩ E ⟨.inl E,.inl E,.inl E,.inl E,.inr E,Y⟩) E E ?_
   refine rg ?_;conv=>whnf
   refine Ai (Af Γ.toTy 35 E E E E E (.row E) .sl (by simp) (by omega) (by omega)) E E ?_
   refine rg ?_;conv=>whnf
   refine ⟨by unfold I64; omega,?_⟩
   conv=>whnf
   have g1:(Cz n m0 (l.take (j + 1))).1 = (doT n (Cz n m0 (l.take j)).1 x).1:=by rw [hs]
   have g2:(Cz n m0 (l.take (j + 1))).2 = (Cz n m0 (l.take j)).2 ++ (doT n (Cz n m0 (l.take j)).1 x).2:=by rw [hs]
   refine Ar [(1,30),(1000,35)] hlt ⟨⟨E,E,E,E,E,E,E,E,E,E,Y⟩,?_,E,E⟩
   dsimp only
   rw [g1,g2,hds]
   exact ⟨.inl E,E,.inl E,E,.inl E,E,.inl E,E,.inl E,E,Y⟩
  ·have hjj:j = l.length:=by have:=of_decide_eq_false h; omega
   subst hjj
   rw [List.take_length]
   clear h
   refine rg ?_;conv=>whnf
   refine As 1000 E ?_
   exact Ac E (.cons .tmp (.cons .tmp .nil)) E E
end Go.Sy.YtmelpejjondedaaGreat
namespace Go.Sy.YtmelpejjondedaaGreat
open Go.Proofs
attribute [local irreducible] Go.Sy.G Go.Sy.DR
set_option maxRecDepth 100000
set_option maxHeartbeats 4000000
theorem Om (b:ByteArray):(b == b) = true:=by
 show (b.data == b.data) = true
 simp
theorem Q7 (l:List SeenM) (hl:l.length < 1000000000000):Sy.Spec Tryz.prog 16 [.sl 3 A8 l,.sl 3 A8 l] [] (Ad true) []:=Ab Γ hm 100 F16 Tryz.ntmps16 rfl fun F hF=>by
 conv=>whnf
 (refine ⟨fun h=>False.elim (by simp at h),fun _=>?_⟩;refine rg ?_;conv=>whnf)
 refine Av l.length (fun j=>[(0,.sl 3 A8 l),(1,.sl 3 A8 l),(5,Aa j)]) (fun _=>[]) [] ⟨⟨E,E,E,E,E,E,Y⟩,Y,E,E⟩ ?_
 intro j hj
 refine rg ?_;conv=>whnf
 refine ⟨fun h=>?_,fun h=>?_⟩
 ·have hlt:j < l.length:=by have:=of_decide_eq_true h; omega
  have hj0:((j:Nat):Int).toNat < l.length:=by simpa using hlt
  clear h
  refine rg ?_;conv=>whnf
  refine ⟨E,by omega,hj0,?_⟩
  conv=>whnf
  refine ⟨E,by omega,hj0,?_⟩
  conv=>whnf
  (refine ⟨fun h=>False.elim (by simp at h),fun _=>?_⟩;refine rd (by kernel_rfl) ?_;conv=>whnf)
  refine ⟨E,by omega,hj0,?_⟩
  conv=>whnf
  refine ⟨E,by omega,hj0,?_⟩
  conv=>whnf
  (refine ⟨fun h=>False.elim (by simp at h),fun _=>?_⟩;refine rd (by kernel_rfl) ?_;conv=>whnf)
  refine ⟨E,by omega,hj0,?_⟩
  conv=>whnf
  refine Bj (Dh Γ.toTy (bs:=l[((j:Nat):Int).toNat].bytes) E E E E E E E .sl) (by kernel_rfl) E ?_
  refine rd (by kernel_rfl) ?_;conv=>whnf
  refine ⟨E,by omega,hj0,?_⟩
  conv=>whnf
  refine Bj (Dh Γ.toTy (bs:=l[((j:Nat):Int).toNat].bytes) E E E E E E E .sl) (by kernel_rfl) E ?_
  refine rd (by kernel_rfl) ?_;conv=>whnf
  refine ⟨(by kernel_rfl),?_⟩
  conv=>whnf
  refine ⟨fun h=>False.elim (by simp [Om] at h),fun _=>?_⟩
  refine rg ?_;conv=>whnf
  refine ⟨by unfold I64; omega,?_⟩
  conv=>whnf
  exact Ar [] hlt ⟨⟨E,E,E,E,E,E,Y⟩,Y,E,E⟩
 ·refine rg ?_;conv=>whnf
  exact Ac E (.cons .tmp .nil) E E
theorem Ai7 (x:SeenM):Sy.Spec Tryz.prog 42 [A8 x,A8 x] [] (Ad true) []:=Ab Γ hm 100 F42 Tryz.ntmps42 rfl fun F hF=>by
 conv=>whnf
 (refine ⟨fun _=>?_,fun h=>False.elim (by simp at h)⟩;refine rg ?_;conv=>whnf)
 (refine ⟨fun _=>?_,fun h=>False.elim (by simp at h)⟩;refine rg ?_;conv=>whnf)
 refine Ai (Dh Γ.toTy (bs:=x.bytes) E E E E E E E .sl) E E ?_
 refine rg ?_;conv=>whnf
 refine Ai (Dh Γ.toTy (bs:=x.bytes) E E E E E E E .sl) E E ?_
 refine rg ?_;conv=>whnf
 refine Ac E (.cons .tmp .nil) ?_ E
 exact congrArg Ad (Om _).symm
theorem Ag9 (l:List SeenM) (hl:l.length < 1000000000000) :
  Sy.Spec Tryz.prog 41 [.sl 3 A8 l,.sl 3 A8 l,.clo (.func 42) [] []] [] (Ad true) []:=Ab Γ hm 100 F41 Tryz.ntmps41 rfl fun F hF=>by
 conv=>whnf
 (refine ⟨fun h=>False.elim (by simp at h),fun _=>?_⟩;refine rg ?_;conv=>whnf)
 refine Av l.length (fun j=>[(1,.sl 3 A8 l),(2,.clo (.func 42) [] []),(15,.sl 3 A8 l),(16,Aa l.length),(17,Aa j)]) (fun _=>[]) [] ⟨⟨E,E,E,E,E,E,E,E,E,E,Y⟩,Y,E,E⟩ ?_
 intro j hj
 refine rg ?_;conv=>whnf
 refine ⟨fun h=>?_,fun h=>?_⟩
 ·have hlt:j < l.length:=by have:=of_decide_eq_true h; omega
  have hj0:((j:Nat):Int).toNat < l.length:=by simpa using hlt
  obtain ⟨x,hoo⟩:∃ x,l[j] = x:=⟨_,rfl⟩
  have e1:l[((j:Nat):Int).toNat]'hj0 = x:=hoo
  clear h
  refine rg ?_;conv=>whnf
  refine ⟨E,by omega,hj0,?_⟩
  rw [e1]
  conv=>whnf
  refine ⟨E,by omega,hj0,?_⟩
  rw [e1]
  conv=>whnf
  refine Ei ⟨⟨_,_,F42⟩,Ai7 x⟩ E E E E E E ?_
  (refine rg ?_;(conv=>whnf);refine aF ?_;refine rg ?_;conv=>whnf)
  (skip)
  refine ⟨by unfold I64; omega,?_⟩
  conv=>whnf
  exact Ar [] hlt ⟨⟨E,E,E,E,E,E,E,E,E,E,Y⟩,Y,E,E⟩
 ·refine rg ?_;conv=>whnf
  exact Ac E (.cons .tmp .nil) E E
theorem Ww (l:List SeenM) (hl:l.length < 1000000000000):Sy.Spec Tryz.prog 17 [.sl 3 A8 l,.sl 3 A8 l] [] (Ad true) []:=Ab Γ hm 100 F17 Tryz.ntmps17 rfl fun F hF=>by
 conv=>whnf
 refine Ag (Ag9 l hl) F41 E E E E E ?_
 refine rg ?_;conv=>whnf
 exact Ac E (.cons .tmp .nil) E E
theorem Ur {n:Net} (hb:Ah n = true) {i:Nat} (hi:i < n.ports.length):n.ports[i].link = -1 ∨ 0 ≤ n.ports[i].link:=by
 have:=Anq hb hi
 simp only [El,Al,Bool.and_eq_true,Bool.or_eq_true,decide_eq_true_eq,beq_iff_eq] at this
 rcases this.2 with h1 | h1
 ·exact .inl h1
 ·exact .inr h1.1.1
theorem Ajg {n:Net} {fw:List Bool} {dom fr:Int} (h:roomB n fw dom fr = true):fr = -1 ∨ fr = -2 ∨ 0 ≤ fr:=by
 simp only [roomB,Bool.and_eq_true,Bool.or_eq_true,decide_eq_true_eq] at h
 rcases h.2 with (h | h) | h
 ·exact .inl h
 ·exact .inr (.inl h)
 ·exact .inr (.inr (By fr (inB_mem.1 h)).1)
theorem Afp (n:Net) (hn:n.Fin) (hm0:n.Num) (fw:List Bool) (t:List EntryM) (dom:Int) (q:QueuedM) (now:Int) (ht:TabOK t) (hq:QueuedOK q) :
  Sy.Spec Tryz.prog 81 [Ap n,.sl 1 Ad fw,.sl 3 An t,Aa dom,A1 q,Aa now] [] (.tup [.sl 3 An (bridgeT n fw t dom q now).1,.sl 9 Bh (bridgeT n fw t dom q now).2.1,Aa (bridgeT n fw t dom q now).2.2]) []:=Ab Γ hm 100 F81 Tryz.ntmps81 rfl fun F hF=>by
 have hres:=bridgeT.eq_1 n fw t dom q now
 generalize bridgeT n fw t dom q now = res at *
 have qf:=Ve n hn fw dom q.from_
 have qr:=Mv t ht.short ht.mac
 have htl:=ht.short
 unfold Aq at htl
 conv=>whnf
 refine Bf 6 8 (Ap n) E E E ?_
 refine Bf 10 7 (A1 q) E E E ?_
 refine rg ?_;conv=>whnf
 cases hroom:roomB n fw dom q.from_
 ·rw [if_pos (.inl hroom)] at hres
  subst hres
  rw [floodT,if_pos hroom] at qf
  refine Ag qf F143 E E E E E ?_
  (refine rg ?_;(conv=>whnf);refine aT ?_;refine rg ?_;(conv=>whnf);refine aT ?_;refine rg ?_;conv=>whnf)
  refine Am 13 9 Bh E ?_
  refine Am 12 3 An E ?_
  exact Ac E (.cons .tmp (.cons .tmp (.cons .tmp .nil))) E E
 rw [floodT,if_neg (by rw [hroom]; decide)] at qf
 refine Ag qf F143 E E E E E ?_
 (refine rg ?_;(conv=>whnf);refine aF ?_;refine rg ?_;conv=>whnf)
 refine Ag qr F20 E E E E E ?_
 cases htb:tableB t
 ·rw [if_pos (.inr htb)] at hres
  subst hres
  (refine rg ?_;(conv=>whnf);refine aT ?_;refine rg ?_;conv=>whnf)
  refine Am 13 9 Bh E ?_
  refine Am 12 3 An E ?_
  exact Ac E (.cons .tmp (.cons .tmp (.cons .tmp .nil))) E E
 rw [if_neg (by simp [hroom,htb])] at hres
 have hfrom:=Ajg hroom
 have hlq:=learnQ.eq_1 t q now
 have hu:=La ht hq now
 generalize learnQ t q now = u at *
 have hbn:Ah n = true:=by
  simp only [roomB,Bool.and_eq_true] at hroom
  exact hroom.1.2
 have hpd:Al dom n.domains.length = true:=by
  simp only [roomB,Bool.and_eq_true] at hroom
  exact hroom.1.1.1
 have hsr:=hq.frame.src
 have hpe:=hq.peer
 have hfr:=hq.from_
 have qro:=Aa0 n hn hm0 hbn dom hpd q.frame.dst
 generalize routerT n dom q.frame.dst = ro at *
 obtain ⟨irb,ok⟩:=ro
 dsimp only at hres qro
 have hs:=hq.frame.src
 have hd2:=hq.frame.dst
 have hfw:=Aim hu q.frame.dst
 have qd:=Aaz n hn fw u dom q.from_ q.frame.dst hu.short hfw (by omega)
 have hports:=T6 hbn fw u dom q.from_ q.frame.dst
 have hfew:=Sp hn fw u dom q.from_ q.frame.dst
 have qh:=Ajs n hn hm0 irb q.frame hq.frame
 (refine rg ?_;(conv=>whnf);refine aF ?_;refine rg ?_;conv=>whnf)
 refine Ai (Af Γ.toTy 54 E E E E E (.lit (e:=An) (l:=[]) E E) .sl (by simp) (by simp; omega) (by simp; omega)) E E ?_
 refine As 54 E ?_
 rcases hfrom with hf | hf | hf
 ·rw [if_neg (by omega),if_pos hf] at hlq
  have qle:=Vf t q.frame.src (-1 - q.peer) now ht.short ht.mac (by omega)
  rw [← hlq] at qle
  refine rg ?_;conv=>whnf
  (refine ⟨fun h=>False.elim (by simp at h; omega),fun _=>?_⟩;refine rg ?_;conv=>whnf)
  (refine ⟨fun _=>?_,fun h=>False.elim (by simp at h; omega)⟩;refine rg ?_;conv=>whnf)
  refine ⟨by unfold I64; omega,?_⟩
  conv=>whnf
  refine Ag qle F144 E E E E E ?_
  refine rg ?_;conv=>whnf
  refine Ag qro F145 E E E E E ?_
  cases ok
  rotate_left
  ·rw [if_pos rfl] at hres
   generalize hopT n irb q.frame = hp at *
   obtain ⟨to,g,e⟩:=hp
   dsimp only at hres qh
   (refine rg ?_;(conv=>whnf);refine aT ?_;refine rg ?_;conv=>whnf)
   refine Ag qh F146 E E E E E ?_
   refine rg ?_;conv=>whnf
   refine ⟨fun h=>?_,fun h=>?_⟩
   ·rw [if_pos (by simpa using h)] at hres
    subst hres
    refine rg ?_;conv=>whnf
    refine Am 13 9 Bh E ?_
    exact Ac E (.cons .tmp (.cons .tmp (.cons .tmp .nil))) E E
   ·rw [if_neg (by simpa using h)] at hres
    subst hres
    refine rg ?_;conv=>whnf
    refine ⟨(by kernel_rfl),?_⟩
    conv=>whnf
    refine Ow 105 [Bh ⟨4,0,to,[],g,0⟩] E (.cons (.agg (.cons (.refl _) (.cons (.refl _) (.cons (.refl _) (.cons .nil (.cons (.refl _) (.cons (.refl _) (.cons (.refl _) (.cons (.refl _) (.cons (.refl _) .nil)))))))))) .nil) E ?_
    refine D9 105 Bh [⟨4,0,to,[],g,0⟩] E E ?_
    refine As 105 E ?_
    exact Ac E (.cons .tmp (.cons .tmp (.cons .tmp .nil))) E E
  rw [if_neg (by decide)] at hres
  generalize decideT n fw u dom q.from_ q.frame.dst = dc at *
  obtain ⟨ports,peers,e0⟩:=dc
  dsimp only at hres qd hports hfew
  obtain ⟨hf1,hf2⟩:=hfew
  (refine rg ?_;(conv=>whnf);refine aF ?_;refine rg ?_;conv=>whnf)
  refine Ag qd F147 E E E E E ?_
  refine rg ?_;conv=>whnf
  refine Bs 27 1000 9 Bh E E ?_
  refine Av ports.length (fun j=>[(3,Aa dom),(6,.ref 8 (Ap n) 0),(10,.ref 7 (A1 q) 0),(18,.sl 3 An u),(24,.sl 1 Aa ports),(25,.sl 1 Aa peers),(27,.osl 1000),(28,Aa j)])
   (fun j=>[(1000,.row 9 Bh ((ports.take j).map (Er n dom q.frame)))]) [] ⟨⟨rfl,rfl,rfl,rfl,rfl,rfl,rfl,rfl,rfl,rfl,rfl,rfl,rfl,rfl,rfl,rfl,trivial⟩,⟨.inl rfl,rfl,trivial⟩,rfl,rfl⟩ ?_
  intro j hj
  refine rg ?_;conv=>whnf
  refine ⟨fun h=>?_,fun h=>?_⟩
  ·have hlt:j < ports.length:=by have:=of_decide_eq_true h; omega
   have hj0:((j:Nat):Int).toNat < ports.length:=by simpa using hlt
   obtain ⟨p,hp⟩:∃ p,ports[j] = p:=⟨_,rfl⟩
   have e1:ports[((j:Nat):Int).toNat]'hj0 = p:=hp
   have hs:(ports.take (j + 1)).map (Er n dom q.frame) = (ports.take j).map (Er n dom q.frame) ++ [Er n dom q.frame p]:=by
    rw [List.take_succ_eq_append_getElem hlt,List.map_append,hp]; rfl
   have hal:((ports.take j).map (Er n dom q.frame)).length = j:=by rw [List.length_map,List.length_take]; omega
   have hpi:=hports p (by rw [← hp]; exact List.getElem_mem hlt)
   have hpk:p.toNat < n.ports.length:=by omega
   have ql:=W6 n hn p dom q.frame hq.frame
   have hop:Er n dom q.frame p = Dy (Jf (if (nth n.ports p).link < 0 then 1 else 2) p 0) ((leaveT n p dom q.frame).1,(leaveT n p dom q.frame).2):=rfl
   rw [hop,Ao hpk] at hs
   clear hop
   obtain ⟨acc,hacc⟩:∃ acc,(ports.take j).map (Er n dom q.frame) = acc:=⟨_,rfl⟩
   rw [hacc] at hs hal ⊢
   have hli:=Ur hbn hpk
   obtain ⟨x,hx⟩:∃ x,n.ports[p.toNat]'hpk = x:=⟨_,rfl⟩
   rw [hx] at hs hli
   clear h
   refine rg ?_;conv=>whnf
   refine ⟨E,by omega,hj0,?_⟩
   rw [e1]
   conv=>whnf
   refine At ql F148 E E E (by kernel_rfl) E ?_
   refine rd (by kernel_rfl) ?_;conv=>whnf
   refine ⟨(by kernel_rfl),?_⟩
   conv=>whnf
   refine ⟨E,by omega,hj0,?_⟩
   rw [e1]
   conv=>whnf
   refine ⟨E,by omega,hj0,?_⟩
   rw [e1]
   conv=>whnf
   refine ⟨E,hpi.1,hpk,?_⟩
   rw [hx]
   conv=>whnf
   refine ⟨(by kernel_rfl),?_⟩
   conv=>whnf
   refine ⟨fun h=>?_,fun h=>?_⟩
   ·rw [if_neg (by have:¬ x.link = -1:=(by simpa using h); omega)] at hs
    refine rg ?_;conv=>whnf
    refine Ai (D6 [] [] E F149 (D2 2 p 0 (leaveT n p dom q.frame).1 (leaveT n p dom q.frame).2) (.cons (.agg (.cons (.refl _) (.cons (.refl _) (.cons (.refl _) (.cons .nil (.cons (.refl _) (.cons (.refl _) (.cons (.refl _) (.cons .nil (.cons (.refl _) .nil)))))))))) (.cons (.refl _) (.cons (.refl _) .nil))) Y E Y E) E E ?_
    refine rg ?_;conv=>whnf
    refine Ai (Af Γ.toTy 160 E E E E E (.row E) (.lit (e:=Bh) (l:=[Dy (Jf 2 p 0) ((leaveT n p dom q.frame).1,(leaveT n p dom q.frame).2)]) E E) (by simp) (by simp; omega) (by simp; omega)) E E ?_
    refine rg ?_;conv=>whnf
    refine ⟨by unfold I64; omega,?_⟩
    conv=>whnf
    exact Ar [(1000,160)] hlt ⟨⟨E,E,E,E,E,E,E,E,E,E,E,E,E,E,E,E,Y⟩,⟨.inl (congrArg (Ob.row 9 Bh) hs),E,Y⟩,E,E⟩
   ·rw [if_pos (by have:x.link = -1:=(by simpa using h); omega)] at hs
    refine rg ?_;conv=>whnf
    refine Ai (D6 [] [] E F149 (D2 1 p 0 (leaveT n p dom q.frame).1 (leaveT n p dom q.frame).2) (.cons (.agg (.cons (.refl _) (.cons (.refl _) (.cons (.refl _) (.cons .nil (.cons (.refl _) (.cons (.refl _) (.cons (.refl _) (.cons .nil (.cons (.refl _) .nil)))))))))) (.cons (.refl _) (.cons (.refl _) .nil))) Y E Y E) E E ?_
    refine rg ?_;conv=>whnf
    refine Ai (Af Γ.toTy 160 E E E E E (.row E) (.lit (e:=Bh) (l:=[Dy (Jf 1 p 0) ((leaveT n p dom q.frame).1,(leaveT n p dom q.frame).2)]) E E) (by simp) (by simp; omega) (by simp; omega)) E E ?_
    refine rg ?_;conv=>whnf
    refine ⟨by unfold I64; omega,?_⟩
    conv=>whnf
    exact Ar [(1000,160)] hlt ⟨⟨E,E,E,E,E,E,E,E,E,E,E,E,E,E,E,E,Y⟩,⟨.inl (congrArg (Ob.row 9 Bh) hs),E,Y⟩,E,E⟩
  have hjj:j = ports.length:=by have:=of_decide_eq_false h; omega
  subst hjj
  clear h
  rw [List.take_length]
  obtain ⟨acc0,hacc0⟩:∃ acc0,ports.map (Er n dom q.frame) = acc0:=⟨_,rfl⟩
  have hal0:acc0.length = ports.length:=by rw [← hacc0,List.length_map]
  rw [hacc0] at hres ⊢
  refine rg ?_;conv=>whnf
  refine Av peers.length (fun j=>[(3,Aa dom),(6,.ref 8 (Ap n) 0),(10,.ref 7 (A1 q) 0),(18,.sl 3 An u),(25,.sl 1 Aa peers),(27,.osl 1000),(32,Aa j)])
   (fun j=>[(1000,.row 9 Bh (acc0 ++ (peers.take j).map (Ho n dom q.frame)))]) [] ⟨⟨rfl,rfl,rfl,rfl,rfl,rfl,rfl,rfl,rfl,rfl,rfl,rfl,rfl,rfl,trivial⟩,⟨.inl (congrArg (Ob.row 9 Bh) (by simp)),rfl,trivial⟩,rfl,rfl⟩ ?_
  intro j hj
  refine rg ?_;conv=>whnf
  refine ⟨fun h=>?_,fun h=>?_⟩
  ·have hlt:j < peers.length:=by have:=of_decide_eq_true h; omega
   have hj0:((j:Nat):Int).toNat < peers.length:=by simpa using hlt
   obtain ⟨p,hp⟩:∃ p,peers[j] = p:=⟨_,rfl⟩
   have e1:peers[((j:Nat):Int).toNat]'hj0 = p:=hp
   have hs:acc0 ++ (peers.take (j + 1)).map (Ho n dom q.frame) = (acc0 ++ (peers.take j).map (Ho n dom q.frame)) ++ [Ho n dom q.frame p]:=by
    rw [List.take_succ_eq_append_getElem hlt,List.map_append,hp,List.append_assoc]; rfl
   have hal:(acc0 ++ (peers.take j).map (Ho n dom q.frame)).length ≤ ports.length + j:=by rw [List.length_append,List.length_map,List.length_take]; omega
   have ql:=Q9 n hn hm0 dom p q.frame hq.frame
   have hop:Ho n dom q.frame p = Dy (Jf 3 0 p) ((meshT n dom p q.frame).1,(meshT n dom p q.frame).2):=rfl
   rw [hop] at hs
   clear hop
   obtain ⟨acc,hacc⟩:∃ acc,acc0 ++ (peers.take j).map (Ho n dom q.frame) = acc:=⟨_,rfl⟩
   rw [hacc] at hs hal ⊢
   clear h
   refine rg ?_;conv=>whnf
   refine ⟨E,by omega,hj0,?_⟩
   rw [e1]
   conv=>whnf
   refine At ql F150 E E E (by kernel_rfl) E ?_
   refine rd (by kernel_rfl) ?_;conv=>whnf
   refine ⟨(by kernel_rfl),?_⟩
   conv=>whnf
   refine ⟨E,by omega,hj0,?_⟩
   rw [e1]
   conv=>whnf
   refine Ai (D6 [] [] E F149 (D2 3 0 p (meshT n dom p q.frame).1 (meshT n dom p q.frame).2) (.cons (.agg (.cons (.refl _) (.cons (.refl _) (.cons (.refl _) (.cons .nil (.cons (.refl _) (.cons (.refl _) (.cons (.refl _) (.cons .nil (.cons (.refl _) .nil)))))))))) (.cons (.refl _) (.cons (.refl _) .nil))) Y E Y E) E E ?_
   refine rg ?_;conv=>whnf
   refine Ai (Af Γ.toTy 189 E E E E E (.row E) (.lit (e:=Bh) (l:=[Dy (Jf 3 0 p) ((meshT n dom p q.frame).1,(meshT n dom p q.frame).2)]) E E) (by simp) (by simp; omega) (by simp; omega)) E E ?_
   refine rg ?_;conv=>whnf
   refine ⟨by unfold I64; omega,?_⟩
   conv=>whnf
   exact Ar [(1000,189)] hlt ⟨⟨E,E,E,E,E,E,E,E,E,E,E,E,E,E,Y⟩,⟨.inl (congrArg (Ob.row 9 Bh) hs),E,Y⟩,E,E⟩
  have hjj:j = peers.length:=by have:=of_decide_eq_false h; omega
  subst hjj
  clear h
  rw [List.take_length]
  subst hres
  refine rg ?_;conv=>whnf
  refine As 1000 E ?_
  exact Ac E (.cons .tmp (.cons .tmp (.cons .tmp .nil))) E E
 ·rw [if_pos hf] at hlq
  subst hlq
  refine rg ?_;conv=>whnf
  (refine ⟨fun h=>False.elim (by simp at h; omega),fun _=>?_⟩;refine rg ?_;conv=>whnf)
  (refine ⟨fun h=>False.elim (by simp at h; omega),fun _=>?_⟩;refine rg ?_;conv=>whnf)
  refine Ag qro F145 E E E E E ?_
  cases ok
  rotate_left
  ·rw [if_pos rfl] at hres
   generalize hopT n irb q.frame = hp at *
   obtain ⟨to,g,e⟩:=hp
   dsimp only at hres qh
   (refine rg ?_;(conv=>whnf);refine aT ?_;refine rg ?_;conv=>whnf)
   refine Ag qh F146 E E E E E ?_
   refine rg ?_;conv=>whnf
   refine ⟨fun h=>?_,fun h=>?_⟩
   ·rw [if_pos (by simpa using h)] at hres
    subst hres
    refine rg ?_;conv=>whnf
    refine Am 13 9 Bh E ?_
    exact Ac E (.cons .tmp (.cons .tmp (.cons .tmp .nil))) E E
   ·rw [if_neg (by simpa using h)] at hres
    subst hres
    refine rg ?_;conv=>whnf
    refine ⟨(by kernel_rfl),?_⟩
    conv=>whnf
    refine Ow 105 [Bh ⟨4,0,to,[],g,0⟩] E (.cons (.agg (.cons (.refl _) (.cons (.refl _) (.cons (.refl _) (.cons .nil (.cons (.refl _) (.cons (.refl _) (.cons (.refl _) (.cons (.refl _) (.cons (.refl _) .nil)))))))))) .nil) E ?_
    refine D9 105 Bh [⟨4,0,to,[],g,0⟩] E E ?_
    refine As 105 E ?_
    exact Ac E (.cons .tmp (.cons .tmp (.cons .tmp .nil))) E E
  rw [if_neg (by decide)] at hres
  generalize decideT n fw u dom q.from_ q.frame.dst = dc at *
  obtain ⟨ports,peers,e0⟩:=dc
  dsimp only at hres qd hports hfew
  obtain ⟨hf1,hf2⟩:=hfew
  (refine rg ?_;(conv=>whnf);refine aF ?_;refine rg ?_;conv=>whnf)
  refine Ag qd F147 E E E E E ?_
  refine rg ?_;conv=>whnf
  refine Bs 27 1000 9 Bh E E ?_
  refine Av ports.length (fun j=>[(3,Aa dom),(6,.ref 8 (Ap n) 0),(10,.ref 7 (A1 q) 0),(18,.sl 3 An u),(24,.sl 1 Aa ports),(25,.sl 1 Aa peers),(27,.osl 1000),(28,Aa j)])
   (fun j=>[(1000,.row 9 Bh ((ports.take j).map (Er n dom q.frame)))]) [] ⟨⟨rfl,rfl,rfl,rfl,rfl,rfl,rfl,rfl,rfl,rfl,rfl,rfl,rfl,rfl,rfl,rfl,trivial⟩,⟨.inl rfl,rfl,trivial⟩,rfl,rfl⟩ ?_
  intro j hj
  refine rg ?_;conv=>whnf
  refine ⟨fun h=>?_,fun h=>?_⟩
  ·have hlt:j < ports.length:=by have:=of_decide_eq_true h; omega
   have hj0:((j:Nat):Int).toNat < ports.length:=by simpa using hlt
   obtain ⟨p,hp⟩:∃ p,ports[j] = p:=⟨_,rfl⟩
   have e1:ports[((j:Nat):Int).toNat]'hj0 = p:=hp
   have hs:(ports.take (j + 1)).map (Er n dom q.frame) = (ports.take j).map (Er n dom q.frame) ++ [Er n dom q.frame p]:=by
    rw [List.take_succ_eq_append_getElem hlt,List.map_append,hp]; rfl
   have hal:((ports.take j).map (Er n dom q.frame)).length = j:=by rw [List.length_map,List.length_take]; omega
   have hpi:=hports p (by rw [← hp]; exact List.getElem_mem hlt)
   have hpk:p.toNat < n.ports.length:=by omega
   have ql:=W6 n hn p dom q.frame hq.frame
   have hop:Er n dom q.frame p = Dy (Jf (if (nth n.ports p).link < 0 then 1 else 2) p 0) ((leaveT n p dom q.frame).1,(leaveT n p dom q.frame).2):=rfl
   rw [hop,Ao hpk] at hs
   clear hop
   obtain ⟨acc,hacc⟩:∃ acc,(ports.take j).map (Er n dom q.frame) = acc:=⟨_,rfl⟩
   rw [hacc] at hs hal ⊢
   have hli:=Ur hbn hpk
   obtain ⟨x,hx⟩:∃ x,n.ports[p.toNat]'hpk = x:=⟨_,rfl⟩
   rw [hx] at hs hli
   clear h
   refine rg ?_;conv=>whnf
   refine ⟨E,by omega,hj0,?_⟩
   rw [e1]
   conv=>whnf
   refine At ql F148 E E E (by kernel_rfl) E ?_
   refine rd (by kernel_rfl) ?_;conv=>whnf
   refine ⟨(by kernel_rfl),?_⟩
   conv=>whnf
   refine ⟨E,by omega,hj0,?_⟩
   rw [e1]
   conv=>whnf
   refine ⟨E,by omega,hj0,?_⟩
   rw [e1]
   conv=>whnf
   refine ⟨E,hpi.1,hpk,?_⟩
   rw [hx]
   conv=>whnf
   refine ⟨(by kernel_rfl),?_⟩
   conv=>whnf
   refine ⟨fun h=>?_,fun h=>?_⟩
   ·rw [if_neg (by have:¬ x.link = -1:=(by simpa using h); omega)] at hs
    refine rg ?_;conv=>whnf
    refine Ai (D6 [] [] E F149 (D2 2 p 0 (leaveT n p dom q.frame).1 (leaveT n p dom q.frame).2) (.cons (.agg (.cons (.refl _) (.cons (.refl _) (.cons (.refl _) (.cons .nil (.cons (.refl _) (.cons (.refl _) (.cons (.refl _) (.cons .nil (.cons (.refl _) .nil)))))))))) (.cons (.refl _) (.cons (.refl _) .nil))) Y E Y E) E E ?_
    refine rg ?_;conv=>whnf
    refine Ai (Af Γ.toTy 160 E E E E E (.row E) (.lit (e:=Bh) (l:=[Dy (Jf 2 p 0) ((leaveT n p dom q.frame).1,(leaveT n p dom q.frame).2)]) E E) (by simp) (by simp; omega) (by simp; omega)) E E ?_
    refine rg ?_;conv=>whnf
    refine ⟨by unfold I64; omega,?_⟩
    conv=>whnf
    exact Ar [(1000,160)] hlt ⟨⟨E,E,E,E,E,E,E,E,E,E,E,E,E,E,E,E,Y⟩,⟨.inl (congrArg (Ob.row 9 Bh) hs),E,Y⟩,E,E⟩
   ·rw [if_pos (by have:x.link = -1:=(by simpa using h); omega)] at hs
    refine rg ?_;conv=>whnf
    refine Ai (D6 [] [] E F149 (D2 1 p 0 (leaveT n p dom q.frame).1 (leaveT n p dom q.frame).2) (.cons (.agg (.cons (.refl _) (.cons (.refl _) (.cons (.refl _) (.cons .nil (.cons (.refl _) (.cons (.refl _) (.cons (.refl _) (.cons .nil (.cons (.refl _) .nil)))))))))) (.cons (.refl _) (.cons (.refl _) .nil))) Y E Y E) E E ?_
    refine rg ?_;conv=>whnf
    refine Ai (Af Γ.toTy 160 E E E E E (.row E) (.lit (e:=Bh) (l:=[Dy (Jf 1 p 0) ((leaveT n p dom q.frame).1,(leaveT n p dom q.frame).2)]) E E) (by simp) (by simp; omega) (by simp; omega)) E E ?_
    refine rg ?_;conv=>whnf
    refine ⟨by unfold I64; omega,?_⟩
    conv=>whnf
    exact Ar [(1000,160)] hlt ⟨⟨E,E,E,E,E,E,E,E,E,E,E,E,E,E,E,E,Y⟩,⟨.inl (congrArg (Ob.row 9 Bh) hs),E,Y⟩,E,E⟩
  have hjj:j = ports.length:=by have:=of_decide_eq_false h; omega
  subst hjj
  clear h
  rw [List.take_length]
  obtain ⟨acc0,hacc0⟩:∃ acc0,ports.map (Er n dom q.frame) = acc0:=⟨_,rfl⟩
  have hal0:acc0.length = ports.length:=by rw [← hacc0,List.length_map]
  rw [hacc0] at hres ⊢
  refine rg ?_;conv=>whnf
  refine Av peers.length (fun j=>[(3,Aa dom),(6,.ref 8 (Ap n) 0),(10,.ref 7 (A1 q) 0),(18,.sl 3 An u),(25,.sl 1 Aa peers),(27,.osl 1000),(32,Aa j)])
   (fun j=>[(1000,.row 9 Bh (acc0 ++ (peers.take j).map (Ho n dom q.frame)))]) [] ⟨⟨rfl,rfl,rfl,rfl,rfl,rfl,rfl,rfl,rfl,rfl,rfl,rfl,rfl,rfl,trivial⟩,⟨.inl (congrArg (Ob.row 9 Bh) (by simp)),rfl,trivial⟩,rfl,rfl⟩ ?_
  intro j hj
  refine rg ?_;conv=>whnf
  refine ⟨fun h=>?_,fun h=>?_⟩
  ·have hlt:j < peers.length:=by have:=of_decide_eq_true h; omega
   have hj0:((j:Nat):Int).toNat < peers.length:=by simpa using hlt
   obtain ⟨p,hp⟩:∃ p,peers[j] = p:=⟨_,rfl⟩
   have e1:peers[((j:Nat):Int).toNat]'hj0 = p:=hp
   have hs:acc0 ++ (peers.take (j + 1)).map (Ho n dom q.frame) = (acc0 ++ (peers.take j).map (Ho n dom q.frame)) ++ [Ho n dom q.frame p]:=by
    rw [List.take_succ_eq_append_getElem hlt,List.map_append,hp,List.append_assoc]; rfl
   have hal:(acc0 ++ (peers.take j).map (Ho n dom q.frame)).length ≤ ports.length + j:=by rw [List.length_append,List.length_map,List.length_take]; omega
   have ql:=Q9 n hn hm0 dom p q.frame hq.frame
   have hop:Ho n dom q.frame p = Dy (Jf 3 0 p) ((meshT n dom p q.frame).1,(meshT n dom p q.frame).2):=rfl
   rw [hop] at hs
   clear hop
   obtain ⟨acc,hacc⟩:∃ acc,acc0 ++ (peers.take j).map (Ho n dom q.frame) = acc:=⟨_,rfl⟩
   rw [hacc] at hs hal ⊢
   clear h
   refine rg ?_;conv=>whnf
   refine ⟨E,by omega,hj0,?_⟩
   rw [e1]
   conv=>whnf
   refine At ql F150 E E E (by kernel_rfl) E ?_
   refine rd (by kernel_rfl) ?_;conv=>whnf
   refine ⟨(by kernel_rfl),?_⟩
   conv=>whnf
   refine ⟨E,by omega,hj0,?_⟩
   rw [e1]
   conv=>whnf
   refine Ai (D6 [] [] E F149 (D2 3 0 p (meshT n dom p q.frame).1 (meshT n dom p q.frame).2) (.cons (.agg (.cons (.refl _) (.cons (.refl _) (.cons (.refl _) (.cons .nil (.cons (.refl _) (.cons (.refl _) (.cons (.refl _) (.cons .nil (.cons (.refl _) .nil)))))))))) (.cons (.refl _) (.cons (.refl _) .nil))) Y E Y E) E E ?_
   refine rg ?_;conv=>whnf
   refine Ai (Af Γ.toTy 189 E E E E E (.row E) (.lit (e:=Bh) (l:=[Dy (Jf 3 0 p) ((meshT n dom p q.frame).1,(meshT n dom p q.frame).2)]) E E) (by simp) (by simp; omega) (by simp; omega)) E E ?_
   refine rg ?_;conv=>whnf
   refine ⟨by unfold I64; omega,?_⟩
   conv=>whnf
   exact Ar [(1000,189)] hlt ⟨⟨E,E,E,E,E,E,E,E,E,E,E,E,E,E,Y⟩,⟨.inl (congrArg (Ob.row 9 Bh) hs),E,Y⟩,E,E⟩
  have hjj:j = peers.length:=by have:=of_decide_eq_false h; omega
  subst hjj
  clear h
  rw [List.take_length]
  subst hres
  refine rg ?_;conv=>whnf
  refine As 1000 E ?_
  exact Ac E (.cons .tmp (.cons .tmp (.cons .tmp .nil))) E E
 ·rw [if_neg (by omega),if_neg (by omega)] at hlq
  have qle:=Vf t q.frame.src q.from_ now ht.short ht.mac (by omega)
  rw [← hlq] at qle
  refine rg ?_;conv=>whnf
  (refine ⟨fun _=>?_,fun h=>False.elim (by simp at h; omega)⟩;refine rg ?_;conv=>whnf)
  refine Ag qle F144 E E E E E ?_
  refine rg ?_;conv=>whnf
  (refine ⟨fun h=>False.elim (by simp at h; omega),fun _=>?_⟩;refine rg ?_;conv=>whnf)
  refine Ag qro F145 E E E E E ?_
  cases ok
  rotate_left
  ·rw [if_pos rfl] at hres
   generalize hopT n irb q.frame = hp at *
   obtain ⟨to,g,e⟩:=hp
   dsimp only at hres qh
   (refine rg ?_;(conv=>whnf);refine aT ?_;refine rg ?_;conv=>whnf)
   refine Ag qh F146 E E E E E ?_
   refine rg ?_;conv=>whnf
   refine ⟨fun h=>?_,fun h=>?_⟩
   ·rw [if_pos (by simpa using h)] at hres
    subst hres
    refine rg ?_;conv=>whnf
    refine Am 13 9 Bh E ?_
    exact Ac E (.cons .tmp (.cons .tmp (.cons .tmp .nil))) E E
   ·rw [if_neg (by simpa using h)] at hres
    subst hres
    refine rg ?_;conv=>whnf
    refine ⟨(by kernel_rfl),?_⟩
    conv=>whnf
    refine Ow 105 [Bh ⟨4,0,to,[],g,0⟩] E (.cons (.agg (.cons (.refl _) (.cons (.refl _) (.cons (.refl _) (.cons .nil (.cons (.refl _) (.cons (.refl _) (.cons (.refl _) (.cons (.refl _) (.cons (.refl _) .nil)))))))))) .nil) E ?_
    refine D9 105 Bh [⟨4,0,to,[],g,0⟩] E E ?_
    refine As 105 E ?_
    exact Ac E (.cons .tmp (.cons .tmp (.cons .tmp .nil))) E E
  rw [if_neg (by decide)] at hres
  generalize decideT n fw u dom q.from_ q.frame.dst = dc at *
  obtain ⟨ports,peers,e0⟩:=dc
  dsimp only at hres qd hports hfew
  obtain ⟨hf1,hf2⟩:=hfew
  (refine rg ?_;(conv=>whnf);refine aF ?_;refine rg ?_;conv=>whnf)
  refine Ag qd F147 E E E E E ?_
  refine rg ?_;conv=>whnf
  refine Bs 27 1000 9 Bh E E ?_
  refine Av ports.length (fun j=>[(3,Aa dom),(6,.ref 8 (Ap n) 0),(10,.ref 7 (A1 q) 0),(18,.sl 3 An u),(24,.sl 1 Aa ports),(25,.sl 1 Aa peers),(27,.osl 1000),(28,Aa j)])
   (fun j=>[(1000,.row 9 Bh ((ports.take j).map (Er n dom q.frame)))]) [] ⟨⟨rfl,rfl,rfl,rfl,rfl,rfl,rfl,rfl,rfl,rfl,rfl,rfl,rfl,rfl,rfl,rfl,trivial⟩,⟨.inl rfl,rfl,trivial⟩,rfl,rfl⟩ ?_
  intro j hj
  refine rg ?_;conv=>whnf
  refine ⟨fun h=>?_,fun h=>?_⟩
  ·have hlt:j < ports.length:=by have:=of_decide_eq_true h; omega
   have hj0:((j:Nat):Int).toNat < ports.length:=by simpa using hlt
   obtain ⟨p,hp⟩:∃ p,ports[j] = p:=⟨_,rfl⟩
   have e1:ports[((j:Nat):Int).toNat]'hj0 = p:=hp
   have hs:(ports.take (j + 1)).map (Er n dom q.frame) = (ports.take j).map (Er n dom q.frame) ++ [Er n dom q.frame p]:=by
    rw [List.take_succ_eq_append_getElem hlt,List.map_append,hp]; rfl
   have hal:((ports.take j).map (Er n dom q.frame)).length = j:=by rw [List.length_map,List.length_take]; omega
   have hpi:=hports p (by rw [← hp]; exact List.getElem_mem hlt)
   have hpk:p.toNat < n.ports.length:=by omega
   have ql:=W6 n hn p dom q.frame hq.frame
   have hop:Er n dom q.frame p = Dy (Jf (if (nth n.ports p).link < 0 then 1 else 2) p 0) ((leaveT n p dom q.frame).1,(leaveT n p dom q.frame).2):=rfl
   rw [hop,Ao hpk] at hs
   clear hop
   obtain ⟨acc,hacc⟩:∃ acc,(ports.take j).map (Er n dom q.frame) = acc:=⟨_,rfl⟩
   rw [hacc] at hs hal ⊢
   have hli:=Ur hbn hpk
   obtain ⟨x,hx⟩:∃ x,n.ports[p.toNat]'hpk = x:=⟨_,rfl⟩
   rw [hx] at hs hli
   clear h
   refine rg ?_;conv=>whnf
   refine ⟨E,by omega,hj0,?_⟩
   rw [e1]
   conv=>whnf
   refine At ql F148 E E E (by kernel_rfl) E ?_
   refine rd (by kernel_rfl) ?_;conv=>whnf
   refine ⟨(by kernel_rfl),?_⟩
   conv=>whnf
   refine ⟨E,by omega,hj0,?_⟩
   rw [e1]
   conv=>whnf
   refine ⟨E,by omega,hj0,?_⟩
   rw [e1]
   conv=>whnf
   refine ⟨E,hpi.1,hpk,?_⟩
   rw [hx]
   conv=>whnf
   refine ⟨(by kernel_rfl),?_⟩
   conv=>whnf
   refine ⟨fun h=>?_,fun h=>?_⟩
   ·rw [if_neg (by have:¬ x.link = -1:=(by simpa using h); omega)] at hs
    refine rg ?_;conv=>whnf
    refine Ai (D6 [] [] E F149 (D2 2 p 0 (leaveT n p dom q.frame).1 (leaveT n p dom q.frame).2) (.cons (.agg (.cons (.refl _) (.cons (.refl _) (.cons (.refl _) (.cons .nil (.cons (.refl _) (.cons (.refl _) (.cons (.refl _) (.cons .nil (.cons (.refl _) .nil)))))))))) (.cons (.refl _) (.cons (.refl _) .nil))) Y E Y E) E E ?_
    refine rg ?_;conv=>whnf
    refine Ai (Af Γ.toTy 160 E E E E E (.row E) (.lit (e:=Bh) (l:=[Dy (Jf 2 p 0) ((leaveT n p dom q.frame).1,(leaveT n p dom q.frame).2)]) E E) (by simp) (by simp; omega) (by simp; omega)) E E ?_
    refine rg ?_;conv=>whnf
    refine ⟨by unfold I64; omega,?_⟩
    conv=>whnf
    exact Ar [(1000,160)] hlt ⟨⟨E,E,E,E,E,E,E,E,E,E,E,E,E,E,E,E,Y⟩,⟨.inl (congrArg (Ob.row 9 Bh) hs),E,Y⟩,E,E⟩
   ·rw [if_pos (by have:x.link = -1:=(by simpa using h); omega)] at hs
    refine rg ?_;conv=>whnf
    refine Ai (D6 [] [] E F149 (D2 1 p 0 (leaveT n p dom q.frame).1 (leaveT n p dom q.frame).2) (.cons (.agg (.cons (.refl _) (.cons (.refl _) (.cons (.refl _) (.cons .nil (.cons (.refl _) (.cons (.refl _) (.cons (.refl _) (.cons .nil (.cons (.refl _) .nil)))))))))) (.cons (.refl _) (.cons (.refl _) .nil))) Y E Y E) E E ?_
    refine rg ?_;conv=>whnf
    refine Ai (Af Γ.toTy 160 E E E E E (.row E) (.lit (e:=Bh) (l:=[Dy (Jf 1 p 0) ((leaveT n p dom q.frame).1,(leaveT n p dom q.frame).2)]) E E) (by simp) (by simp; omega) (by simp; omega)) E E ?_
    refine rg ?_;conv=>whnf
    refine ⟨by unfold I64; omega,?_⟩
    conv=>whnf
    exact Ar [(1000,160)] hlt ⟨⟨E,E,E,E,E,E,E,E,E,E,E,E,E,E,E,E,Y⟩,⟨.inl (congrArg (Ob.row 9 Bh) hs),E,Y⟩,E,E⟩
  have hjj:j = ports.length:=by have:=of_decide_eq_false h; omega
  subst hjj
  clear h
  rw [List.take_length]
  obtain ⟨acc0,hacc0⟩:∃ acc0,ports.map (Er n dom q.frame) = acc0:=⟨_,rfl⟩
  have hal0:acc0.length = ports.length:=by rw [← hacc0,List.length_map]
  rw [hacc0] at hres ⊢
  refine rg ?_;conv=>whnf
  refine Av peers.length (fun j=>[(3,Aa dom),(6,.ref 8 (Ap n) 0),(10,.ref 7 (A1 q) 0),(18,.sl 3 An u),(25,.sl 1 Aa peers),(27,.osl 1000),(32,Aa j)])
   (fun j=>[(1000,.row 9 Bh (acc0 ++ (peers.take j).map (Ho n dom q.frame)))]) [] ⟨⟨rfl,rfl,rfl,rfl,rfl,rfl,rfl,rfl,rfl,rfl,rfl,rfl,rfl,rfl,trivial⟩,⟨.inl (congrArg (Ob.row 9 Bh) (by simp)),rfl,trivial⟩,rfl,rfl⟩ ?_
  intro j hj
  refine rg ?_;conv=>whnf
  refine ⟨fun h=>?_,fun h=>?_⟩
  ·have hlt:j < peers.length:=by have:=of_decide_eq_true h; omega
   have hj0:((j:Nat):Int).toNat < peers.length:=by simpa using hlt
   obtain ⟨p,hp⟩:∃ p,peers[j] = p:=⟨_,rfl⟩
   have e1:peers[((j:Nat):Int).toNat]'hj0 = p:=hp
   have hs:acc0 ++ (peers.take (j + 1)).map (Ho n dom q.frame) = (acc0 ++ (peers.take j).map (Ho n dom q.frame)) ++ [Ho n dom q.frame p]:=by
    rw [List.take_succ_eq_append_getElem hlt,List.map_append,hp,List.append_assoc]; rfl
   have hal:(acc0 ++ (peers.take j).map (Ho n dom q.frame)).length ≤ ports.length + j:=by rw [List.length_append,List.length_map,List.length_take]; omega
   have ql:=Q9 n hn hm0 dom p q.frame hq.frame
   have hop:Ho n dom q.frame p = Dy (Jf 3 0 p) ((meshT n dom p q.frame).1,(meshT n dom p q.frame).2):=rfl
   rw [hop] at hs
   clear hop
   obtain ⟨acc,hacc⟩:∃ acc,acc0 ++ (peers.take j).map (Ho n dom q.frame) = acc:=⟨_,rfl⟩
   rw [hacc] at hs hal ⊢
   clear h
   refine rg ?_;conv=>whnf
   refine ⟨E,by omega,hj0,?_⟩
   rw [e1]
   conv=>whnf
   refine At ql F150 E E E (by kernel_rfl) E ?_
   refine rd (by kernel_rfl) ?_;conv=>whnf
   refine ⟨(by kernel_rfl),?_⟩
   conv=>whnf
   refine ⟨E,by omega,hj0,?_⟩
   rw [e1]
   conv=>whnf
   refine Ai (D6 [] [] E F149 (D2 3 0 p (meshT n dom p q.frame).1 (meshT n dom p q.frame).2) (.cons (.agg (.cons (.refl _) (.cons (.refl _) (.cons (.refl _) (.cons .nil (.cons (.refl _) (.cons (.refl _) (.cons (.refl _) (.cons .nil (.cons (.refl _) .nil)))))))))) (.cons (.refl _) (.cons (.refl _) .nil))) Y E Y E) E E ?_
   refine rg ?_;conv=>whnf
   refine Ai (Af Γ.toTy 189 E E E E E (.row E) (.lit (e:=Bh) (l:=[Dy (Jf 3 0 p) ((meshT n dom p q.frame).1,(meshT n dom p q.frame).2)]) E E) (by simp) (by simp; omega) (by simp; omega)) E E ?_
   refine rg ?_;conv=>whnf
   refine ⟨by unfold I64; omega,?_⟩
   conv=>whnf
   exact Ar [(1000,189)] hlt ⟨⟨E,E,E,E,E,E,E,E,E,E,E,E,E,E,Y⟩,⟨.inl (congrArg (Ob.row 9 Bh) hs),E,Y⟩,E,E⟩
  have hjj:j = peers.length:=by have:=of_decide_eq_false h; omega
  subst hjj
  clear h
  rw [List.take_length]
  subst hres
  refine rg ?_;conv=>whnf
  refine As 1000 E ?_
  exact Ac E (.cons .tmp (.cons .tmp (.cons .tmp .nil))) E E
end Go.Sy.YtmelpejjondedaaGreat
namespace Go.Sy
theorem K1:∀ (l:List SV) (off:Nat) (z:SV),setAt l off [z] = l.set off z
 | [],0,_=>rfl
 | [],_ + 1,_=>rfl
 | _ :: l,0,z=>by
  show z :: setAt l 0 [] = z :: l
  cases l <;> rfl
 | x :: l,n + 1,z=>by
  show x :: setAt l n [z] = x :: l.set n z
  rw [K1 l n z]
theorem We {b:Bool} {A B:Prop} (h:A):b = true → (match b with | true=>A | false=>B):=by
 intro hb
 subst hb
 exact h
theorem Ah8 {o:Option SV} {y:SV} {f:SV → Prop} {B:Prop} (h:f y):o = some y → (match o with | some y=>f y | none=>B):=by
 intro hb
 subst hb
 exact h
theorem Ail {l l':List SV} {K:List SV → Prop} (h:l = l') (hk:fl l' K):fl l K:=by
 rw [h]; exact hk
end Go.Sy
namespace Go.Sy.YtmelpejjondedaaGreat
open Go.Proofs
attribute [local irreducible] Go.Sy.G Go.Sy.DR
set_option maxRecDepth 100000
set_option maxHeartbeats 4000000
def Ix (n:Net) (up:List Bool) (now inj:Int) (d:Nat → Int):List SV :=
 [.sl 5 Br n.devices,.sl 7 Bi n.ports,.sl 3 Co n.links,.sl 6 Ay n.domains,.sl 4 Bp n.statics,.sl 4 B5 n.floods,.sl 5 Cy n.vrfs,.sl 5 Dl n.irbs,.sl 1 Ad up,.osl 902,.osl 903,.val (.int .i64 now),.val (.int .i64 inj),
 .val (.int .i64 (d 0)),.val (.int .i64 (d 1)),.val (.int .i64 (d 2)),.val (.int .i64 (d 3)),.val (.int .i64 (d 4)),.val (.int .i64 (d 5)),.val (.int .i64 (d 6)),.val (.int .i64 (d 7)),.val (.int .i64 (d 8)),.val (.int .i64 (d 9)),.val (.int .i64 (d 10)),.val (.int .i64 (d 11)),.val (.int .i64 (d 12)),.val (.int .i64 (d 13)),.val (.int .i64 (d 14)),.val (.int .i64 (d 15)),.val (.int .i64 (d 16)),.val (.int .i64 (d 17)),.val (.int .i64 (d 18)),.val (.int .i64 (d 19)),.val (.int .i64 (d 20)),.val (.int .i64 (d 21)),.val (.int .i64 (d 22)),.val (.int .i64 (d 23)),.val (.int .i64 (d 24)),.val (.int .i64 (d 25)),.val (.int .i64 (d 26)),.val (.int .i64 (d 27)),.val (.int .i64 (d 28)),.val (.int .i64 (d 29)),.val (.int .i64 (d 30)),.val (.int .i64 (d 31)),.val (.int .i64 (d 32)),.val (.int .i64 (d 33)),.val (.int .i64 (d 34)),.val (.int .i64 (d 35)),.val (.int .i64 (d 36)),.val (.int .i64 (d 37)),.val (.int .i64 (d 38)),.val (.int .i64 (d 39)),.val (.int .i64 (d 40)),.val (.int .i64 (d 41)),.val (.int .i64 (d 42)),.val (.int .i64 (d 43)),.val (.int .i64 (d 44)),.val (.int .i64 (d 45)),.val (.int .i64 (d 46)),.val (.int .i64 (d 47)),.val (.int .i64 (d 48)),.val (.int .i64 (d 49)),.val (.int .i64 (d 50)),.val (.int .i64 (d 51)),.val (.int .i64 (d 52)),.val (.int .i64 (d 53)),.val (.int .i64 (d 54)),.val (.int .i64 (d 55)),.val (.int .i64 (d 56)),.val (.int .i64 (d 57)),.val (.int .i64 (d 58)),.val (.int .i64 (d 59)),.val (.int .i64 (d 60)),.val (.int .i64 (d 61)),.val (.int .i64 (d 62)),.val (.int .i64 (d 63))]
def Ej (n:Net) (m:MacM):Obs:=[(0,.box (Ix n m.up m.now m.injected m.drops)),(902,.row 1 J9 m.tables),(903,.row 1 Md m.queues)]
theorem Sn (n:Net) (up:List Bool) (now inj:Int) (d:Nat → Int):Ix n up now inj d =
  .sl 5 Br n.devices :: .sl 7 Bi n.ports :: .sl 3 Co n.links :: .sl 6 Ay n.domains :: .sl 4 Bp n.statics :: .sl 4 B5 n.floods :: .sl 5 Cy n.vrfs :: .sl 5 Dl n.irbs :: .sl 1 Ad up :: .osl 902 :: .osl 903 :: .val (.int .i64 now) :: .val (.int .i64 inj) ::
   (List.range' 0 64).map (fun i=>.val (.int .i64 (d i))):=rfl
theorem Iw (n:Net) (up:List Bool) (now inj:Int) (d:Nat → Int) (e:Nat) (he:e < 64):D7 (Ix n up now inj d) (0 + 13 + e * 1) = some (.val (.int .i64 (d e))):=by
 rw [Sn,show 0 + 13 + e * 1 = e + 13 by omega]
 show D7 ((List.range' 0 64).map (fun i=>SV.val (.int .i64 (d i)))) e = _
 rw [getI_map _ e 0 64 he,Nat.zero_add]
theorem Ant (n:Net) (up:List Bool) (now inj:Int) (d:Nat → Int) (e:Nat) (v:Int):(Ix n up now inj d).set (0 + 13 + e * 1) (.val (.int .i64 v)) = Ix n up now inj (fun i=>if i = e then v else d i):=by
 rw [Sn,Sn,show 0 + 13 + e * 1 = e + 13 by omega]
 have h:=Aav (fun i=>SV.val (.int .i64 (d i))) (.val (.int .i64 v)) e 0 64
 have h2:(fun i=>if i = 0 + e then SV.val (.int .i64 v) else SV.val (.int .i64 (d i))) = (fun i=>SV.val (.int .i64 (if i = e then v else d i))):=by
  funext i
  rw [Nat.zero_add]
  split <;> rfl
 rw [h2] at h
 rw [← h]
 rfl
theorem Lh (n:Net) (m:MacM) (e:Int):Ix n m.up m.now m.injected (Be m e).drops = (Ix n m.up m.now m.injected m.drops).set (0 + 13 + e.toNat * 1) (.val (.int .i64 (m.drops e.toNat + 1))):=by
 rw [Ant]
 congr 1
 funext i
 show (if i = e.toNat then m.drops i + 1 else m.drops i) = _
 split
 ·rename_i h; rw [h]
 ·rfl
theorem Al1 {α:Type} (l:List α) (i:Nat) (h:i < l.length):l.set i l[i] = l:=by
 simp
theorem T4 (n:Net) (m:MacM) (dom:Int) (q:QueuedM) (e:Int) (he:0 ≤ e ∧ e < 64) (hd:e = 0 → 0 ≤ dom ∧ dom.toNat < m.queues.length) (hb:Hb m) (hl:Ev (queueL m dom)) (hq:QueuedOK q) :
  Sy.Spec Tryz.prog 37 [.ptr 0 0,Aa dom,A1 q,Aa e] (Ej n m) (.tup []) (Ej n (comeM m dom q e)):=Ab Γ hm 100 F37 Tryz.ntmps37 rfl fun F hF=>by
 have hqb:=Jb hl
 have hp:=Afo (queueL m dom) q hqb.1
 have hres:=comeM.eq_1 m dom q e
 generalize comeM m dom q e = res at *
 have hbe:=hb e.toNat
 have hb3:=hb 3
 have hg:Hf ⟨.int .i64,1,[.int .i64 0]⟩ (Ix n m.up m.now m.injected m.drops) (0 + 13 + e.toNat * 1) = _:=Iw n m.up m.now m.injected m.drops e.toNat (by omega)
 have hgl:=Kl (Iw n m.up m.now m.injected m.drops e.toNat (by omega))
 have hst:=Lh n m e
 have hst2:setAt (Ix n m.up m.now m.injected m.drops) (0 + 13 + e.toNat * 1) [.val (.int .i64 (m.drops e.toNat + 1))] = Ix n m.up m.now m.injected (Be m e).drops:=by rw [hst,K1]
 have hble:Nat.ble (0 + 13 + e.toNat * 1 + 1) (Ix n m.up m.now m.injected m.drops).length = true:=Nat.ble_eq_true_of_le hgl
 conv=>whnf
 refine ⟨fun h=>?_,fun h=>?_⟩
 ·rw [if_pos (by simpa using h)] at hres
  subst hres
  refine rg ?_;conv=>whnf
  refine ⟨he.1,by omega,?_⟩
  conv=>whnf
  rw [hg]
  conv=>whnf
  refine ⟨by unfold I64; omega,?_⟩
  conv=>whnf
  refine ⟨he.1,by omega,?_⟩
  conv=>whnf
  refine We (Ail hst2 ?_) hble
  conv=>whnf
  refine ⟨(by kernel_rfl),?_⟩
  conv=>whnf
  exact done E .nil [] (Ej n (Be m e)) (fun _ h=>h) E E ⟨Y,⟨.inl E,E,.inl E,E,.inl E,E,Y⟩,E,E⟩
 have h0:e = 0:=by simpa using h
 have hd:=hd h0
 rw [if_neg (by rw [h0]; decide)] at hres
 clear h hqb hl he
 have hq0:=queueL.eq_1 m dom
 have hq1:(pushT (queueL m dom) q).2 = false → (pushT (queueL m dom) q).1 = queueL m dom:=fun h=>by
  unfold pushT at h ⊢
  split at h
  ·rw [if_pos (by assumption)]
  ·cases h
 rw [O9 hd.2] at hq0
 generalize queueL m dom = l at *
 generalize pushT l q = r at *
 obtain ⟨l2,ok⟩:=r
 subst hq0
 refine rg ?_;conv=>whnf
 refine ⟨hd.1,hd.2,?_⟩
 conv=>whnf
 refine ⟨E,hd.2,?_⟩
 conv=>whnf
 refine At hp F80 E E E (by kernel_rfl) E ?_
 refine rd (by kernel_rfl) ?_;conv=>whnf
 refine ⟨(by kernel_rfl),?_⟩
 conv=>whnf
 cases ok
 ·rw [if_neg (by simp)] at hres
  subst hres
  have hl2:l2 = m.queues[dom.toNat]:=hq1 rfl
  (refine ⟨fun _=>?_,fun h=>False.elim (by simp at h)⟩;refine rg ?_;conv=>whnf)
  refine ⟨by decide,by decide,?_⟩
  conv=>whnf
  refine ⟨by unfold I64; omega,?_⟩
  conv=>whnf
  refine ⟨by decide,by decide,?_⟩
  conv=>whnf
  refine ⟨(by kernel_rfl),?_⟩
  conv=>whnf
  refine ⟨hd.1,hd.2,?_⟩
  conv=>whnf
  refine ⟨E,hd.2,l2,E,E,?_⟩
  conv=>whnf
  have hss:m.queues.set dom.toNat l2 = m.queues:=by rw [hl2]; exact Al1 _ _ hd.2
  exact Bx E .nil [] (Ej n (Be m 3)) (fun _ h=>h) E E ⟨Y,⟨.inl (congrArg Ob.box (Lh n m 3)),E,.inl E,E,.inl (congrArg (Ob.row 1 Md) hss.symm),E,Y⟩,E,E⟩
 ·rw [if_pos rfl] at hres
  subst hres
  (refine ⟨fun h=>False.elim (by simp at h),fun _=>?_⟩;refine rg ?_;conv=>whnf)
  refine ⟨hd.1,hd.2,?_⟩
  conv=>whnf
  refine ⟨E,hd.2,l2,E,E,?_⟩
  conv=>whnf
  exact Bx E .nil [] (Ej n (Acu m dom l2)) (fun _ h=>h) E E ⟨Y,⟨.inl E,E,.inl E,E,.inl E,E,Y⟩,E,E⟩
theorem Aen (n:Net) (m:MacM) (x:StepM) (hl:Ev (queueL m x.domain)) :
  Sy.Spec Tryz.prog 39 [.ptr 0 0,Dp x] (Ej n m) (.tup [A1 (takeM m x.domain x.at_).2.1,Ad (takeM m x.domain x.at_).2.2]) (Ej n (takeM m x.domain x.at_).1):=Ab Γ hm 100 F39 Tryz.ntmps39 rfl fun F hF=>by
 have hqb:=Jb hl
 have hp:=Afn (queueL m x.domain) x.at_ hqb.1
 have h1:=Ba x.domain m.queues.length
 have hpl:=placeB_iff (d:=x.domain) (k:=m.queues.length)
 have hres:=takeM.eq_1 m x.domain x.at_
 generalize takeM m x.domain x.at_ = res at *
 generalize Al x.domain m.queues.length = b at *
 have hq0:=queueL.eq_1 m x.domain
 clear hl hqb
 generalize queueL m x.domain = l at *
 generalize takeT l x.at_ = r at *
 obtain ⟨q,l2,ok⟩:=r
 conv=>whnf
 refine At h1 F35 E E E (by kernel_rfl) E ?_
 cases b
 ·rw [if_pos rfl] at hres
  subst hres
  refine rd (by kernel_rfl) ?_;conv=>whnf
  refine ⟨(by kernel_rfl),?_⟩
  ((conv=>whnf);refine aT ?_;refine rg ?_;conv=>whnf)
  (skip)
  refine Au 4 [Aa 0,Aa 0,Aa 0,Az 0,Az 0,Aa 0,.sl 1 Aj []] E (.cons (.refl _) (.cons (.refl _) (.cons (.refl _) (.cons (.refl _) (.cons (.refl _) (.cons (.refl _) (.cons .nil .nil))))))) ?_
  exact done E (.cons (.cell E E E E) (.cons .tmp .nil)) [] (Ej n m) (fun _ h=>h) E E ⟨Y,⟨.inl E,E,.inl E,E,.inl E,E,Y⟩,E,E⟩
 have hd:=hpl.1 rfl
 rw [O9 hd.2] at hq0
 subst hq0
 rw [if_neg (by simp)] at hres
 subst hres
 refine rd (by kernel_rfl) ?_;conv=>whnf
 refine ⟨(by kernel_rfl),?_⟩
 ((conv=>whnf);refine aF ?_;refine rg ?_;conv=>whnf)
 (skip)
 refine ⟨hd.1,hd.2,?_⟩
 conv=>whnf
 refine ⟨E,hd.2,?_⟩
 conv=>whnf
 refine At hp F70 E E E (by kernel_rfl) E ?_
 refine rd (by kernel_rfl) ?_;conv=>whnf
 refine ⟨(by kernel_rfl),?_⟩
 conv=>whnf
 refine ⟨hd.1,hd.2,?_⟩
 conv=>whnf
 refine ⟨E,hd.2,l2,E,E,?_⟩
 conv=>whnf
 refine ⟨(by kernel_rfl),?_⟩
 conv=>whnf
 exact done E (.cons (.cell E E E E) (.cons .tmp .nil)) [] (Ej n (Acu m x.domain l2)) (fun _ h=>h) E E ⟨Y,⟨.inl E,E,.inl E,E,.inl E,E,Y⟩,E,E⟩
theorem Abx (n:Net) (hn:n.Fin) (hm1:n.Num) (m:MacM) (J D:Int) (hm0:MacOK n m J D) (hD:D ≤ 1000000000000) (o:OutM) (ho:OutOK n o) (origin:Int) :
  Sy.Spec Tryz.prog 82 [.ptr 0 0,Bh o,Aa origin] (Ej n m) (.sl 3 A8 (goesM n m o origin).2) (Ej n (goesM n m o origin).1):=Ab Γ hm 100 F82 Tryz.ntmps82 rfl fun F hF=>by
 have hres:=goesM.eq_1 n m o origin
 generalize goesM n m o origin = res at *
 have hdr:Hb m:=fun i=>⟨(hm0.drp i).1,by have:=(hm0.drp i).2; omega⟩
 have hbl:o.bytes.length < 100000:=by have:=ho.bytes; omega
 have hin:∀ {x:Int},DomIn n x → 0 ≤ x ∧ x.toNat < m.queues.length:=fun h=>by rw [hm0.ques]; exact h
 conv=>whnf
 refine ⟨fun h=>?_,fun h=>?_⟩
 ·have h1:o.kind = 1:=by simpa using h
  rw [if_pos h1] at hres
  subst hres
  refine rg ?_;conv=>whnf
  refine D9 25 A8 [⟨o.port,origin,o.bytes⟩] E E ?_
  refine As 25 E ?_
  exact done E (.cons .tmp .nil) [] (Ej n m) (fun _ h=>h) E E ⟨Y,⟨.inl E,E,.inl E,E,.inl E,E,Y⟩,E,E⟩
 have h1:¬ o.kind = 1:=by simpa using h
 rw [if_neg h1] at hres
 clear h
 refine rg ?_;conv=>whnf
 refine ⟨fun h=>?_,fun h=>?_⟩
 ·have h2:o.kind = 2:=by simpa using h
  rw [if_pos h2] at hres
  have q1:=Afr n hn o.port o.bytes hbl
  have he:=Zw n o.port o.bytes
  have hd:=fun h=>hin (Zx (n:=n) (port:=o.port) (b:=o.bytes) h)
  have hf:=Xn n o.port o.bytes
  have ht:=Xm hn o.port o.bytes
  generalize linkT n o.port o.bytes = r at *
  have q2:=T4 n m r.2.1 ⟨r.1,0,origin,r.2.2.1⟩ r.2.2.2 he hd hdr (Cv hm0 _) (Dd hf _ (by omega) (by decide))
  subst hres
  refine rg ?_;conv=>whnf
  refine At q1 F151 E E E (by kernel_rfl) E ?_
  refine rd (by kernel_rfl) ?_;conv=>whnf
  refine ⟨(by kernel_rfl),?_⟩
  conv=>whnf
  refine Ai (Ak [] E F37 q2 E ⟨E,E,E,Y⟩ E ⟨.inl E,.inl E,.inl E,Y⟩) E E ?_
  refine rg ?_;conv=>whnf
  refine Am 6 3 A8 E ?_
  exact done E (.cons .tmp .nil) [] (Ej n (comeM _ _ _ _)) (fun _ h=>h) E E ⟨Y,⟨.inl E,E,.inl E,E,.inl E,E,Y⟩,E,E⟩
 have h2:¬ o.kind = 2:=by simpa using h
 rw [if_neg h2] at hres
 clear h
 refine rg ?_;conv=>whnf
 refine ⟨fun h=>?_,fun h=>?_⟩
 ·have h2:o.kind = 3:=by simpa using h
  rw [if_pos h2] at hres
  have q1:=Aft n hn o.bytes hbl
  have he:=Aah n o.bytes
  have hd:=fun h=>hin (U6 (n:=n) (b:=o.bytes) h).2
  have hf:=Yj n o.bytes
  have ht:=Ss hn o.bytes
  generalize comeT n o.bytes = r at *
  have q2:=T4 n m r.2.1 ⟨-1,r.1,origin,r.2.2.1⟩ r.2.2.2 he hd hdr (Cv hm0 _) (Dd hf _ (by decide) ht)
  subst hres
  refine rg ?_;conv=>whnf
  refine At q1 F152 E E E (by kernel_rfl) E ?_
  refine rd (by kernel_rfl) ?_;conv=>whnf
  refine ⟨(by kernel_rfl),?_⟩
  conv=>whnf
  refine Ai (Ak [] E F37 q2 E ⟨E,E,E,Y⟩ E ⟨.inl E,.inl E,.inl E,Y⟩) E E ?_
  refine rg ?_;conv=>whnf
  refine Am 6 3 A8 E ?_
  exact done E (.cons .tmp .nil) [] (Ej n (comeM _ _ _ _)) (fun _ h=>h) E E ⟨Y,⟨.inl E,E,.inl E,E,.inl E,E,Y⟩,E,E⟩
 have h3:¬ o.kind = 3:=by simpa using h
 rw [if_neg h3] at hres
 clear h
 refine rg ?_;conv=>whnf
 refine ⟨fun h=>?_,fun h=>?_⟩
 ·have h4:o.kind = 4:=by simpa using h
  rw [if_pos h4] at hres
  have hf:=ho.frame h4
  have q2:=T4 n m o.domain ⟨-2,0,origin,o.frame⟩ 0 (by decide) (fun _=>hin hf.2) hdr (Cv hm0 _) (Dd hf.1 _ (by decide) (by decide))
  subst hres
  refine rg ?_;conv=>whnf
  refine Ai (Ak [] E F37 q2 E ⟨E,E,E,Y⟩ E ⟨.inl E,.inl E,.inl E,Y⟩) E E ?_
  refine rg ?_;conv=>whnf
  refine Am 6 3 A8 E ?_
  exact done E (.cons .tmp .nil) [] (Ej n (comeM _ _ _ _)) (fun _ h=>h) E E ⟨Y,⟨.inl E,E,.inl E,E,.inl E,E,Y⟩,E,E⟩
 have h4:¬ o.kind = 4:=by simpa using h
 rw [if_neg h4] at hres
 have h5:o.kind = 5:=by have:=ho.kind; omega
 have he:=ho.err h5
 obtain ⟨e,hee⟩:∃ e,o.error = e:=⟨_,rfl⟩
 rw [hee] at he hres
 have hbe:=hdr e.toNat
 have hg:Hf ⟨.int .i64,1,[.int .i64 0]⟩ (Ix n m.up m.now m.injected m.drops) (0 + 13 + e.toNat * 1) = _:=Iw n m.up m.now m.injected m.drops e.toNat (by have:=he.2; omega)
 have hgl:=Kl (Iw n m.up m.now m.injected m.drops e.toNat (by have:=he.2; omega))
 have hst2:setAt (Ix n m.up m.now m.injected m.drops) (0 + 13 + e.toNat * 1) [.val (.int .i64 (m.drops e.toNat + 1))] = Ix n m.up m.now m.injected (Be m e).drops:=by rw [Lh n m e,K1]
 have hble:Nat.ble (0 + 13 + e.toNat * 1 + 1) (Ix n m.up m.now m.injected m.drops).length = true:=Nat.ble_eq_true_of_le hgl
 subst hres
 clear h
 refine rg ?_;conv=>whnf
 refine ⟨fun _=>?_,fun h=>absurd h5 (by simpa using h)⟩
 rw [hee]
 refine rg ?_;conv=>whnf
 refine ⟨he.1,by have:=he.2; omega,?_⟩
 conv=>whnf
 rw [hg]
 conv=>whnf
 refine ⟨by unfold I64; omega,?_⟩
 conv=>whnf
 refine ⟨he.1,by have:=he.2; omega,?_⟩
 conv=>whnf
 refine We (Ail hst2 ?_) hble
 conv=>whnf
 refine ⟨(by kernel_rfl),?_⟩
 conv=>whnf
 refine Am 6 3 A8 E ?_
 exact done E (.cons .tmp .nil) [] (Ej n (Be m e)) (fun _ h=>h) E E ⟨Y,⟨.inl E,E,.inl E,E,.inl E,E,Y⟩,E,E⟩
end Go.Sy.YtmelpejjondedaaGreat
namespace Go.Sy.YtmelpejjondedaaGreat
section
variable {n:Net} {up:List Bool} {ranks roots costs:List Int}
end
end Go.Sy.YtmelpejjondedaaGreat
namespace Go.Sy.YtmelpejjondedaaGreat
open Go.Proofs
attribute [local irreducible] Go.Sy.G Go.Sy.DR
set_option maxRecDepth 100000
set_option maxHeartbeats 4000000
theorem Ajh {n:Net} {up:List Bool} (h:okB n up = true) {p:Nat} (hp:p < n.ports.length) (hl:B6 n up p < 0):nth (Iz n up) p = 0:=by
 obtain ⟨hu,hr,hcost⟩:=ok_iff.1 h
 rw [Iz,Zo hr hp,if_neg (fun hb=>?_),Aff hl]
 obtain ⟨j,h1,_⟩:=Yk hb
 have:=h1.2
 omega
theorem far_up {n:Net} {up:List Bool} (hr:Ah n = true) {i:Nat} (hi:i < n.ports.length) (h0:0 ≤ n.ports[i].link) (hu:up.getD n.ports[i].link.toNat false = true) :
  ∃ j:Nat,j < n.ports.length ∧ B6 n up i = j ∧ (nth n.links n.ports[i].link).a + (nth n.links n.ports[i].link).b - i = j:=by
 have hp:=Jp hr hi
 have hpl:=Eq hr hi
 simp only [El,Bool.and_eq_true,Bool.or_eq_true,beq_iff_eq] at hp
 have hp:=hp.2
 have hlk:n.ports[i].link.toNat < n.links.length:=by omega
 have he:=H7 hr hlk
 have hfar:B6 n up i = (nth n.links n.ports[i].link).a + (nth n.links n.ports[i].link).b - i:=by
  rw [B6,A9 hi]
  simp only [hu,Bool.not_true,Bool.or_false,decide_eq_true_eq]
  rw [if_neg (by omega)]
 rw [Ao (l:=n.links) (i:=n.ports[i].link) hlk] at hfar hp ⊢
 generalize n.links[n.ports[i].link.toNat] = l at *
 exact ⟨(B6 n up i).toNat,by omega,by omega,by omega⟩
end Go.Sy.YtmelpejjondedaaGreat
namespace Go.Sy.YtmelpejjondedaaGreat
instance:Inhabited Vec:=⟨⟨0,0,0,0,0⟩⟩
def Ae3 (ranks:List Int) (d:Nat):Vec:=⟨ranks.getD d 0,0,ranks.getD d 0,-1,-1⟩
def I6 (n:Net) (ranks:List Int):List Vec:=(List.range n.devices.length).map (Ae3 ranks)
def Lb (n:Net) (ranks:List Int) (old:List Vec) (i j:Nat):Vec:=⟨(nth old (Bk n j)).root,(nth old (Bk n j)).cost + Hk n i,nth ranks (Bk n j),j,i⟩
def Xr (n:Net) (up:List Bool) (ranks:List Int) (old best:List Vec) (i:Nat):List Vec :=
 if 0 ≤ B6 n up i ∧ Cc (Lb n ranks old i (B6 n up i).toNat) (nth best (Bk n i)) = true then best.set (Bk n i).toNat (Lb n ranks old i (B6 n up i).toNat) else best
def J1 (n:Net) (up:List Bool) (ranks:List Int) (old:List Vec) (m:Nat):List Vec:=(List.range m).foldl (Xr n up ranks old) old
theorem L0 (n:Net) (up:List Bool) (ranks:List Int) (old:List Vec) (m:Nat):J1 n up ranks old (m + 1) = Xr n up ranks old (J1 n up ranks old m) m:=by
 rw [J1,List.range_succ,List.foldl_append]; rfl
def Cu (n:Net) (up:List Bool) (ranks:List Int):Nat → List Vec
 | 0=>I6 n ranks
 | r + 1=>J1 n up ranks (Cu n up ranks r) n.ports.length
theorem Abn (n:Net) (up:List Bool) (ranks:List Int) (old best:List Vec) (i:Nat):(Xr n up ranks old best i).length = best.length:=by
 rw [Xr]; split
 ·rw [List.length_set]
 ·rfl
theorem Jg (n:Net) (up:List Bool) (ranks:List Int) (old:List Vec):∀ m,(J1 n up ranks old m).length = old.length
 | 0=>rfl
 | m + 1=>by rw [L0,Abn,Jg n up ranks old m]
theorem D4 (n:Net) (up:List Bool) (ranks:List Int):∀ r,(Cu n up ranks r).length = n.devices.length
 | 0=>by simp [Cu,I6]
 | r + 1=>by rw [Cu,Jg,D4 n up ranks r]
theorem Ao8 {α:Type} [Inhabited α] {l:List α} {a b:Int} {v:α} (h0:0 ≤ a) (h1:a < l.length) (hb:0 ≤ b):nth (l.set a.toNat v) b = if b = a then v else nth l b:=by
 rw [nth,nth,List.getElem?_set]
 by_cases h:b = a
 ·subst h
  rw [if_pos rfl,if_pos rfl,if_pos (by omega)]
  rfl
 ·rw [if_neg (by omega),if_neg h]
section
variable {n:Net} {up:List Bool} {ranks roots costs:List Int}
structure KnowM (n:Net) (up:List Bool) (ranks:List Int) (old best:List Vec) (m:Nat):Prop where
 shape:∀ d:Int,0 ≤ d → d < n.devices.length → nth best d = nth old d ∨ ∃ i j:Nat,i < m ∧ Hop n up i j ∧ Bk n i = d ∧ nth best d = Lb n ranks old i j
 was:∀ d:Int,0 ≤ d → d < n.devices.length → Cc (nth old d) (nth best d) = false
 cand:∀ i j:Nat,i < m → Hop n up i j → Cc (Lb n ranks old i j) (nth best (Bk n i)) = false
theorem Jz {a b c:Vec} (h1:Cc b a = false) (h2:Cc c b = false):Cc c a = false:=by
 cases h:Cc c a
 ·rfl
 ·by_cases hbc:b = c
  ·subst hbc; rw [h1] at h; exact h.symm
  ·rcases Sd hbc with h3 | h3
   ·have:=Sc h3 h; rw [h1] at this; exact this.symm
   ·rw [h2] at h3; cases h3
theorem O5 (hr:Ah n = true) (old:List Vec) (hl:old.length = n.devices.length):∀ m,m ≤ n.ports.length → KnowM n up ranks old (J1 n up ranks old m) m
 | 0,_=>⟨fun d _ _=>.inl rfl,fun d _ _=>Kg _,fun i j h=>absurd h (by omega)⟩
 | m + 1,hm=>by
  have ih:=O5 hr old hl m (by omega)
  have hlen:=Jg n up ranks old m
  have hpd:=Cp hr (show m < n.ports.length by omega)
  rw [L0,Xr]
  split
  ·rename_i hc
   obtain ⟨j,hj⟩:∃ j:Nat,B6 n up m = j:=⟨(B6 n up m).toNat,by omega⟩
   have hop:Hop n up m j:=⟨by omega,hj⟩
   rw [hj,Int.toNat_natCast] at hc ⊢
   have hset:∀ d:Int,0 ≤ d → nth ((J1 n up ranks old m).set (Bk n m).toNat (Lb n ranks old m j)) d = if d = Bk n m then Lb n ranks old m j else nth (J1 n up ranks old m) d:=fun d h0=>Ao8 hpd.1 (by omega) h0
   have hnew:Cc (nth (J1 n up ranks old m) (Bk n m)) (Lb n ranks old m j) = false:=Agl hc.2
   refine ⟨fun d h0 h1=>?_,fun d h0 h1=>?_,fun i k hi hik=>?_⟩
   ·rw [hset d h0]
    by_cases hd:d = Bk n m
    ·rw [if_pos hd]; exact .inr ⟨m,j,by omega,hop,hd.symm,rfl⟩
    ·rw [if_neg hd]
     rcases ih.shape d h0 h1 with h | ⟨i,k,e1,e2,e3,e4⟩
     ·exact .inl h
     ·exact .inr ⟨i,k,by omega,e2,e3,e4⟩
   ·rw [hset d h0]
    by_cases hd:d = Bk n m
    ·rw [if_pos hd,hd]
     exact Jz hnew (ih.was _ hpd.1 hpd.2)
    ·rw [if_neg hd]; exact ih.was d h0 h1
   ·have hpi:=Cp hr hik.1
    rw [hset _ hpi.1]
    by_cases him:i = m
    ·subst him
     have:k = j:=by have:=hik.2; omega
     subst this
     rw [if_pos rfl]; exact Kg _
    ·by_cases hd:Bk n i = Bk n m
     ·rw [if_pos hd]
      have:=ih.cand i k (by omega) hik
      rw [hd] at this
      exact Jz hnew this
     ·rw [if_neg hd]; exact ih.cand i k (by omega) hik
  ·rename_i hc
   refine ⟨fun d h0 h1=>?_,ih.was,fun i k hi hik=>?_⟩
   ·rcases ih.shape d h0 h1 with h | ⟨i,k,e1,e2,e3,e4⟩
    ·exact .inl h
    ·exact .inr ⟨i,k,by omega,e2,e3,e4⟩
   ·by_cases him:i = m
    ·subst him
     cases h:Cc (Lb n ranks old i k) (nth (J1 n up ranks old i) (Bk n i))
     ·rfl
     ·refine absurd ⟨by rw [hik.2]; omega,?_⟩ hc
      rw [hik.2,Int.toNat_natCast]
      exact h
    ·exact ih.cand i k (by omega) hik
structure KnowR (n:Net) (up:List Bool) (ranks roots costs:List Int) (r:Nat) (best:List Vec):Prop where
 low:∀ d:Int,0 ≤ d → d < n.devices.length → Le2 (nth roots d) (nth costs d) (nth best d).root (nth best d).cost
 shape:∀ d:Int,0 ≤ d → d < n.devices.length → nth best d = ⟨nth ranks d,0,nth ranks d,-1,-1⟩ ∨ ∃ (i j:Nat) (x c:Int),Hop n up i j ∧ Bk n i = d ∧ Le2 (nth roots (Bk n j)) (nth costs (Bk n j)) x c ∧ nth best d = ⟨x,c + Hk n i,nth ranks (Bk n j),j,i⟩
 self:∀ d:Int,0 ≤ d → d < n.devices.length → Cc ⟨nth ranks d,0,nth ranks d,-1,-1⟩ (nth best d) = false
 bound:∀ d:Int,0 ≤ d → d < n.devices.length → 0 ≤ (nth best d).cost ∧ (nth best d).cost ≤ 65535 * r
theorem O7 (hrk:ranks.length = n.devices.length) {d:Int} (h0:0 ≤ d) (h1:d < n.devices.length):nth (I6 n ranks) d = ⟨nth ranks d,0,nth ranks d,-1,-1⟩:=by
 rw [Ao (by simp [I6]; omega)]
 simp only [I6,List.getElem_map,List.getElem_range,Ae3]
 rw [A9 (by omega),Ao (by omega)]
theorem Aib {a b c d m:Int} (h:Le2 a b c d):Le2 a (b + m) c (d + m):=by
 unfold Le2 at *
 omega
theorem O6 (S:Solved n up ranks roots costs) (hr:Ah n = true) (hcost:Ch n = true) (hrk:ranks.length = n.devices.length):∀ r,KnowR n up ranks roots costs r (Cu n up ranks r)
 | 0=>by
  refine ⟨fun d h0 h1=>?_,fun d h0 h1=>?_,fun d h0 h1=>?_,fun d h0 h1=>?_⟩
  ·rw [Cu,O7 hrk h0 h1]; exact S.self d h0 h1
  ·exact .inl (O7 hrk h0 h1)
  ·rw [Cu,O7 hrk h0 h1]; exact Kg _
  ·rw [Cu,O7 hrk h0 h1]; exact ⟨by simp,by simp⟩
 | r + 1=>by
  have ih:=O6 S hr hcost hrk r
  have hM:=O5 (up:=up) (ranks:=ranks) hr (Cu n up ranks r) (D4 n up ranks r) n.ports.length (Nat.le_refl _)
  rw [Cu]
  refine ⟨fun d h0 h1=>?_,fun d h0 h1=>?_,fun d h0 h1=>Jz (hM.was d h0 h1) (ih.self d h0 h1),fun d h0 h1=>?_⟩
  ·rcases hM.shape d h0 h1 with h | ⟨i,j,_,e2,e3,e4⟩
   ·rw [h]; exact ih.low d h0 h1
   ·rw [e4]
    have hj:=Cp hr (Ez hr e2)
    have t1:=S.tri i j e2
    rw [e3] at t1
    exact Ux t1 (Aib (ih.low _ hj.1 hj.2))
  ·rcases hM.shape d h0 h1 with h | ⟨i,j,_,e2,e3,e4⟩
   ·rw [h]; exact ih.shape d h0 h1
   ·have hj:=Cp hr (Ez hr e2)
    exact .inr ⟨i,j,_,_,e2,e3,ih.low _ hj.1 hj.2,e4⟩
  ·rcases hM.shape d h0 h1 with h | ⟨i,j,_,e2,e3,e4⟩
   ·rw [h]
    have:=ih.bound d h0 h1
    omega
   ·rw [e4]
    have hj:=Cp hr (Ez hr e2)
    have:=ih.bound _ hj.1 hj.2
    have:=Jv hcost e2.1
    simp only [Lb]
    omega
theorem Tg {a b:Vec} (h:Cc a b = false):Le2 b.root b.cost a.root a.cost:=by
 unfold Le2
 simp only [Cc] at h
 grind
def dep (n:Net) (costs:List Int) (d:Int):Nat:=(List.range n.devices.length).countP fun e:Nat=>decide (nth costs (e:Int) < nth costs d)
theorem dep_lt {a d:Int} (ha:0 ≤ a ∧ a < n.devices.length) (h:nth costs a < nth costs d):dep n costs a < dep n costs d:=by
 have hmem:a.toNat ∈ List.range n.devices.length:=List.mem_range.2 (by omega)
 obtain ⟨l1,l2,hl⟩:=List.append_of_mem hmem
 have ea:((a.toNat:Nat):Int) = a:=by omega
 simp only [dep,hl,List.countP_append,List.countP_cons,ea,h,Int.lt_irrefl,decide_true,decide_false,if_true,Bool.false_eq_true,if_false]
 have m1:=List.countP_mono_left (l:=l1) (p:=fun e:Nat=>decide (nth costs (e:Int) < nth costs a)) (q:=fun e:Nat=>decide (nth costs (e:Int) < nth costs d)) (fun x _ hx=>by simp only [decide_eq_true_eq] at hx ⊢; omega)
 have m2:=List.countP_mono_left (l:=l2) (p:=fun e:Nat=>decide (nth costs (e:Int) < nth costs a)) (q:=fun e:Nat=>decide (nth costs (e:Int) < nth costs d)) (fun x _ hx=>by simp only [decide_eq_true_eq] at hx ⊢; omega)
 omega
theorem dep_le (d:Int):dep n costs d ≤ n.devices.length:=by
 have:=List.countP_le_length (p:=fun e:Nat=>decide (nth costs (e:Int) < nth costs d)) (l:=List.range n.devices.length)
 simpa [dep] using this
theorem Xs (S:Solved n up ranks roots costs) (hr:Ah n = true) (hcost:Ch n = true) (hrk:ranks.length = n.devices.length):∀ (r:Nat) (d:Int),0 ≤ d → d < n.devices.length → dep n costs d ≤ r → Le2 (nth (Cu n up ranks r) d).root (nth (Cu n up ranks r) d).cost (nth roots d) (nth costs d)
 | r,d,h0,h1,hd=>by
  rcases S.der d h0 h1 with h | ⟨i,j,e1,e2,e3,e4⟩
  ·have:=Tg ((O6 S hr hcost hrk r).self d h0 h1)
   rw [h.1,h.2]
   exact this
  ·have hp:=Jv hcost e1.1
   have hj:=Cp hr (Ez hr e1)
   have hlt:=dep_lt (costs:=costs) (d:=d) hj (by omega)
   match r with
   | 0=>omega
   | r + 1 =>
    have ih:=Xs S hr hcost hrk r (Bk n j) hj.1 hj.2 (by omega)
    have hM:=O5 (up:=up) (ranks:=ranks) hr (Cu n up ranks r) (D4 n up ranks r) n.ports.length (Nat.le_refl _)
    have hc:=Tg (hM.cand i j e1.1 e1)
    rw [e2] at hc
    rw [e3,e4]
    exact Ux hc (Aib ih)
theorem Xq (S:Solved n up ranks roots costs) (hr:Ah n = true) (hcost:Ch n = true) (hrk:ranks.length = n.devices.length) {r:Nat} (hrn:n.devices.length ≤ r) {d:Int} (h0:0 ≤ d) (h1:d < n.devices.length) :
  (nth (Cu n up ranks r) d).root = nth roots d ∧ (nth (Cu n up ranks r) d).cost = nth costs d:=by
 have a1:=(O6 S hr hcost hrk r).low d h0 h1
 have a2:=Xs S hr hcost hrk r d h0 h1 (Nat.le_trans (dep_le d) hrn)
 unfold Le2 at a1 a2
 omega
theorem Am2 (S:Solved n up ranks roots costs) (hr:Ah n = true) (hcost:Ch n = true) (hrk:ranks.length = n.devices.length) {d:Int} (h0:0 ≤ d) (h1:d < n.devices.length) :
  (nth (Cu n up ranks (n.devices.length + 1)) d).root = nth roots d ∧ (nth (Cu n up ranks (n.devices.length + 1)) d).cost = nth costs d ∧ (nth (Cu n up ranks (n.devices.length + 1)) d).own = Ew n up ranks roots costs d:=by
 obtain ⟨x1,x2⟩:=Xq S hr hcost hrk (r:=n.devices.length + 1) (by omega) h0 h1
 refine ⟨x1,x2,?_⟩
 have hI:=O6 S hr hcost hrk (n.devices.length + 1)
 have hcb:=Mp S h0 h1
 by_cases hroot:nth roots d = nth ranks d
 ·rw [Ak2 hroot]
  have hz:=Aco S h0 h1 hroot
  rcases hI.shape d h0 h1 with h | ⟨i,j,x,c,e1,e2,e3,e4⟩
  ·rw [h]
  ·exfalso
   have hp:=Jv hcost e1.1
   have hj:=Cp hr (Ez hr e1)
   have hrt:=Kb S hr e1
   have hcj:=Mp S hj.1 hj.2
   rw [e4] at x1 x2
   simp only at x1 x2
   rw [e2] at hrt
   unfold Le2 at e3
   omega
 ·obtain ⟨i,j,b1,b2,b3,b4⟩:=Ak1 S hr h0 h1 hroot
  obtain ⟨j',c1,c2,_,c4⟩:=Yk b3
  have:j' = j:=by have:=c1.2; have:=b1.2; omega
  subst this
  have hmem:nth (Cu n up ranks (n.devices.length + 1)) d ∈ Hn n up ranks roots costs d n.ports.length:=by
   rcases hI.shape d h0 h1 with h | ⟨p,q,x,c,e1,e2,e3,e4⟩
   ·exfalso
    rw [h] at x1
    exact hroot x1.symm
   ·refine best_mem.2 ⟨p,q,e1,e2,?_⟩
    have hrt:=Kb S hr e1
    have hv:=Wv S hr e1
    rw [e2] at hrt hv
    rw [e4] at x1 x2
    simp only at x1 x2
    have g1:x = nth roots (Bk n q):=by omega
    have g2:c = nth costs (Bk n q):=by unfold Le2 at e3; omega
    rw [e4,g1,g2]
  have hle:=Zz _ _ hmem
  have hM:=O5 (up:=up) (ranks:=ranks) hr (Cu n up ranks n.devices.length) (D4 n up ranks n.devices.length) n.ports.length (Nat.le_refl _)
  have hcand:=hM.cand i j' b1.1 b1
  have hj:=Cp hr (Ez hr b1)
  obtain ⟨y1,y2⟩:=Xq S hr hcost hrk (r:=n.devices.length) (Nat.le_refl _) hj.1 hj.2
  rw [Lb,y1,y2,b2] at hcand
  have hcand:Cc ⟨nth roots (Bk n j'),nth costs (Bk n j') + Hk n i,nth ranks (Bk n j'),j',i⟩ (nth (Cu n up ranks (n.devices.length + 1)) d) = false:=hcand
  rw [c4] at hle
  rw [b3]
  by_cases he:nth (Cu n up ranks (n.devices.length + 1)) d = ⟨nth roots (Bk n j'),nth costs (Bk n j') + Hk n i,nth ranks (Bk n j'),j',i⟩
  ·rw [he]
  ·rcases Sd he with h | h
   ·rw [hle] at h; cases h
   ·rw [hcand] at h; cases h
end
end Go.Sy.YtmelpejjondedaaGreat
namespace Go.Sy.YtmelpejjondedaaGreat
open Go.Proofs
attribute [local irreducible] Go.Sy.G Go.Sy.DR
set_option maxRecDepth 100000
set_option maxHeartbeats 4000000
theorem Zs {n:Net} {up:List Bool} (hr:Ah n = true) {i:Nat} (hi:i < n.ports.length) (h0:n.ports[i].link ≠ -1) (hu:up.getD n.ports[i].link.toNat false = true):Jx n.links i = B6 n up i:=by
 have hpl:=Eq hr hi
 obtain ⟨j,hj,hf,hsum⟩:=far_up (up:=up) hr hi (by omega) hu
 have hop:Hop n up i j:=⟨hi,hf⟩
 obtain ⟨k,hk,h1,h2,h3,h4,hne⟩:=U1 hr hop
 rw [hf]
 have hall:∀ q (hq:q < n.links.length),(n.links[q].a = i ∨ n.links[q].b = i) → q = k:=fun q hq h=>by
  have hlq:=Q6 hr hq
  simp only [J0,Bool.and_eq_true,beq_iff_eq,bne_iff_ne] at hlq
  rcases h with h | h
  ·rw [h] at hlq; have:=hlq.1.2; omega
  ·rw [h] at hlq; have:=hlq.2; omega
 have hij:(i:Int) ≠ j:=fun h=>hne (by have:i = j:=(by omega); rw [this])
 rw [Ao (l:=n.links) (i:=(k:Int)) (by simpa using hk)] at h4
 simp only [Int.toNat_natCast] at h4
 have hfind:n.links.find? (fun l=>l.a == (i:Int) || l.b == (i:Int)) = some n.links[k]:=by
  rw [List.find?_eq_some_iff_getElem]
  refine ⟨?_,k,hk,E,fun q hq=>?_⟩
  ·rcases h4 with h4 | h4 <;> simp [h4.1,h4.2]
  ·have hn:¬ (n.links[q].a = i ∨ n.links[q].b = i):=fun h=>by have:=hall q (by omega) h; omega
   simpa using hn
 rw [Jx,hfind]
 simp only
 rcases h4 with h4 | h4
 ·rw [if_pos h4.1,h4.2]
 ·rw [if_neg (by rw [h4.1]; omega),h4.1]
def Uy (n:Net) (up:List Bool) (ranks:List Int) (x:SV):List SV:=[.sl 5 Br n.devices,.sl 7 Bi n.ports,.sl 3 Co n.links,.sl 6 Ay n.domains,.sl 4 Bp n.statics,.sl 4 B5 n.floods,.sl 5 Cy n.vrfs,.sl 5 Dl n.irbs,.sl 1 Ad up,.sl 1 Aa ranks,x]
def Adz (n:Net) (up:List Bool) (ranks:List Int) (best:List Vec):Obs:=[(0,.box (Uy n up ranks (.osl 1))),(1,.row 5 Dk best)]
def Ags (n:Net) (up:List Bool) (ranks:List Int) (best:List Vec):SV:=.ref 11 (.agg (Uy n up ranks (.sl 5 Dk best))) 0
theorem Aou (n:Net) (up:List Bool) (ranks:List Int) (best:List Vec) (i:Nat) (hr:Ah n = true) (hu:up.length = n.links.length) (hi:i < n.ports.length) :
  Sy.Spec Tryz.prog 135 [.ptr 0 0,Aa i] (Adz n up ranks best) (Aa (B6 n up i)) (Adz n up ranks best):=Ab Γ hm 100 F135 Tryz.ntmps135 rfl fun F hF=>by
 have hpl:=Eq hr hi
 have hf:=Cq hr
 have e1:n.ports[(i:Int).toNat]'(by omega) = n.ports[i]:=rfl
 have hof:=Zs (up:=up) hr hi
 have hfar:B6 n up i = if n.ports[i].link < 0 || !(up.getD n.ports[i].link.toNat false) then -1 else (nth n.links n.ports[i].link).a + (nth n.links n.ports[i].link).b - i:=by
  rw [B6,A9 hi]
 have hos:=Af9 n i (by unfold Aq; omega)
 generalize B6 n up i = f at *
 conv=>whnf
 refine ⟨E,by omega,by omega,?_⟩
 conv=>whnf
 refine ⟨fun h=>?_,fun h=>?_⟩
 ·have h1:n.ports[i].link = -1:=by simpa using h
  rw [h1] at hfar
  have hfr:f = -1:=hfar
  refine rd (by kernel_rfl) ?_;conv=>whnf
  refine ⟨(by kernel_rfl),?_⟩
  ((conv=>whnf);refine aT ?_;refine rg ?_;conv=>whnf)
  refine done E (.cons .tmp .nil) [] (Adz n up ranks best) (fun _ h=>h) ?_ E ⟨Y,⟨.inl E,E,.inl E,E,Y⟩,E,E⟩
  exact congrArg Aa hfr
 have h1:¬ n.ports[i].link = -1:=by simpa using h
 have hlk:n.ports[i].link.toNat < up.length:=by omega
 have hof:=hof h1
 rw [A9 hlk] at hof hfar
 refine rd (by kernel_rfl) ?_;conv=>whnf
 refine ⟨E,by omega,by omega,?_⟩
 conv=>whnf
 refine ⟨E,by simp only [Int.toNat_natCast]; omega,by simp only [Int.toNat_natCast]; omega,?_⟩
 conv=>whnf
 refine ⟨(by kernel_rfl),?_⟩
 conv=>whnf
 refine ⟨fun h2=>?_,fun h2=>?_⟩
 ·have h3:up[n.ports[i].link.toNat] = false:=by simpa using h2
  rw [h3] at hfar
  have hfr:f = -1:=by simpa using hfar
  refine rg ?_;conv=>whnf
  refine done E (.cons .tmp .nil) [] (Adz n up ranks best) (fun _ h=>h) ?_ E ⟨Y,⟨.inl E,E,.inl E,E,Y⟩,E,E⟩
  exact congrArg Aa hfr
 ·have h3:up[n.ports[i].link.toNat] = true:=by simpa using h2
  rw [hof h3] at hos
  refine rg ?_;conv=>whnf
  refine Ag hos F204 E E E E E ?_
  refine rg ?_;conv=>whnf
  exact done E (.cons .tmp .nil) [] (Adz n up ranks best) (fun _ h=>h) E E ⟨Y,⟨.inl E,E,.inl E,E,Y⟩,E,E⟩
theorem Aot (n:Net) (up:List Bool) (ranks:List Int) (best:List Vec) (i:Nat) (hr:Ah n = true) (hu:up.length = n.links.length) (hi:i < n.ports.length) :
  Sy.Spec Tryz.prog 135 [Ags n up ranks best,Aa i] [] (Aa (B6 n up i)) []:=Ab Γ hm 100 F135 Tryz.ntmps135 rfl fun F hF=>by
 have hpl:=Eq hr hi
 have hf:=Cq hr
 have e1:n.ports[(i:Int).toNat]'(by omega) = n.ports[i]:=rfl
 have hof:=Zs (up:=up) hr hi
 have hfar:B6 n up i = if n.ports[i].link < 0 || !(up.getD n.ports[i].link.toNat false) then -1 else (nth n.links n.ports[i].link).a + (nth n.links n.ports[i].link).b - i:=by
  rw [B6,A9 hi]
 have hos:=Af9 n i (by unfold Aq; omega)
 generalize B6 n up i = f at *
 conv=>whnf
 refine ⟨E,by omega,by omega,?_⟩
 conv=>whnf
 refine ⟨fun h=>?_,fun h=>?_⟩
 ·have h1:n.ports[i].link = -1:=by simpa using h
  rw [h1] at hfar
  have hfr:f = -1:=hfar
  refine rd (by kernel_rfl) ?_;conv=>whnf
  refine ⟨(by kernel_rfl),?_⟩
  ((conv=>whnf);refine aT ?_;refine rg ?_;conv=>whnf)
  refine Ac E (.cons .tmp .nil) ?_ E
  exact congrArg Aa hfr
 have h1:¬ n.ports[i].link = -1:=by simpa using h
 have hlk:n.ports[i].link.toNat < up.length:=by omega
 have hof:=hof h1
 rw [A9 hlk] at hof hfar
 refine rd (by kernel_rfl) ?_;conv=>whnf
 refine ⟨E,by omega,by omega,?_⟩
 conv=>whnf
 refine ⟨E,by simp only [Int.toNat_natCast]; omega,by simp only [Int.toNat_natCast]; omega,?_⟩
 conv=>whnf
 refine ⟨(by kernel_rfl),?_⟩
 conv=>whnf
 refine ⟨fun h2=>?_,fun h2=>?_⟩
 ·have h3:up[n.ports[i].link.toNat] = false:=by simpa using h2
  rw [h3] at hfar
  have hfr:f = -1:=by simpa using hfar
  refine rg ?_;conv=>whnf
  refine Ac E (.cons .tmp .nil) ?_ E
  exact congrArg Aa hfr
 ·have h3:up[n.ports[i].link.toNat] = true:=by simpa using h2
  rw [hof h3] at hos
  refine rg ?_;conv=>whnf
  refine Ag hos F204 E E E E E ?_
  refine rg ?_;conv=>whnf
  exact Ac E (.cons .tmp .nil) E E
theorem Agt (n:Net) (ranks:List Int) (j:Nat) (h:j < n.devices.length):(I6 n ranks).take (j + 1) = (I6 n ranks).take j ++ [Ae3 ranks j]:=by
 rw [List.take_succ_eq_append_getElem (by simpa [I6] using h)]
 simp [I6]
theorem Vn (n:Net) (up:List Bool) (ranks:List Int) (hr:Ah n = true) (hcost:Ch n = true) (old:List Vec) (hl:old.length = n.devices.length) {b:Int} (hb:∀ x ∈ old,0 ≤ x.cost ∧ x.cost ≤ b):∀ m,m ≤ n.ports.length → ∀ x ∈ J1 n up ranks old m,0 ≤ x.cost ∧ x.cost ≤ b + 65535
 | 0,_,x,hx=>by have:=hb x hx; omega
 | m + 1,hm,x,hx=>by
  have ih:=Vn n up ranks hr hcost old hl hb m (by omega)
  rw [L0,Xr] at hx
  split at hx
  ·rename_i hc
   rcases List.mem_or_eq_of_mem_set hx with h | h
   ·exact ih x h
   ·have hp:=Jv hcost (show m < n.ports.length by omega)
    obtain ⟨j,hj⟩:∃ j:Nat,B6 n up m = j:=⟨(B6 n up m).toNat,by omega⟩
    have hop:Hop n up m j:=⟨by omega,hj⟩
    have hjd:=Cp hr (Ez hr hop)
    have he:nth old (Bk n j) ∈ old:=by rw [Ao (by omega)]; exact List.getElem_mem _
    have:=hb _ he
    rw [hj,Int.toNat_natCast] at h
    rw [h]
    simp only [Lb]
    omega
  ·exact ih x hx
theorem Vo (n:Net) (up:List Bool) (ranks:List Int) (hr:Ah n = true) (hcost:Ch n = true):∀ r:Nat,∀ x ∈ Cu n up ranks r,0 ≤ x.cost ∧ x.cost ≤ 65535 * r
 | 0,x,hx=>by
  simp only [Cu,I6,List.mem_map] at hx
  obtain ⟨_,_,rfl⟩:=hx
  simp [Ae3]
 | r + 1,x,hx=>by
  have:=Vn n up ranks hr hcost (Cu n up ranks r) (D4 n up ranks r) (Vo n up ranks hr hcost r) n.ports.length (Nat.le_refl _) x hx
  omega
theorem Amb (n:Net) (up:List Bool) (hn:n.Fin) (hu:up.length = n.links.length) (hr:Ah n = true) (hcost:Ch n = true) :
  Sy.Spec Tryz.prog 134 [Ap n,.sl 1 Ad up] [] (Ags n up (Cm n) (Cu n up (Cm n) (n.devices.length + 1))) []:=Ab Γ hm 100 F134 Tryz.ntmps134 rfl fun F hF=>by
 have hf:=Cq hr
 have hrs:=Ajn n hn
 rw [← Xf n] at hrs
 have hrk:=Ee n
 generalize Cm n = ranks at *
 conv=>whnf
 refine At hrs F202 E E E (by kernel_rfl) E ?_
 refine rd (by kernel_rfl) ?_;conv=>whnf
 refine ⟨(by kernel_rfl),?_⟩
 conv=>whnf
 refine Bf 2 8 (Ap n) E E E ?_
 refine Uf 18 10 1000 5 Dk E E E E ?_
 refine Av n.devices.length (fun j=>[(2,.ref 8 (Ap n) 0),(5,.ptr 18 0),(6,Aa j)]) (fun j=>[(18,.box (Uy n up ranks (.osl 1000))),(1000,.row 5 Dk ((I6 n ranks).take j))]) []
  ⟨⟨rfl,rfl,rfl,rfl,rfl,rfl,trivial⟩,⟨.inl rfl,rfl,.inl rfl,rfl,trivial⟩,rfl,rfl⟩ ?_
 intro j hj
 refine rg ?_;conv=>whnf
 refine ⟨fun h=>?_,fun h=>?_⟩
 ·have hlt:j < n.devices.length:=by simpa using h
  have hsucc:=Agt n ranks j hlt
  have hln:((I6 n ranks).take j).length ≤ 8:=by simp [I6]; omega
  have hv:Ae3 ranks j = ⟨ranks[(j:Int).toNat]'(by omega),0,ranks[(j:Int).toNat]'(by omega),-1,-1⟩:=by
   simp only [Ae3,Int.toNat_natCast]; rw [A9 (by omega)]
  obtain ⟨u,hu'⟩:∃ u,(I6 n ranks).take j = u:=⟨_,rfl⟩
  rw [hu'] at hsucc hln ⊢
  refine rg ?_;conv=>whnf
  refine ⟨E,by omega,by omega,?_⟩
  conv=>whnf
  refine ⟨E,by omega,by omega,?_⟩
  conv=>whnf
  refine Bj (Af Γ.toTy 47 E E E E E (.row E) (.lit (e:=Dk) (l:=[Ae3 ranks j]) E (by rw [hv]; rfl)) (by simp) (by simp; omega) (by simp; omega)) (by kernel_rfl) E ?_
  refine rd (by kernel_rfl) ?_;conv=>whnf
  refine ⟨(by kernel_rfl),?_⟩
  conv=>whnf
  refine ⟨by unfold I64; omega,?_⟩
  conv=>whnf
  exact Ar [(1000,47)] hlt ⟨⟨E,E,E,E,E,E,Y⟩,⟨.inl E,E,.inl (congrArg (Ob.row 5 Dk) hsucc),E,Y⟩,E,E⟩
 have hjl:j = n.devices.length:=by
  have:¬ j < n.devices.length:=by simpa using h
  omega
 subst hjl
 have hall:(I6 n ranks).take n.devices.length = Cu n up ranks 0:=by rw [List.take_of_length_le (by simp [I6]),Cu]
 clear h hj
 refine rg ?_;conv=>whnf
 refine Av (n.devices.length + 1) (fun r=>[(2,.ref 8 (Ap n) 0),(5,.ptr 18 0),(7,Aa r)]) (fun r=>[(18,.box (Uy n up ranks (.osl 1000))),(1000,.row 5 Dk (Cu n up ranks r))]) []
  ⟨⟨rfl,rfl,rfl,rfl,rfl,rfl,trivial⟩,⟨.inl rfl,rfl,.inl (by rw [← hall]; rfl),rfl,trivial⟩,rfl,rfl⟩ ?_
 clear hall
 intro r hrn
 refine rg ?_;conv=>whnf
 refine ⟨fun h=>?_,fun h=>?_⟩
 ·have hlt:r < n.devices.length + 1:=by
   have:(r:Int) ≤ n.devices.length:=of_decide_eq_true h
   omega
  have hol:=D4 n up ranks r
  have hob:=Vo n up ranks hr hcost r
  have hnext:Cu n up ranks (r + 1) = J1 n up ranks (Cu n up ranks r) n.ports.length:=rfl
  obtain ⟨old,hold⟩:∃ old,Cu n up ranks r = old:=⟨_,rfl⟩
  rw [hold] at hol hob hnext ⊢
  have hz:J1 n up ranks old 0 = old:=rfl
  refine rg ?_;conv=>whnf
  refine Ai (Af Γ.toTy 62 E E E E E (.lit (e:=Dk) (l:=[]) E E) (.row (l:=old) E) (by simp) (by simp; omega) (by simp; omega)) E E ?_
  refine rg ?_;conv=>whnf
  refine As 62 E ?_
  refine Av n.ports.length (fun i=>[(2,.ref 8 (Ap n) 0),(5,.ptr 18 0),(7,Aa r),(8,.sl 5 Dk old),(9,Aa i)]) (fun i=>[(18,.box (Uy n up ranks (.osl 1000))),(1000,.row 5 Dk (J1 n up ranks old i))]) []
   ⟨⟨rfl,rfl,rfl,rfl,rfl,rfl,rfl,rfl,rfl,rfl,trivial⟩,⟨.inl rfl,rfl,.inl rfl,rfl,trivial⟩,rfl,rfl⟩ ?_
  intro i hi
  refine rg ?_;conv=>whnf
  refine ⟨fun h=>?_,fun h=>?_⟩
  ·have hil:i < n.ports.length:=by simpa using h
   have hul:=Jg n up ranks old i
   have hsucc:=L0 n up ranks old i
   rw [Xr] at hsucc
   have hfl:=Si (up:=up) hr hil
   have ei:Bk n i = (n.ports[(i:Int).toNat]'(by omega)).dev:=by rw [Bk,Ao (by omega)]
   have ec:Hk n i = (n.ports[(i:Int).toNat]'(by omega)).cost:=by rw [Hk,Ao (by omega)]
   have hpi:=Cp hr hil
   have hci:=Jv hcost hil
   generalize J1 n up ranks old i = u at *
   have hcall:=Aou n up ranks u i hr hu hil
   obtain ⟨f,hf'⟩:∃ f,B6 n up i = f:=⟨_,rfl⟩
   rw [hf'] at hfl hcall hsucc
   refine rg ?_;conv=>whnf
   refine Ai (Ak [(0,18),(1,1000)] E F135 hcall E ⟨E,E,Y⟩ E ⟨.inl E,.inl E,Y⟩) E E ?_
   refine rg ?_;conv=>whnf
   refine ⟨fun h=>?_,fun h=>?_⟩
   ·have hneg:f < 0:=of_decide_eq_true h
    rw [if_neg (fun hh=>absurd hh.1 (by omega))] at hsucc
    refine rg ?_;conv=>whnf
    refine ⟨by unfold I64; omega,?_⟩
    conv=>whnf
    exact Ar [] hil ⟨⟨E,E,E,E,E,E,E,E,E,E,Y⟩,⟨.inl E,E,.inl (congrArg (Ob.row 5 Dk) hsucc),E,Y⟩,E,E⟩
   have hneg:¬ f < 0:=of_decide_eq_false h
   obtain ⟨j,rfl⟩:∃ j:Nat,f = j:=⟨f.toNat,by omega⟩
   have hjl:=hfl (by omega)
   have ej:Bk n j = (n.ports[(j:Int).toNat]'(by omega)).dev:=by rw [Bk,Ao (by omega)]
   have hpj:=Cp hr (show j < n.ports.length by omega)
   obtain ⟨q,hq⟩:∃ q,n.ports[(j:Int).toNat]'(by omega) = q:=⟨_,rfl⟩
   rw [hq] at ej
   rw [ej] at hpj
   have hv:Lb n ranks old i j = ⟨(old[q.dev.toNat]'(by omega)).root,(old[q.dev.toNat]'(by omega)).cost + (n.ports[(i:Int).toNat]'(by omega)).cost,ranks[q.dev.toNat]'(by omega),j,i⟩:=by
    rw [Lb,ej,ec,Ao (l:=old) (i:=q.dev) (by omega),Ao (l:=ranks) (i:=q.dev) (by omega)]
   have hbo:=hob _ (List.getElem_mem (show q.dev.toNat < old.length by omega))
   rw [ec] at hci
   rw [ei] at hpi
   rw [Int.toNat_natCast,hv,ei,Ao (l:=u) (i:=(n.ports[(i:Int).toNat]'(by omega)).dev) (by omega)] at hsucc
   have hless:=Al9 ⟨(old[q.dev.toNat]'(by omega)).root,(old[q.dev.toNat]'(by omega)).cost + (n.ports[(i:Int).toNat]'(by omega)).cost,ranks[q.dev.toNat]'(by omega),j,i⟩ (u[(n.ports[(i:Int).toNat]'(by omega)).dev.toNat]'(by omega))
   refine rg ?_;conv=>whnf
   refine ⟨E,by omega,by omega,?_⟩
   rw [hq]
   conv=>whnf
   refine ⟨E,by omega,by omega,?_⟩
   conv=>whnf
   refine ⟨E,by omega,by omega,?_⟩
   conv=>whnf
   refine ⟨E,by omega,by omega,?_⟩
   conv=>whnf
   refine ⟨by unfold I64; omega,?_⟩
   conv=>whnf
   refine ⟨E,by omega,by omega,?_⟩
   conv=>whnf
   refine ⟨(by kernel_rfl),?_⟩
   conv=>whnf
   refine ⟨E,by omega,by omega,?_⟩
   conv=>whnf
   refine ⟨by omega,by omega,?_⟩
   conv=>whnf
   refine ⟨E,by omega,?_⟩
   conv=>whnf
   refine At hless F203 E E E (by kernel_rfl) E ?_
   refine rd (by kernel_rfl) ?_;conv=>whnf
   refine ⟨(by kernel_rfl),?_⟩
   conv=>whnf
   refine ⟨fun h=>?_,fun h=>?_⟩
   ·rw [if_pos ⟨by omega,h⟩] at hsucc
    refine rg ?_;conv=>whnf
    refine ⟨E,by omega,by omega,?_⟩
    conv=>whnf
    refine ⟨by omega,by omega,?_⟩
    conv=>whnf
    refine ⟨E,by omega,⟨(old[q.dev.toNat]'(by omega)).root,(old[q.dev.toNat]'(by omega)).cost + (n.ports[(i:Int).toNat]'(by omega)).cost,ranks[q.dev.toNat]'(by omega),j,i⟩,E,E,?_⟩
    conv=>whnf
    refine ⟨(by kernel_rfl),?_⟩
    conv=>whnf
    refine ⟨by unfold I64; omega,?_⟩
    conv=>whnf
    exact Ar [] hil ⟨⟨E,E,E,E,E,E,E,E,E,E,Y⟩,⟨.inl E,E,.inl (congrArg (Ob.row 5 Dk) hsucc),E,Y⟩,E,E⟩
   ·rw [if_neg (fun hh=>by rw [hh.2] at h; cases h)] at hsucc
    refine rg ?_;conv=>whnf
    refine ⟨by unfold I64; omega,?_⟩
    conv=>whnf
    exact Ar [] hil ⟨⟨E,E,E,E,E,E,E,E,E,E,Y⟩,⟨.inl E,E,.inl (congrArg (Ob.row 5 Dk) hsucc),E,Y⟩,E,E⟩
  have hil:i = n.ports.length:=by
   have:¬ i < n.ports.length:=by simpa using h
   omega
  subst hil
  refine rg ?_;conv=>whnf
  refine ⟨by unfold I64; omega,?_⟩
  conv=>whnf
  exact Ar [] (by omega) ⟨⟨E,E,E,E,E,E,Y⟩,⟨.inl E,E,.inl (congrArg (Ob.row 5 Dk) hnext),E,Y⟩,E,E⟩
 have hrl:r = n.devices.length + 1:=by
  have:¬ (r:Int) ≤ n.devices.length:=of_decide_eq_false h
  omega
 subst hrl
 refine rg ?_;conv=>whnf
 refine As 1000 E ?_
 refine Bf 18 11 (.agg (Uy n up ranks (.sl 5 Dk (Cu n up ranks (n.devices.length + 1))))) E E E ?_
 exact Ac E (.cons .tmp .nil) E E
def M4 (n:Net) (up:List Bool):List Vec:=Cu n up (Cm n) (n.devices.length + 1)
theorem Abm (n:Net) (up:List Bool):(M4 n up).length = n.devices.length:=D4 ..
theorem Aic {n:Net} {up:List Bool} (h:okB n up = true) {d:Int} (h0:0 ≤ d) (h1:d < n.devices.length) :
  (nth (M4 n up) d).root = nth (Q5 n up) d ∧ (nth (M4 n up) d).cost = nth (Sq n up) d ∧ (nth (M4 n up) d).own = Ew n up (Cm n) (Q5 n up) (Sq n up) d:=by
 obtain ⟨hu,hr,hcost⟩:=ok_iff.1 h
 exact Am2 (U8 h) hr hcost (Ee n) h0 h1
theorem Ap4 (n:Net) (up:List Bool) (hn:n.Fin):Sy.Spec Tryz.prog 133 [Ap n,.sl 1 Ad up] [] (Ad (okB n up)) []:=Ab Γ hm 100 F133 Tryz.ntmps133 rfl fun F hF=>by
 conv=>whnf
 (repeat' (first | (refine ⟨fun h=>?_,fun h=>?_⟩ <;> (repeat (first | simp only [beq_iff_eq] at h | simp only [beq_eq_false_iff_ne] at h)) <;> ((refine rg ?_);(conv=>whnf);repeat((refine aF ?_);(refine rg ?_);(conv=>whnf)))) | (refine Ac rfl (.cons .tmp .nil) ?_ rfl) | (refine Ag (Dv n hn) F74 rfl rfl rfl rfl rfl ?_; ((refine rg ?_);(conv=>whnf))) | (refine Ag (Ajr n hn.ports) F201 rfl rfl rfl rfl rfl ?_; ((refine rg ?_);(conv=>whnf)))))
 all_goals (refine congrArg Ad ?_; clear hF; simp_all [okB])
 all_goals omega
theorem Ac6 (n:Net) (up:List Bool) (hn:n.Fin) (h:okB n up = false):Sy.Spec Tryz.prog 73 [Ap n,.sl 1 Ad up] [] (.tup [.sl 1 Aa [],Aa 2]) []:=Ab Γ hm 100 F73 Tryz.ntmps73 rfl fun F hF=>by
 have hfit:=Ap4 n up hn
 rw [h] at hfit
 conv=>whnf
 refine Ag hfit F133 E E E E E ?_
 (refine rg ?_;(conv=>whnf);refine aT ?_;refine rg ?_;conv=>whnf)
 refine Am 4 1 Aa E ?_
 exact Ac E (.cons .tmp (.cons .tmp .nil)) E E
theorem Aji {n:Net} {up:List Bool} (h:okB n up = true) {i:Nat} (hi:i < n.ports.length) :
  (B6 n up i < 0 → nth (Iz n up) i = 0) ∧ (∀ j:Nat,B6 n up i = j → nth (Iz n up) i = if (nth (M4 n up) (Bk n i)).own = i then 1 else
   if (nth (M4 n up) (Bk n i)).cost < (nth (M4 n up) (Bk n j)).cost ∨ ((nth (M4 n up) (Bk n i)).cost = (nth (M4 n up) (Bk n j)).cost ∧ nth (Cm n) (Bk n i) < nth (Cm n) (Bk n j)) then 2 else 3):=by
 obtain ⟨hu,hr,hcost⟩:=ok_iff.1 h
 refine ⟨fun hf=>Ajh h hi hf,fun j hj=>?_⟩
 have hop:Hop n up i j:=⟨hi,hj⟩
 have hpi:=Cp hr hi
 have hpj:=Cp hr (Ez hr hop)
 obtain ⟨_,k1,k2⟩:=Aic h hpi.1 hpi.2
 obtain ⟨_,k3,_⟩:=Aic h hpj.1 hpj.2
 rw [Iz,Zo hr hi,Ajj hop,k1,k2,k3]
theorem Afj (n:Net) (up:List Bool) (hn:n.Fin) (h:okB n up = true):Sy.Spec Tryz.prog 73 [Ap n,.sl 1 Ad up] [] (.tup [.sl 1 Aa (Iz n up),Aa 0]) []:=Ab Γ hm 100 F73 Tryz.ntmps73 rfl fun F hF=>by
 have hfit:=Ap4 n up hn
 rw [h] at hfit
 obtain ⟨hu,hr,hcost⟩:=ok_iff.1 h
 have hf:=Cq hr
 have hkn:=Amb n up hn hu hr hcost
 have hkl:=Abm n up
 have hrk:=Ee n
 have hrole:=fun i hi=>Aji h (i:=i) hi
 have hrl:=Kr n up
 rw [show Cu n up (Cm n) (n.devices.length + 1) = M4 n up from rfl] at hkn
 generalize Cm n = ranks at *
 generalize M4 n up = best at *
 generalize Iz n up = roles at *
 clear h
 conv=>whnf
 refine Ag hfit F133 E E E E E ?_
 (refine rg ?_;(conv=>whnf);refine aF ?_;refine rg ?_;conv=>whnf)
 refine Ag hkn F134 E E E E E ?_
 refine rg ?_;conv=>whnf
 refine Bf 2 8 (Ap n) E E E ?_
 refine Bs 7 1000 1 Aa E E ?_
 refine Av n.ports.length (fun j=>[(2,.ref 8 (Ap n) 0),(6,Ags n up ranks best),(7,.osl 1000),(8,Aa j)]) (fun j=>[(1000,.row 1 Aa (roles.take j))]) []
  ⟨⟨rfl,rfl,rfl,rfl,rfl,rfl,rfl,rfl,trivial⟩,⟨.inl (by simp only [List.take_zero]; rfl),rfl,trivial⟩,rfl,rfl⟩ ?_
 intro i hi
 refine rg ?_;conv=>whnf
 refine ⟨fun h=>?_,fun h=>?_⟩
 ·have hlt:i < n.ports.length:=by simpa using h
  obtain ⟨hr0,hr1⟩:=hrole i hlt
  have hsucc:roles.take (i + 1) = roles.take i ++ [roles[i]'(by omega)]:=List.take_succ_eq_append_getElem (by omega)
  have hln:(roles.take i).length ≤ 40:=by simp; omega
  rw [Ao (l:=roles) (i:=(i:Int)) (by omega)] at hr0
  rw [Ao (l:=roles) (i:=(i:Int)) (by omega)] at hr1
  simp only [Int.toNat_natCast] at hr0 hr1
  generalize roles.take i = o at *
  have hcall:=Aot n up ranks best i hr hu hlt
  have hfl:=Si (up:=up) hr hlt
  obtain ⟨f,hf'⟩:∃ f,B6 n up i = f:=⟨_,rfl⟩
  rw [hf'] at hfl hcall hr0 hr1
  refine rg ?_;conv=>whnf
  refine Ag hcall F135 E E E E E ?_
  refine rg ?_;conv=>whnf
  refine ⟨fun h=>?_,fun h=>?_⟩
  ·have hpos:0 ≤ f:=of_decide_eq_true h
   obtain ⟨j,rfl⟩:∃ j:Nat,f = j:=⟨f.toNat,by omega⟩
   have hjl:=hfl (by omega)
   have hr1:=hr1 j rfl
   have ei:Bk n i = (n.ports[(i:Int).toNat]'(by omega)).dev:=by rw [Bk,Ao (by omega)]
   have ej:Bk n j = (n.ports[(j:Int).toNat]'(by omega)).dev:=by rw [Bk,Ao (by omega)]
   obtain ⟨p,hp⟩:∃ q,n.ports[(i:Int).toNat]'(by omega) = q:=⟨_,rfl⟩
   obtain ⟨q,hq⟩:∃ q,n.ports[(j:Int).toNat]'(by omega) = q:=⟨_,rfl⟩
   have hpi:=Cp hr hlt
   have hpj:=Cp hr (show j < n.ports.length by omega)
   rw [hp] at ei
   rw [hq] at ej
   rw [ei] at hpi
   rw [ej] at hpj
   rw [ei,ej,Ao (l:=best) (i:=p.dev) (by omega),Ao (l:=best) (i:=q.dev) (by omega),Ao (l:=ranks) (i:=p.dev) (by omega),Ao (l:=ranks) (i:=q.dev) (by omega)] at hr1
   refine rg ?_;conv=>whnf
   refine ⟨E,by omega,by omega,?_⟩
   rw [hp]
   conv=>whnf
   refine ⟨E,by omega,by omega,?_⟩
   rw [hq]
   conv=>whnf
   refine ⟨(by kernel_rfl),?_⟩
   conv=>whnf
   (repeat' (first | (refine ⟨fun h=>?_,fun h=>?_⟩ <;> (repeat (first | simp only [decide_eq_true_eq] at h | simp only [decide_eq_false_iff_not] at h | simp only [beq_iff_eq] at h | simp only [beq_eq_false_iff_ne] at h)) <;> ((first|refine rg ?_|refine rd (by kernel_rfl) ?_);(conv=>whnf))) | (refine ⟨(by kernel_rfl),?_⟩; ((conv=>whnf);repeat((first|refine aF ?_|refine aT ?_);(refine rg ?_);(conv=>whnf)))) | (refine ⟨by (omega),by (omega),?_⟩; ((conv=>whnf))) | (refine ⟨by (unfold I64; omega),?_⟩; ((conv=>whnf))) | (refine Ai (Af Γ.toTy 110 rfl rfl rfl rfl rfl (.row rfl) (.lit (e:=Aa) (l:=[(1:Int)]) rfl rfl) (by simp) (by simp; omega) (by simp; omega)) rfl rfl ?_; ((refine rg ?_);(conv=>whnf))) | (refine Ai (Af Γ.toTy 110 rfl rfl rfl rfl rfl (.row rfl) (.lit (e:=Aa) (l:=[(2:Int)]) rfl rfl) (by simp) (by simp; omega) (by simp; omega)) rfl rfl ?_; ((refine rg ?_);(conv=>whnf))) | (refine Ai (Af Γ.toTy 110 rfl rfl rfl rfl rfl (.row rfl) (.lit (e:=Aa) (l:=[(3:Int)]) rfl rfl) (by simp) (by simp; omega) (by simp; omega)) rfl rfl ?_; ((refine rg ?_);(conv=>whnf))) | refine Ar [(1000,110)] hlt ⟨⟨rfl,rfl,rfl,rfl,rfl,rfl,rfl,rfl,trivial⟩,⟨.inl (congrArg (Ob.row 1 Aa) ?_),rfl,trivial⟩,rfl,rfl⟩))
   all_goals (rw [hsucc,hr1]; clear hF hfit hkn hcall hrole; refine congrArg (fun z=>o ++ [z]) ?_; grind)
  ·have hneg:f < 0:=by
    have:¬ 0 ≤ f:=of_decide_eq_false h
    omega
   rw [hr0 hneg] at hsucc
   refine rg ?_;conv=>whnf
   refine Ai (Af Γ.toTy 110 E E E E E (.row E) (.lit (e:=Aa) (l:=[(0:Int)]) E E) (by simp) (by simp; omega) (by simp; omega)) E E ?_
   refine rg ?_;conv=>whnf
   refine ⟨by unfold I64; omega,?_⟩
   conv=>whnf
   exact Ar [(1000,110)] hlt ⟨⟨E,E,E,E,E,E,E,E,Y⟩,⟨.inl (congrArg (Ob.row 1 Aa) hsucc),E,Y⟩,E,E⟩
 have hjj:i = n.ports.length:=by
  have:¬ i < n.ports.length:=by simpa using h
  omega
 subst hjj
 rw [List.take_of_length_le (by omega)]
 refine rg ?_;conv=>whnf
 refine As 1000 E ?_
 exact Ac E (.cons .tmp (.cons .tmp .nil)) E E
theorem Qn (n:Net) (up:List Bool) (hn:n.Fin) (h:okB n up = false):Sy.Spec Tryz.prog 34 [Ap n,.sl 1 Ad up] [] (.tup [.sl 1 Ad [],Aa 2]) []:=Ab Γ hm 100 F34 Tryz.ntmps34 rfl fun F hF=>by
 conv=>whnf
 refine Ag (Ac6 n up hn h) F73 E E E E E ?_
 (refine rg ?_;(conv=>whnf);refine aT ?_;refine rg ?_;conv=>whnf)
 refine Am 4 1 Ad E ?_
 exact Ac E (.cons .tmp (.cons .tmp .nil)) E E
theorem Apf (roles:List Int) (l:Link):U4 roles l = ((nth roles l.a == 1 && nth roles l.b == 2) || (nth roles l.a == 2 && nth roles l.b == 1)):=by
 simp only [U4,inB,List.any_cons,List.any_nil,Bool.or_false]
 rw [Bool.eq_iff_iff]
 simp only [Bool.and_eq_true,Bool.or_eq_true,beq_iff_eq]
 omega
theorem S8 (n:Net) (up:List Bool) (hn:n.Fin) (h:okB n up = true):Sy.Spec Tryz.prog 34 [Ap n,.sl 1 Ad up] [] (.tup [.sl 1 Ad (Anl n up),Aa 0]) []:=Ab Γ hm 100 F34 Tryz.ntmps34 rfl fun F hF=>by
 obtain ⟨hu,hr,hcost⟩:=ok_iff.1 h
 have hf:=Cq hr
 have hro:=Afj n up hn h
 have hrl:=Kr n up
 rw [Anl]
 generalize Iz n up = roles at *
 conv=>whnf
 refine Ag hro F73 E E E E E ?_
 (refine rg ?_;(conv=>whnf);refine aF ?_;refine rg ?_;conv=>whnf)
 refine Bf 2 8 (Ap n) E E E ?_
 refine Bs 8 1000 1 Ad E E ?_
 refine Av n.links.length (fun j=>[(2,.ref 8 (Ap n) 0),(6,.sl 1 Aa roles),(8,.osl 1000),(9,Aa j)]) (fun j=>[(1000,.row 1 Ad ((n.links.take j).map (U4 roles)))]) []
  ⟨⟨rfl,rfl,rfl,rfl,rfl,rfl,rfl,rfl,trivial⟩,⟨.inl (by simp only [List.take_zero,List.map_nil]; rfl),rfl,trivial⟩,rfl,rfl⟩ ?_
 intro j hj
 refine rg ?_;conv=>whnf
 refine ⟨fun h=>?_,fun h=>?_⟩
 ·have hlt:j < n.links.length:=by simpa using h
  have he:=H7 hr hlt
  have e1:n.links[(j:Int).toNat]'(by omega) = n.links[j]:=rfl
  have hsucc:(n.links.take (j + 1)).map (U4 roles) = (n.links.take j).map (U4 roles) ++ [U4 roles n.links[j]]:=by
   rw [List.take_succ_eq_append_getElem hlt,List.map_append]; rfl
  have hln:((n.links.take j).map (U4 roles)).length ≤ 20:=by simp; omega
  obtain ⟨o,ho'⟩:∃ o,(n.links.take j).map (U4 roles) = o:=⟨_,rfl⟩
  rw [ho'] at hsucc hln ⊢
  obtain ⟨l,hl⟩:∃ l,n.links[j] = l:=⟨_,rfl⟩
  rw [hl] at e1 hsucc he
  have hA:0 ≤ l.a ∧ l.a < roles.length:=by omega
  have hB:0 ≤ l.b ∧ l.b < roles.length:=by omega
  rw [Apf,Ao (l:=roles) (i:=l.a) (by omega),Ao (l:=roles) (i:=l.b) (by omega)] at hsucc
  obtain ⟨x,hx⟩:∃ x,roles[l.a.toNat]'(by omega) = x:=⟨_,rfl⟩
  obtain ⟨y,hy⟩:∃ y,roles[l.b.toNat]'(by omega) = y:=⟨_,rfl⟩
  rw [hx,hy] at hsucc
  refine rg ?_;conv=>whnf
  refine ⟨E,by omega,by omega,?_⟩
  rw [e1]
  conv=>whnf
  refine ⟨E,by omega,by omega,?_⟩
  rw [hx]
  conv=>whnf
  refine ⟨E,by omega,by omega,?_⟩
  rw [e1]
  conv=>whnf
  refine ⟨E,by omega,by omega,?_⟩
  rw [hy]
  conv=>whnf
  refine ⟨(by kernel_rfl),?_⟩
  conv=>whnf
  (repeat' (first | (refine ⟨fun h=>?_,fun h=>?_⟩ <;> (repeat (first | simp only [beq_iff_eq] at h | simp only [beq_eq_false_iff_ne] at h)) <;> ((refine rg ?_);(conv=>whnf);repeat((refine aF ?_);(refine rg ?_);(conv=>whnf)))) | (refine ⟨by (unfold I64; omega),?_⟩; ((conv=>whnf))) | (refine Ai (Af Γ.toTy 62 rfl rfl rfl rfl rfl (.row rfl) (.lit (e:=Ad) (l:=[true]) rfl rfl) (by simp) (by simp; omega) (by simp; omega)) rfl rfl ?_; ((refine rg ?_);(conv=>whnf))) | (refine Ai (Af Γ.toTy 62 rfl rfl rfl rfl rfl (.row rfl) (.lit (e:=Ad) (l:=[false]) rfl rfl) (by simp) (by simp; omega) (by simp; omega)) rfl rfl ?_; ((refine rg ?_);(conv=>whnf))) | (refine Ai (Af Γ.toTy 62 rfl rfl rfl rfl rfl (.row rfl) (.lit (e:=Ad) (l:=[y == 1]) rfl rfl) (by simp) (by simp; omega) (by simp; omega)) rfl rfl ?_; ((refine rg ?_);(conv=>whnf))) | refine Ar [(1000,62)] hlt ⟨⟨rfl,rfl,rfl,rfl,rfl,rfl,rfl,rfl,trivial⟩,⟨.inl (congrArg (Ob.row 1 Ad) ?_),rfl,trivial⟩,rfl,rfl⟩))
  all_goals (rw [hsucc]; clear hF hro; refine congrArg (fun z=>o ++ [z]) ?_; clear hsucc; simp_all)
 have hjj:j = n.links.length:=by
  have:¬ j < n.links.length:=by simpa using h
  omega
 subst hjj
 rw [List.take_length]
 refine rg ?_;conv=>whnf
 refine As 1000 E ?_
 exact Ac E (.cons .tmp (.cons .tmp .nil)) E E
def Ans (n:Net) (m:MacM) (q:QueuedM) (l:List SeenM):Obs:=[(0,.box (Ix n m.up m.now m.injected m.drops)),(902,.row 1 J9 m.tables),(903,.row 1 Md m.queues),(5,.box (queL q)),(1000,.row 3 A8 l)]
theorem Anr (n:Net) (hn:n.Fin) (hm1:n.Num) (m:MacM) (J D:Int) (hm0:MacOK n m J D) (hD0:0 ≤ D) (hD:D ≤ 900000000000) (x:StepM) :
  Sy.Spec Tryz.prog 38 [.ptr 0 0,Dp x] (Ej n m) (.sl 3 A8 (pickT n m x.domain x.at_).2) (Ej n (pickT n m x.domain x.at_).1):=Ab Γ hm 100 F38 Tryz.ntmps38 rfl fun F hF=>by
 have hres:=pickT.eq_1 n m x.domain x.at_
 generalize pickT n m x.domain x.at_ = res at *
 have q1:=Aen n m x (Cv hm0 x.domain)
 have hok:=Sz hm0 x.domain x.at_
 have hpl:(takeM m x.domain x.at_).2.2 = true → 0 ≤ x.domain ∧ x.domain.toNat < m.queues.length:=fun h=>by
  unfold takeM at h
  split at h
  ·cases h
  ·rename_i h2
   exact placeB_iff.1 (by cases hx:Al x.domain m.queues.length; exact absurd hx h2; rfl)
 have htl:(takeM m x.domain x.at_).1.tables = m.tables:=by unfold takeM; split <;> rfl
 generalize takeM m x.domain x.at_ = r at *
 obtain ⟨m1,q,ok⟩:=r
 have htq:m.queues.length = m.tables.length:=by rw [hm0.ques,hm0.tabs]
 conv=>whnf
 refine Ai (Ak [] E F39 q1 E ⟨E,E,E,Y⟩ E ⟨.inl E,.inl E,.inl E,Y⟩) E E ?_
 refine rg ?_;conv=>whnf
 cases ok
 ·rw [if_pos rfl] at hres
  subst hres
  (refine ⟨fun _=>?_,fun h=>False.elim (by simp at h)⟩;refine rg ?_;conv=>whnf)
  refine Am 4 3 A8 E ?_
  exact done E (.cons .tmp .nil) [] (Ej n m1) (fun _ h=>h) E E ⟨Y,⟨.inl E,E,.inl E,E,.inl E,E,Y⟩,E,E⟩
 rw [if_neg (by simp)] at hres
 have hd:=hpl rfl
 have hd2:0 ≤ x.domain ∧ x.domain.toNat < m1.tables.length:=by rw [htl,← htq]; exact hd
 dsimp only at hres hok
 have hf:∃ e,Sy.Spec Tryz.prog 34 [Ap n,.sl 1 Ad m1.up] [] (.tup [.sl 1 Ad (Hq n m1.up),Aa e]) []:=by
  unfold Hq
  split
  ·rename_i h; exact ⟨0,S8 n m1.up hn h⟩
  ·rename_i h; exact ⟨2,Qn n m1.up hn (by simpa using h)⟩
 obtain ⟨ef,hf⟩:=hf
 have q3:=Afp n hn hm1 (Hq n m1.up) (tableL m1 x.domain) x.domain q m1.now (K0 hok.1 x.domain) hok.2
 have hb1:=On (n:=n) (fw:=Hq n m1.up) (dom:=x.domain) (now:=m1.now) (K0 hok.1 x.domain) hok.2
 have hb2:=Oo (fw:=Hq n m1.up) (t:=tableL m1 x.domain) (dom:=x.domain) (now:=m1.now) hn hm1 hok.2
 have hb3:=Ko hn (Hq n m1.up) (tableL m1 x.domain) x.domain q m1.now
 have hb4:=Vx n (Hq n m1.up) (tableL m1 x.domain) x.domain q m1.now
 rw [Te] at hres
 have hz:=Xj hok.1 hD0 x.domain hb1
 have hdr0:∀ i,0 ≤ m1.drops i ∧ m1.drops i ≤ 1000000000000:=fun i=>⟨(hok.1.drp i).1,by have:=(hok.1.drp i).2; omega⟩
 generalize bridgeT n (Hq n m1.up) (tableL m1 x.domain) x.domain q m1.now = b at *
 generalize Hq n m1.up = fw at *
 obtain ⟨t,out,e⟩:=b
 have hb2:∀ o ∈ out,OutOK n o:=hb2
 have hb3:out.length < 4294967296:=hb3
 have hb4:Bu e:=hb4
 have ht0:=tableL.eq_1 m1 x.domain
 rw [O9 hd2.2] at ht0
 generalize tableL m1 x.domain = t0 at *
 subst ht0
 (refine ⟨fun h=>False.elim (by simp at h),fun _=>?_⟩;refine rg ?_;conv=>whnf)
 refine At hf F34 E E E (by kernel_rfl) E ?_
 refine rd (by kernel_rfl) ?_;conv=>whnf
 refine ⟨(by kernel_rfl),?_⟩
 conv=>whnf
 refine ⟨hd2.1,hd2.2,?_⟩
 conv=>whnf
 refine ⟨E,hd2.2,?_⟩
 conv=>whnf
 refine At q3 F81 E E E (by kernel_rfl) E ?_
 refine rd (by kernel_rfl) ?_;conv=>whnf
 refine ⟨(by kernel_rfl),?_⟩
 conv=>whnf
 refine ⟨fun h=>?_,fun h=>?_⟩
 ·have h2:¬ e = 2:=by simpa using h
  clear h
  refine rg ?_;conv=>whnf
  refine ⟨hd2.1,hd2.2,?_⟩
  conv=>whnf
  refine ⟨E,hd2.2,t,E,E,?_⟩
  conv=>whnf
  refine ⟨(by kernel_rfl),?_⟩
  conv=>whnf
  refine ⟨fun h=>?_,fun h=>?_⟩
  ·have h3:¬ e = 0:=by simpa using h
   clear h
   have hpd:I5 m1 x.domain (t,out,e) = Be (Bv m1 x.domain t) e:=by
    unfold I5
    rw [if_neg h2,if_pos h3]
   rw [hpd] at hres hz
   subst hres
   have hbe:=hdr0 e.toNat
   have hg:Hf ⟨.int .i64,1,[.int .i64 0]⟩ (Ix n (Bv m1 x.domain t).up (Bv m1 x.domain t).now (Bv m1 x.domain t).injected (Bv m1 x.domain t).drops) (0 + 13 + e.toNat * 1) = _:=Iw n (Bv m1 x.domain t).up (Bv m1 x.domain t).now (Bv m1 x.domain t).injected (Bv m1 x.domain t).drops e.toNat (by have:=hb4.2; omega)
   have hgl:=Kl (Iw n (Bv m1 x.domain t).up (Bv m1 x.domain t).now (Bv m1 x.domain t).injected (Bv m1 x.domain t).drops e.toNat (by have:=hb4.2; omega))
   have hst2:setAt (Ix n (Bv m1 x.domain t).up (Bv m1 x.domain t).now (Bv m1 x.domain t).injected (Bv m1 x.domain t).drops) (0 + 13 + e.toNat * 1) [.val (.int .i64 ((Bv m1 x.domain t).drops e.toNat + 1))] = Ix n (Bv m1 x.domain t).up (Bv m1 x.domain t).now (Bv m1 x.domain t).injected (Be (Bv m1 x.domain t) e).drops:=by rw [Lh n (Bv m1 x.domain t) e,K1]
   have hble:Nat.ble (0 + 13 + e.toNat * 1 + 1) (Ix n (Bv m1 x.domain t).up (Bv m1 x.domain t).now (Bv m1 x.domain t).injected (Bv m1 x.domain t).drops).length = true:=Nat.ble_eq_true_of_le hgl
   refine rg ?_;conv=>whnf
   refine ⟨hb4.1,by have:=hb4.2; show e.toNat < 64; omega,?_⟩
   conv=>whnf
   refine Ah8 ?_ hg
   conv=>whnf
   refine ⟨(show I64 (m1.drops e.toNat + 1) by unfold I64; omega),?_⟩
   conv=>whnf
   refine ⟨hb4.1,by have:=hb4.2; show e.toNat < 64; omega,?_⟩
   conv=>whnf
   refine We (Ail hst2 ?_) hble
   conv=>whnf
   refine ⟨(by kernel_rfl),?_⟩
   conv=>whnf
   have hdr:Hb (Be (Bv m1 x.domain t) e):=fun i=>⟨(hz.drp i).1,by have:=(hz.drp i).2; omega⟩
   refine Bs 12 1000 3 A8 E E ?_
   refine Av out.length (fun j=>[(0,.ptr 0 0),(5,.ptr 5 0),(10,.sl 9 Bh out),(12,.osl 1000),(13,Aa j)]) (fun j=>Ans n (Bb n (Be (Bv m1 x.domain t) e) q.origin (out.take j)).1 q (Bb n (Be (Bv m1 x.domain t) e) q.origin (out.take j)).2) [] ⟨⟨E,E,E,E,E,E,E,E,E,E,Y⟩,⟨.inl E,E,.inl E,E,.inl E,E,.inl E,E,.inl E,E,Y⟩,E,E⟩ ?_
   intro j hj
   refine rg ?_;conv=>whnf
   refine ⟨fun h=>?_,fun h=>?_⟩
   ·have hlt:j < out.length:=by have:=of_decide_eq_true h; omega
    have hj0:((j:Nat):Int).toNat < out.length:=by simpa using hlt
    obtain ⟨o,hoo⟩:∃ o,out[j] = o:=⟨_,rfl⟩
    have e1:out[((j:Nat):Int).toNat]'hj0 = o:=hoo
    have hs:=Ib n (Be (Bv m1 x.domain t) e) q.origin out j hlt
    rw [hoo] at hs
    have hjo:=Iv hn q.origin (out.take j) hz (by omega) (fun x hx=>hb2 x (List.mem_of_mem_take hx))
    have hlen:(out.take j).length = j:=by rw [List.length_take]; omega
    rw [hlen] at hjo
    have hsl:=Hl n q.origin (out.take j) (Be (Bv m1 x.domain t) e)
    rw [hlen] at hsl
    have q5:=Abx n hn hm1 (Bb n (Be (Bv m1 x.domain t) e) q.origin (out.take j)).1 J _ hjo (by omega) o (hb2 o (by rw [← hoo]; exact List.getElem_mem hlt)) q.origin
    have hfw:=Ia n (Bb n (Be (Bv m1 x.domain t) e) q.origin (out.take j)).1 o q.origin
    clear h
    refine rg ?_;conv=>whnf
    refine ⟨E,by omega,hj0,?_⟩
    rw [e1]
    conv=>whnf
    refine Bj (Ak [] E F82 q5 E ⟨E,E,E,Y⟩ E ⟨.inl E,.inl E,.inl E,Y⟩) (by kernel_rfl) E ?_
    refine rd (by kernel_rfl) ?_;conv=>whnf
    refine Bj (Af Γ.toTy 96 E E E E E (.row E) .sl (by simp) (by omega) (by omega)) (by kernel_rfl) E ?_
    refine rd (by kernel_rfl) ?_;conv=>whnf
    refine ⟨(by kernel_rfl),?_⟩
    conv=>whnf
    refine ⟨by unfold I64; omega,?_⟩
    conv=>whnf
    have g1:(Bb n (Be (Bv m1 x.domain t) e) q.origin (out.take (j + 1))).1 = (goesM n (Bb n (Be (Bv m1 x.domain t) e) q.origin (out.take j)).1 o q.origin).1:=by rw [hs]
    have g2:(Bb n (Be (Bv m1 x.domain t) e) q.origin (out.take (j + 1))).2 = (Bb n (Be (Bv m1 x.domain t) e) q.origin (out.take j)).2 ++ (goesM n (Bb n (Be (Bv m1 x.domain t) e) q.origin (out.take j)).1 o q.origin).2:=by rw [hs]
    refine Ar [(1000,96)] hlt ⟨⟨E,E,E,E,E,E,E,E,E,E,Y⟩,?_,E,E⟩
    dsimp only
    rw [g1,g2]
    exact ⟨.inl E,E,.inl E,E,.inl E,E,.inl E,E,.inl E,E,Y⟩
   ·have hjj:j = out.length:=by have:=of_decide_eq_false h; omega
    subst hjj
    rw [List.take_length]
    clear h
    refine rg ?_;conv=>whnf
    refine As 1000 E ?_
    exact done E (.cons .tmp .nil) [] (Ej n (Bb n (Be (Bv m1 x.domain t) e) q.origin out).1) (fun _ h=>h) E E ⟨Y,⟨.inl E,E,.inl E,E,.inl E,E,Y⟩,E,E⟩
  ·have h3:e = 0:=by simpa using h
   clear h
   have hpd:I5 m1 x.domain (t,out,e) = Bv m1 x.domain t:=by
    unfold I5
    rw [if_neg h2,if_neg (fun h=>h h3)]
   rw [hpd] at hres hz
   subst hres
   refine rg ?_;conv=>whnf
   have hdr:Hb (Bv m1 x.domain t):=fun i=>⟨(hz.drp i).1,by have:=(hz.drp i).2; omega⟩
   refine Bs 12 1000 3 A8 E E ?_
   refine Av out.length (fun j=>[(0,.ptr 0 0),(5,.ptr 5 0),(10,.sl 9 Bh out),(12,.osl 1000),(13,Aa j)]) (fun j=>Ans n (Bb n (Bv m1 x.domain t) q.origin (out.take j)).1 q (Bb n (Bv m1 x.domain t) q.origin (out.take j)).2) [] ⟨⟨E,E,E,E,E,E,E,E,E,E,Y⟩,⟨.inl E,E,.inl E,E,.inl E,E,.inl E,E,.inl E,E,Y⟩,E,E⟩ ?_
   intro j hj
   refine rg ?_;conv=>whnf
   refine ⟨fun h=>?_,fun h=>?_⟩
   ·have hlt:j < out.length:=by have:=of_decide_eq_true h; omega
    have hj0:((j:Nat):Int).toNat < out.length:=by simpa using hlt
    obtain ⟨o,hoo⟩:∃ o,out[j] = o:=⟨_,rfl⟩
    have e1:out[((j:Nat):Int).toNat]'hj0 = o:=hoo
    have hs:=Ib n (Bv m1 x.domain t) q.origin out j hlt
    rw [hoo] at hs
    have hjo:=Iv hn q.origin (out.take j) hz (by omega) (fun x hx=>hb2 x (List.mem_of_mem_take hx))
    have hlen:(out.take j).length = j:=by rw [List.length_take]; omega
    rw [hlen] at hjo
    have hsl:=Hl n q.origin (out.take j) (Bv m1 x.domain t)
    rw [hlen] at hsl
    have q5:=Abx n hn hm1 (Bb n (Bv m1 x.domain t) q.origin (out.take j)).1 J _ hjo (by omega) o (hb2 o (by rw [← hoo]; exact List.getElem_mem hlt)) q.origin
    have hfw:=Ia n (Bb n (Bv m1 x.domain t) q.origin (out.take j)).1 o q.origin
    clear h
    refine rg ?_;conv=>whnf
    refine ⟨E,by omega,hj0,?_⟩
    rw [e1]
    conv=>whnf
    refine Bj (Ak [] E F82 q5 E ⟨E,E,E,Y⟩ E ⟨.inl E,.inl E,.inl E,Y⟩) (by kernel_rfl) E ?_
    refine rd (by kernel_rfl) ?_;conv=>whnf
    refine Bj (Af Γ.toTy 96 E E E E E (.row E) .sl (by simp) (by omega) (by omega)) (by kernel_rfl) E ?_
    refine rd (by kernel_rfl) ?_;conv=>whnf
    refine ⟨(by kernel_rfl),?_⟩
    conv=>whnf
    refine ⟨by unfold I64; omega,?_⟩
    conv=>whnf
    have g1:(Bb n (Bv m1 x.domain t) q.origin (out.take (j + 1))).1 = (goesM n (Bb n (Bv m1 x.domain t) q.origin (out.take j)).1 o q.origin).1:=by rw [hs]
    have g2:(Bb n (Bv m1 x.domain t) q.origin (out.take (j + 1))).2 = (Bb n (Bv m1 x.domain t) q.origin (out.take j)).2 ++ (goesM n (Bb n (Bv m1 x.domain t) q.origin (out.take j)).1 o q.origin).2:=by rw [hs]
    refine Ar [(1000,96)] hlt ⟨⟨E,E,E,E,E,E,E,E,E,E,Y⟩,?_,E,E⟩
    dsimp only
    rw [g1,g2]
    exact ⟨.inl E,E,.inl E,E,.inl E,E,.inl E,E,.inl E,E,Y⟩
   ·have hjj:j = out.length:=by have:=of_decide_eq_false h; omega
    subst hjj
    rw [List.take_length]
    clear h
    refine rg ?_;conv=>whnf
    refine As 1000 E ?_
    exact done E (.cons .tmp .nil) [] (Ej n (Bb n (Bv m1 x.domain t) q.origin out).1) (fun _ h=>h) E E ⟨Y,⟨.inl E,E,.inl E,E,.inl E,E,Y⟩,E,E⟩
 ·have h2:e = 2:=by simpa using h
  clear h
  have hpd:I5 m1 x.domain (t,out,e) = Be m1 e:=by
   unfold I5
   rw [if_pos h2,h2]
  rw [hpd] at hres hz
  subst hres
  refine rg ?_;conv=>whnf
  refine ⟨fun _=>?_,fun h=>False.elim (by rw [h2] at h; simp at h)⟩
  have hbe:=hdr0 e.toNat
  have hg:Hf ⟨.int .i64,1,[.int .i64 0]⟩ (Ix n (m1).up (m1).now (m1).injected (m1).drops) (0 + 13 + e.toNat * 1) = _:=Iw n (m1).up (m1).now (m1).injected (m1).drops e.toNat (by have:=hb4.2; omega)
  have hgl:=Kl (Iw n (m1).up (m1).now (m1).injected (m1).drops e.toNat (by have:=hb4.2; omega))
  have hst2:setAt (Ix n (m1).up (m1).now (m1).injected (m1).drops) (0 + 13 + e.toNat * 1) [.val (.int .i64 ((m1).drops e.toNat + 1))] = Ix n (m1).up (m1).now (m1).injected (Be (m1) e).drops:=by rw [Lh n (m1) e,K1]
  have hble:Nat.ble (0 + 13 + e.toNat * 1 + 1) (Ix n (m1).up (m1).now (m1).injected (m1).drops).length = true:=Nat.ble_eq_true_of_le hgl
  refine rg ?_;conv=>whnf
  refine ⟨hb4.1,by have:=hb4.2; show e.toNat < 64; omega,?_⟩
  conv=>whnf
  refine Ah8 ?_ hg
  conv=>whnf
  refine ⟨(show I64 (m1.drops e.toNat + 1) by unfold I64; omega),?_⟩
  conv=>whnf
  refine ⟨hb4.1,by have:=hb4.2; show e.toNat < 64; omega,?_⟩
  conv=>whnf
  refine We (Ail hst2 ?_) hble
  conv=>whnf
  refine ⟨(by kernel_rfl),?_⟩
  conv=>whnf
  have hdr:Hb (Be m1 e):=fun i=>⟨(hz.drp i).1,by have:=(hz.drp i).2; omega⟩
  refine Bs 12 1000 3 A8 E E ?_
  refine Av out.length (fun j=>[(0,.ptr 0 0),(5,.ptr 5 0),(10,.sl 9 Bh out),(12,.osl 1000),(13,Aa j)]) (fun j=>Ans n (Bb n (Be m1 e) q.origin (out.take j)).1 q (Bb n (Be m1 e) q.origin (out.take j)).2) [] ⟨⟨E,E,E,E,E,E,E,E,E,E,Y⟩,⟨.inl E,E,.inl E,E,.inl E,E,.inl E,E,.inl E,E,Y⟩,E,E⟩ ?_
  intro j hj
  refine rg ?_;conv=>whnf
  refine ⟨fun h=>?_,fun h=>?_⟩
  ·have hlt:j < out.length:=by have:=of_decide_eq_true h; omega
   have hj0:((j:Nat):Int).toNat < out.length:=by simpa using hlt
   obtain ⟨o,hoo⟩:∃ o,out[j] = o:=⟨_,rfl⟩
   have e1:out[((j:Nat):Int).toNat]'hj0 = o:=hoo
   have hs:=Ib n (Be m1 e) q.origin out j hlt
   rw [hoo] at hs
   have hjo:=Iv hn q.origin (out.take j) hz (by omega) (fun x hx=>hb2 x (List.mem_of_mem_take hx))
   have hlen:(out.take j).length = j:=by rw [List.length_take]; omega
   rw [hlen] at hjo
   have hsl:=Hl n q.origin (out.take j) (Be m1 e)
   rw [hlen] at hsl
   have q5:=Abx n hn hm1 (Bb n (Be m1 e) q.origin (out.take j)).1 J _ hjo (by omega) o (hb2 o (by rw [← hoo]; exact List.getElem_mem hlt)) q.origin
   have hfw:=Ia n (Bb n (Be m1 e) q.origin (out.take j)).1 o q.origin
   clear h
   refine rg ?_;conv=>whnf
   refine ⟨E,by omega,hj0,?_⟩
   rw [e1]
   conv=>whnf
   refine Bj (Ak [] E F82 q5 E ⟨E,E,E,Y⟩ E ⟨.inl E,.inl E,.inl E,Y⟩) (by kernel_rfl) E ?_
   refine rd (by kernel_rfl) ?_;conv=>whnf
   refine Bj (Af Γ.toTy 96 E E E E E (.row E) .sl (by simp) (by omega) (by omega)) (by kernel_rfl) E ?_
   refine rd (by kernel_rfl) ?_;conv=>whnf
   refine ⟨(by kernel_rfl),?_⟩
   conv=>whnf
   refine ⟨by unfold I64; omega,?_⟩
   conv=>whnf
   have g1:(Bb n (Be m1 e) q.origin (out.take (j + 1))).1 = (goesM n (Bb n (Be m1 e) q.origin (out.take j)).1 o q.origin).1:=by rw [hs]
   have g2:(Bb n (Be m1 e) q.origin (out.take (j + 1))).2 = (Bb n (Be m1 e) q.origin (out.take j)).2 ++ (goesM n (Bb n (Be m1 e) q.origin (out.take j)).1 o q.origin).2:=by rw [hs]
   refine Ar [(1000,96)] hlt ⟨⟨E,E,E,E,E,E,E,E,E,E,Y⟩,?_,E,E⟩
   dsimp only
   rw [g1,g2]
   exact ⟨.inl E,E,.inl E,E,.inl E,E,.inl E,E,.inl E,E,Y⟩
  ·have hjj:j = out.length:=by have:=of_decide_eq_false h; omega
   subst hjj
   rw [List.take_length]
   clear h
   refine rg ?_;conv=>whnf
   refine As 1000 E ?_
   exact done E (.cons .tmp .nil) [] (Ej n (Bb n (Be m1 e) q.origin out).1) (fun _ h=>h) E E ⟨Y,⟨.inl E,E,.inl E,E,.inl E,E,Y⟩,E,E⟩
def Ap6 (n:Net) (m:MacM) (now:Int) (j:Nat):Obs:=[(0,.box (Ix n m.up now m.injected m.drops)),(902,.row 1 J9 (Ky m.tables now j)),(903,.row 1 Md m.queues)]
theorem docDoS (n:Net) (hn:n.Fin) (hm1:n.Num) (hrt:Ah n = true) (m:MacM) (J D:Int) (hm0:MacOK n m J D) (hJ:J < 900000000000) (hD0:0 ≤ D) (hD:D ≤ 900000000000) (x:StepM) (hb:x.bytes.length < 100000) :
  Sy.Spec Tryz.prog 15 [.ptr 0 0,Dp x] (Ej n m) (.sl 3 A8 (doT n m x).2) (Ej n (doT n m x).1):=Ab Γ hm 100 F15 Tryz.ntmps15 rfl fun F hF=>by
 have hres:=doT.eq_1 n m x
 generalize doT n m x = res at *
 have hls:=hn.links
 unfold Aq at hls
 conv=>whnf
 refine ⟨fun h=>?_,fun h=>?_⟩
 ·have h1:x.kind = 1:=by simpa using h
  rw [if_pos h1] at hres
  have hij:=injectT.eq_1 n m x.port x.bytes
  generalize injectT n m x.port x.bytes = ri at *
  subst hres
  clear h
  have q0:=Ba x.port n.ports.length
  have hpl:=placeB_iff (d:=x.port) (k:=n.ports.length)
  generalize Al x.port n.ports.length = pb at *
  refine rg ?_;conv=>whnf
  refine At q0 F35 E E E (by kernel_rfl) E ?_
  cases pb
  ·rw [if_pos (.inl rfl)] at hij
   subst hij
   (refine rd (by kernel_rfl) ?_;(conv=>whnf);refine aF ?_;refine rd (by kernel_rfl) ?_;conv=>whnf)
   refine ⟨(by kernel_rfl),?_⟩
   ((conv=>whnf);refine aF ?_;refine rg ?_;conv=>whnf)
   (skip)
   refine Am 4 3 A8 E ?_
   exact done E (.cons .tmp .nil) [] (Ej n ri) (fun _ h=>h) E E ⟨Y,⟨.inl E,E,.inl E,E,.inl E,E,Y⟩,E,E⟩
  have hp:=hpl.1 rfl
  have hlk:=Eq hrt hp.2
  rw [Ao hp.2] at hij
  obtain ⟨p,hpp⟩:∃ p,n.ports[x.port.toNat]'hp.2 = p:=⟨_,rfl⟩
  rw [hpp] at hij hlk
  have hinj:=hm0.inj
  have hok:MacOK n ⟨m.up,m.tables,m.queues,m.now,m.injected + 1,m.drops⟩ (J + 1) D:=⟨hm0.up,hm0.tabs,hm0.ques,hm0.tab,hm0.que,hm0.now,⟨by dsimp only; omega,by dsimp only; omega⟩,hm0.drp⟩
  have hdr:Hb ⟨m.up,m.tables,m.queues,m.now,m.injected + 1,m.drops⟩:=fun i=>⟨(hm0.drp i).1,by have:=(hm0.drp i).2; dsimp only at *; omega⟩
  have he:=Sk n x.port x.bytes
  have hdom:=Sl (n:=n) (port:=x.port) (b:=x.bytes)
  have q1:=Ac7 n hn x.port x.bytes hb
  have hfr:=Qc n x.port x.bytes
  generalize enterT n x.port x.bytes = r at *
  have q2:=T4 n ⟨m.up,m.tables,m.queues,m.now,m.injected + 1,m.drops⟩ r.1 ⟨x.port,0,m.injected + 1,r.2.1⟩ r.2.2 ⟨he.1,by have:=he.2; omega⟩ (fun h=>by
   have:=hdom h
   exact ⟨this.1,by show r.1.toNat < m.queues.length; rw [hm0.ques]; exact this.2⟩) hdr (Cv hok _) (Dd hfr _ ⟨by omega,by have:=hn.ports; unfold Aq at this; omega⟩ (by decide))
  (refine rd (by kernel_rfl) ?_;(conv=>whnf);refine aT ?_;refine rd (by kernel_rfl) ?_;conv=>whnf)
  refine ⟨E,hp.1,hp.2,?_⟩
  rw [hpp]
  conv=>whnf
  refine ⟨(by kernel_rfl),?_⟩
  conv=>whnf
  refine ⟨fun h=>?_,fun h=>?_⟩
  ·have h2:p.link = -1:=by simpa using h
   rw [if_neg (by simp; omega)] at hij
   subst hij
   clear h
   refine rg ?_;conv=>whnf
   refine ⟨by unfold I64; omega,?_⟩
   conv=>whnf
   refine At q1 F36 E E E (by kernel_rfl) E ?_
   refine rd (by kernel_rfl) ?_;conv=>whnf
   refine ⟨(by kernel_rfl),?_⟩
   conv=>whnf
   refine Bj (Ak [] E F37 q2 E ⟨E,E,E,Y⟩ E ⟨.inl E,.inl E,.inl E,Y⟩) (by kernel_rfl) E ?_
   refine rd (by kernel_rfl) ?_;conv=>whnf
   refine ⟨(by kernel_rfl),?_⟩
   conv=>whnf
   refine Am 4 3 A8 E ?_
   exact done E (.cons .tmp .nil) [] (Ej n (comeM _ _ _ _)) (fun _ h=>h) E E ⟨Y,⟨.inl E,E,.inl E,E,.inl E,E,Y⟩,E,E⟩
  ·have h2:¬ p.link = -1:=by simpa using h
   rw [if_pos (.inr (by omega))] at hij
   subst hij
   refine rg ?_;conv=>whnf
   refine Am 4 3 A8 E ?_
   exact done E (.cons .tmp .nil) [] (Ej n ri) (fun _ h=>h) E E ⟨Y,⟨.inl E,E,.inl E,E,.inl E,E,Y⟩,E,E⟩
 have h1:¬ x.kind = 1:=by simpa using h
 rw [if_neg h1] at hres
 clear h
 refine rg ?_;conv=>whnf
 refine ⟨fun h=>?_,fun h=>?_⟩
 ·have h1:x.kind = 2:=by simpa using h
  rw [if_pos h1] at hres
  subst hres
  have q1:=Anr n hn hm1 m J D hm0 hD0 hD x
  refine rg ?_;conv=>whnf
  refine Ai (Ak [] E F38 q1 E ⟨E,E,E,Y⟩ E ⟨.inl E,.inl E,.inl E,Y⟩) E E ?_
  refine rg ?_;conv=>whnf
  exact done E (.cons .tmp .nil) [] (Ej n (pickT n m x.domain x.at_).1) (fun _ h=>h) E E ⟨Y,⟨.inl E,E,.inl E,E,.inl E,E,Y⟩,E,E⟩
 have h1:¬ x.kind = 2:=by simpa using h
 rw [if_neg h1] at hres
 clear h
 refine rg ?_;conv=>whnf
 refine ⟨fun h=>?_,fun h=>?_⟩
 ·have h1:x.kind = 3:=by simpa using h
  rw [if_pos h1] at hres
  subst hres
  have q1:=Aen n m x (Cv hm0 _)
  refine rg ?_;conv=>whnf
  refine Ai (Ak [] E F39 q1 E ⟨E,E,E,Y⟩ E ⟨.inl E,.inl E,.inl E,Y⟩) E E ?_
  refine rg ?_;conv=>whnf
  refine Am 4 3 A8 E ?_
  exact done E (.cons .tmp .nil) [] (Ej n (takeM m x.domain x.at_).1) (fun _ h=>h) E E ⟨Y,⟨.inl E,E,.inl E,E,.inl E,E,Y⟩,E,E⟩
 have h1:¬ x.kind = 3:=by simpa using h
 rw [if_neg h1] at hres
 clear h
 refine rg ?_;conv=>whnf
 refine ⟨fun h=>?_,fun h=>?_⟩
 ·have h1:x.kind = 4:=by simpa using h
  rw [if_pos h1] at hres
  have hnow:=hm0.now
  have htl:m.tables.length < 2147483648:=by rw [hm0.tabs]; exact hn.domains
  have hto:=hm0.tab
  have hti:∀ nw,min (m.now + 1) 1099511627776 = nw → Mb m = ⟨m.up,Ky m.tables nw m.tables.length,m.queues,nw,m.injected,m.drops⟩:=fun nw this=>by
   unfold Mb Ky
   rw [this,List.take_length,List.drop_length,List.append_nil]
  clear h
  refine rg ?_;conv=>whnf
  refine ⟨fun h=>?_,fun h=>?_⟩
  ·have h2:m.now < 1099511627776:=of_decide_eq_true h
   rw [hti (m.now + 1) (by omega)] at hres
   subst hres
   clear h
   refine rg ?_;conv=>whnf
   refine ⟨by unfold I64; omega,?_⟩
   conv=>whnf
   refine Av m.tables.length (fun j=>[(0,.ptr 0 0),(8,Aa j)]) (fun j=>Ap6 n m (m.now + 1) j) [] ⟨⟨E,E,E,E,Y⟩,⟨.inl E,E,.inl E,E,.inl E,E,Y⟩,E,E⟩ ?_
   intro j hj
   have hal:=Ou m.tables (m.now + 1) j
   refine rg ?_;conv=>whnf
   refine ⟨fun h=>?_,fun h=>?_⟩
   ·have hlt:j < m.tables.length:=by have:=of_decide_eq_true h; omega
    have hj0:((j:Nat):Int).toNat < (Ky m.tables (m.now + 1) j).length:=by rw [hal]; simpa using hlt
    obtain ⟨t,hoo⟩:∃ t,m.tables[j] = t:=⟨_,rfl⟩
    have e1:(Ky m.tables (m.now + 1) j)[((j:Nat):Int).toNat]'hj0 = t:=(Ym m.tables (m.now + 1) j hlt (by rw [hal]; exact hlt)).trans hoo
    have hs:=Ui m.tables (m.now + 1) j hlt
    rw [hoo] at hs
    have ht:=hto t (by rw [← hoo]; exact List.getElem_mem hlt)
    clear h
    refine rg ?_;conv=>whnf
    refine ⟨by omega,hj0,?_⟩
    conv=>whnf
    refine ⟨E,hj0,?_⟩
    rw [e1]
    conv=>whnf
    refine At (Zq t (m.now + 1) ht.short ht.mac) F40 E E E (by kernel_rfl) E ?_
    refine rd (by kernel_rfl) ?_;conv=>whnf
    refine ⟨by omega,hj0,?_⟩
    conv=>whnf
    refine ⟨E,hj0,ageT t (m.now + 1),E,E,?_⟩
    conv=>whnf
    refine ⟨(by kernel_rfl),?_⟩
    conv=>whnf
    refine ⟨by unfold I64; omega,?_⟩
    conv=>whnf
    exact Ar [] hlt ⟨⟨E,E,E,E,Y⟩,⟨.inl E,E,.inl (congrArg (Ob.row 1 J9) hs.symm),E,.inl E,E,Y⟩,E,E⟩
   ·have hjj:j = m.tables.length:=by have:=of_decide_eq_false h; omega
    subst hjj
    clear h
    refine rg ?_;conv=>whnf
    refine Am 4 3 A8 E ?_
    exact done E (.cons .tmp .nil) [] (Ej n ⟨m.up,Ky m.tables (m.now + 1) m.tables.length,m.queues,(m.now + 1),m.injected,m.drops⟩) (fun _ h=>h) E E ⟨Y,⟨.inl E,E,.inl E,E,.inl E,E,Y⟩,E,E⟩
  ·have h2:¬ m.now < 1099511627776:=of_decide_eq_false h
   rw [hti m.now (by omega)] at hres
   subst hres
   clear h
   refine rg ?_;conv=>whnf
   refine Av m.tables.length (fun j=>[(0,.ptr 0 0),(8,Aa j)]) (fun j=>Ap6 n m (m.now) j) [] ⟨⟨E,E,E,E,Y⟩,⟨.inl E,E,.inl E,E,.inl E,E,Y⟩,E,E⟩ ?_
   intro j hj
   have hal:=Ou m.tables (m.now) j
   refine rg ?_;conv=>whnf
   refine ⟨fun h=>?_,fun h=>?_⟩
   ·have hlt:j < m.tables.length:=by have:=of_decide_eq_true h; omega
    have hj0:((j:Nat):Int).toNat < (Ky m.tables (m.now) j).length:=by rw [hal]; simpa using hlt
    obtain ⟨t,hoo⟩:∃ t,m.tables[j] = t:=⟨_,rfl⟩
    have e1:(Ky m.tables (m.now) j)[((j:Nat):Int).toNat]'hj0 = t:=(Ym m.tables (m.now) j hlt (by rw [hal]; exact hlt)).trans hoo
    have hs:=Ui m.tables (m.now) j hlt
    rw [hoo] at hs
    have ht:=hto t (by rw [← hoo]; exact List.getElem_mem hlt)
    clear h
    refine rg ?_;conv=>whnf
    refine ⟨by omega,hj0,?_⟩
    conv=>whnf
    refine ⟨E,hj0,?_⟩
    rw [e1]
    conv=>whnf
    refine At (Zq t (m.now) ht.short ht.mac) F40 E E E (by kernel_rfl) E ?_
    refine rd (by kernel_rfl) ?_;conv=>whnf
    refine ⟨by omega,hj0,?_⟩
    conv=>whnf
    refine ⟨E,hj0,ageT t (m.now),E,E,?_⟩
    conv=>whnf
    refine ⟨(by kernel_rfl),?_⟩
    conv=>whnf
    refine ⟨by unfold I64; omega,?_⟩
    conv=>whnf
    exact Ar [] hlt ⟨⟨E,E,E,E,Y⟩,⟨.inl E,E,.inl (congrArg (Ob.row 1 J9) hs.symm),E,.inl E,E,Y⟩,E,E⟩
   ·have hjj:j = m.tables.length:=by have:=of_decide_eq_false h; omega
    subst hjj
    clear h
    refine rg ?_;conv=>whnf
    refine Am 4 3 A8 E ?_
    exact done E (.cons .tmp .nil) [] (Ej n ⟨m.up,Ky m.tables (m.now) m.tables.length,m.queues,(m.now),m.injected,m.drops⟩) (fun _ h=>h) E E ⟨Y,⟨.inl E,E,.inl E,E,.inl E,E,Y⟩,E,E⟩
 have h1:¬ x.kind = 4:=by simpa using h
 rw [if_neg h1] at hres
 clear h
 refine rg ?_;conv=>whnf
 refine ⟨fun h=>?_,fun h=>?_⟩
 ·have h1:x.kind = 5:=by simpa using h
  rw [if_pos h1] at hres
  clear h
  refine rg ?_;conv=>whnf
  refine ⟨(by kernel_rfl),?_⟩
  conv=>whnf
  refine ⟨fun h=>?_,fun h=>?_⟩
  ·have h2:x.up.length = n.links.length:=by have:=of_decide_eq_true h; omega
   rw [if_pos h2] at hres
   subst hres
   clear h
   refine rg ?_;conv=>whnf
   refine Ai (Af Γ.toTy 134 E E E E E (.lit (e:=Ad) (l:=[]) E E) .sl (by simp) (by simp; omega) (by simp; omega)) E E ?_
   refine As 134 E ?_
   refine rg ?_;conv=>whnf
   refine Am 4 3 A8 E ?_
   exact done E (.cons .tmp .nil) [] (Ej n (upT m x.up)) (fun _ h=>h) E E ⟨Y,⟨.inl E,E,.inl E,E,.inl E,E,Y⟩,E,E⟩
  ·have h2:¬ x.up.length = n.links.length:=by have:=of_decide_eq_false h; omega
   rw [if_neg h2] at hres
   subst hres
   clear h
   refine rg ?_;conv=>whnf
   refine Am 4 3 A8 E ?_
   exact done E (.cons .tmp .nil) [] (Ej n m) (fun _ h=>h) E E ⟨Y,⟨.inl E,E,.inl E,E,.inl E,E,Y⟩,E,E⟩
 have h1:¬ x.kind = 5:=by simpa using h
 rw [if_neg h1] at hres
 subst hres
 clear h
 refine rg ?_;conv=>whnf
 refine Am 4 3 A8 E ?_
 exact done E (.cons .tmp .nil) [] (Ej n m) (fun _ h=>h) E E ⟨Y,⟨.inl E,E,.inl E,E,.inl E,E,Y⟩,E,E⟩
def docC (n:Net) (c8 c9 c10:SV) (now inj:Int) (d:Nat → Int):List SV :=
 [.sl 5 Br n.devices,.sl 7 Bi n.ports,.sl 3 Co n.links,.sl 6 Ay n.domains,.sl 4 Bp n.statics,.sl 4 B5 n.floods,.sl 5 Cy n.vrfs,.sl 5 Dl n.irbs,c8,c9,c10,.val (.int .i64 now),.val (.int .i64 inj),
 .val (.int .i64 (d 0)),.val (.int .i64 (d 1)),.val (.int .i64 (d 2)),.val (.int .i64 (d 3)),.val (.int .i64 (d 4)),.val (.int .i64 (d 5)),.val (.int .i64 (d 6)),.val (.int .i64 (d 7)),.val (.int .i64 (d 8)),.val (.int .i64 (d 9)),.val (.int .i64 (d 10)),.val (.int .i64 (d 11)),.val (.int .i64 (d 12)),.val (.int .i64 (d 13)),.val (.int .i64 (d 14)),.val (.int .i64 (d 15)),.val (.int .i64 (d 16)),.val (.int .i64 (d 17)),.val (.int .i64 (d 18)),.val (.int .i64 (d 19)),.val (.int .i64 (d 20)),.val (.int .i64 (d 21)),.val (.int .i64 (d 22)),.val (.int .i64 (d 23)),.val (.int .i64 (d 24)),.val (.int .i64 (d 25)),.val (.int .i64 (d 26)),.val (.int .i64 (d 27)),.val (.int .i64 (d 28)),.val (.int .i64 (d 29)),.val (.int .i64 (d 30)),.val (.int .i64 (d 31)),.val (.int .i64 (d 32)),.val (.int .i64 (d 33)),.val (.int .i64 (d 34)),.val (.int .i64 (d 35)),.val (.int .i64 (d 36)),.val (.int .i64 (d 37)),.val (.int .i64 (d 38)),.val (.int .i64 (d 39)),.val (.int .i64 (d 40)),.val (.int .i64 (d 41)),.val (.int .i64 (d 42)),.val (.int .i64 (d 43)),.val (.int .i64 (d 44)),.val (.int .i64 (d 45)),.val (.int .i64 (d 46)),.val (.int .i64 (d 47)),.val (.int .i64 (d 48)),.val (.int .i64 (d 49)),.val (.int .i64 (d 50)),.val (.int .i64 (d 51)),.val (.int .i64 (d 52)),.val (.int .i64 (d 53)),.val (.int .i64 (d 54)),.val (.int .i64 (d 55)),.val (.int .i64 (d 56)),.val (.int .i64 (d 57)),.val (.int .i64 (d 58)),.val (.int .i64 (d 59)),.val (.int .i64 (d 60)),.val (.int .i64 (d 61)),.val (.int .i64 (d 62)),.val (.int .i64 (d 63))]
def nilC:SV:=.val (.slice none 0 0)
def Ap7 (n:Net) (j:Nat):Obs:=[(1,.box (Aka n)),(10,.box (docC n (.osl 1000) nilC nilC 0 0 (fun _=>0))),(1000,.row 1 Ad (List.replicate j true))]
theorem Ahg (n:Net) (hn:n.Fin) (hb:okB n (Aam n) = false) :
  Sy.Spec Tryz.prog 14 [Ap n] [] (.tup [.val (.pointer none),Aa 2]) []:=Ab Γ hm 100 F14 Tryz.ntmps14 rfl fun F hF=>by
 have hls:=hn.links
 unfold Aq at hls
 have q2:=Qn n (Aam n) hn hb
 unfold Aam at q2
 conv=>whnf
 refine Uf 10 8 1000 1 Ad E E E E ?_
 refine Av n.links.length (fun j=>[(1,.ptr 1 0),(4,.ptr 10 0),(5,Aa j)]) (fun j=>Ap7 n j) [] ⟨⟨E,E,E,E,E,E,Y⟩,⟨.inl E,E,.inl E,E,.inl E,E,Y⟩,E,E⟩ ?_
 intro j hj
 refine rg ?_;conv=>whnf
 refine ⟨fun h=>?_,fun h=>?_⟩
 ·have hlt:j < n.links.length:=by have:=of_decide_eq_true h; omega
  have hs:List.replicate (j + 1) true = List.replicate j true ++ [true]:=by rw [List.replicate_succ']
  clear h
  refine rg ?_;conv=>whnf
  refine Ai (Af Γ.toTy 24 E E E E E (.row E) (.lit (e:=Ad) (l:=[true]) E E) (by simp) (by simp; omega) (by simp; omega)) E E ?_
  refine rg ?_;conv=>whnf
  refine ⟨by unfold I64; omega,?_⟩
  conv=>whnf
  exact Ar [(1000,24)] hlt ⟨⟨E,E,E,E,E,E,Y⟩,⟨.inl E,E,.inl E,E,.inl (congrArg (Ob.row 1 Ad) hs),E,Y⟩,E,E⟩
 have hjj:j = n.links.length:=by have:=of_decide_eq_false h; omega
 subst hjj
 clear h
 refine As 1000 E ?_
 refine rg ?_;conv=>whnf
 refine At q2 F34 E E E (by kernel_rfl) E ?_
 refine rd (by kernel_rfl) ?_;conv=>whnf
 refine ⟨(by kernel_rfl),?_⟩
 ((conv=>whnf);refine aT ?_;refine rg ?_;conv=>whnf)
 exact Ac E (.cons .tmp (.cons .tmp .nil)) E E
theorem Apk (n:Net) (hn:n.Fin) (hb:okB n (Aam n) = true) :
  Sy.Spec Tryz.prog 14 [Ap n] [] (.tup [.ptr 0 0,Aa 0]) (Ej n (newT n)):=Ab Γ hm 100 F14 Tryz.ntmps14 rfl fun F hF=>by
 have hls:=hn.links
 have hds:=hn.domains
 unfold Aq at hls hds
 have q2:=S8 n (Aam n) hn hb
 unfold Aam at q2
 have hnt:=newT.eq_1 n
 generalize newT n = m at *
 conv=>whnf
 refine Uf 10 8 1000 1 Ad E E E E ?_
 refine Av n.links.length (fun j=>[(1,.ptr 1 0),(4,.ptr 10 0),(5,Aa j)]) (fun j=>Ap7 n j) [] ⟨⟨E,E,E,E,E,E,Y⟩,⟨.inl E,E,.inl E,E,.inl E,E,Y⟩,E,E⟩ ?_
 intro j hj
 refine rg ?_;conv=>whnf
 refine ⟨fun h=>?_,fun h=>?_⟩
 ·have hlt:j < n.links.length:=by have:=of_decide_eq_true h; omega
  have hs:List.replicate (j + 1) true = List.replicate j true ++ [true]:=by rw [List.replicate_succ']
  clear h
  refine rg ?_;conv=>whnf
  refine Ai (Af Γ.toTy 24 E E E E E (.row E) (.lit (e:=Ad) (l:=[true]) E E) (by simp) (by simp; omega) (by simp; omega)) E E ?_
  refine rg ?_;conv=>whnf
  refine ⟨by unfold I64; omega,?_⟩
  conv=>whnf
  exact Ar [(1000,24)] hlt ⟨⟨E,E,E,E,E,E,Y⟩,⟨.inl E,E,.inl E,E,.inl (congrArg (Ob.row 1 Ad) hs),E,Y⟩,E,E⟩
 have hjj:j = n.links.length:=by have:=of_decide_eq_false h; omega
 subst hjj
 clear h
 refine As 1000 E ?_
 refine rg ?_;conv=>whnf
 refine At q2 F34 E E E (by kernel_rfl) E ?_
 refine rd (by kernel_rfl) ?_;conv=>whnf
 refine ⟨(by kernel_rfl),?_⟩
 ((conv=>whnf);refine aF ?_;refine rg ?_;conv=>whnf)
 refine Ai (Bw Γ.toTy (d:=42) (n:=n.domains.length) (fun _:Unit=>.val (.slice none 0 0)) () E E E E E E E E (by omega) (by omega) E E E) E E ?_
 refine rg ?_;conv=>whnf
 refine Ai (Bw Γ.toTy (d:=49) (n:=n.domains.length) (fun _:Unit=>.val (.slice none 0 0)) () E E E E E E E E (by omega) (by omega) E E E) E E ?_
 refine rg ?_;conv=>whnf
 refine Ue 42 (e':=J9) (l':=List.replicate n.domains.length []) E (by simp) (fun M w i h1 h2 v hv=>?_) ?_
 ·rw [List.getElem_replicate]
  simp only [RdD] at hv
  exact L9 hv
 refine Ue 49 (e':=Md) (l':=List.replicate n.domains.length []) E (by simp) (fun M w i h1 h2 v hv=>?_) ?_
 ·rw [List.getElem_replicate]
  simp only [RdD] at hv
  exact L9 hv
 subst hnt
 exact done E (.cons .tmp (.cons .tmp .nil)) [(0,10),(902,42),(903,49)] (Ej n ⟨List.replicate n.links.length true,List.replicate n.domains.length [],List.replicate n.domains.length [],0,0,fun _=>0⟩) (fun _ h=>h) E E ⟨Y,⟨.inl E,E,.inl E,E,.inl E,E,Y⟩,E,E⟩
theorem any_at3 {α:Type} {p:α → Bool} {l:List α} {j:Nat} (hj:j < l.length) (h:p l[j] = true):l.any p = true:=List.any_eq_true.2 ⟨_,List.getElem_mem hj,h⟩
theorem Ak5 {α:Type} {p:α → Bool} {l:List α} {j:Nat} (hI:C8 (fun _ x=>!(p x)) l j) (hj:l.length ≤ j):l.any p = false:=by
 rw [List.any_eq_false]
 intro x hx
 obtain ⟨i,hi,rfl⟩:=List.getElem_of_mem hx
 have:=hI i hi (by omega)
 simpa using this
def Iu (x:StepM):Bool:=decide (2000 < x.bytes.length) || decide (60 < x.up.length)
def great33B (l:List StepM):Bool:=decide (60 < l.length) || l.any Iu
theorem Ane (l:List StepM):Sy.Spec Tryz.prog 11 [.sl 6 Dp l] [] (Ad (great33B l)) []:=Ab Γ hm 100 F11 Tryz.ntmps11 rfl fun F hF=>by
 have hres:=great33B.eq_1 l
 generalize great33B l = res at *
 conv=>whnf
 refine ⟨fun h=>?_,fun h=>?_⟩
 ·rw [decide_eq_true (by have:=of_decide_eq_true h; omega),Bool.true_or] at hres
  subst hres
  refine rg ?_;conv=>whnf
  exact Ac E (.cons .tmp .nil) E E
 have hl:l.length ≤ 60:=by have:=of_decide_eq_false h; omega
 rw [decide_eq_false (by omega),Bool.false_or] at hres
 refine rg ?_;conv=>whnf
 refine A2 l.length (fun j=>C8 (fun _ x=>!(Iu x)) l j) (fun j=>[(0,.sl 6 Dp l),(3,Aa j)]) (fun _=>[]) [] (A5 _ _) ⟨⟨E,E,E,E,Y⟩,Y,E,E⟩ ?_
 intro j hj hI
 refine rg ?_;conv=>whnf
 refine ⟨fun h=>?_,fun h=>?_⟩
 ·have hlt:j < l.length:=by have:=of_decide_eq_true h; omega
  have hj0:((j:Nat):Int).toNat < l.length:=by simpa using hlt
  have hat:=fun h=>@any_at3 _ Iu l j hlt h
  have hnx:=fun h=>A3 (p:=fun _ x=>!(Iu x)) hI hlt h
  obtain ⟨x,hx⟩:∃ x,l[((j:Nat):Int).toNat]'hj0 = x:=⟨_,rfl⟩
  have hx':l[j] = x:=hx
  rw [hx'] at hat hnx
  refine rg ?_;conv=>whnf
  refine ⟨E,by omega,hj0,?_⟩
  rw [hx]
  conv=>whnf
  refine ⟨fun h=>?_,fun h=>?_⟩
  ·rw [hat (by rw [Iu,decide_eq_true (by have:=of_decide_eq_true h; omega),Bool.true_or])] at hres
   subst hres
   (refine rg ?_;(conv=>whnf);refine aT ?_;refine rg ?_;conv=>whnf)
   exact Ac E (.cons .tmp .nil) E E
  have h1:=of_decide_eq_false h
  refine rg ?_;conv=>whnf
  refine ⟨E,by omega,hj0,?_⟩
  rw [hx]
  conv=>whnf
  refine ⟨fun h=>?_,fun h=>?_⟩
  ·rw [hat (by rw [Iu,decide_eq_true (by have:=of_decide_eq_true h; omega:60 < x.up.length),Bool.or_true])] at hres
   subst hres
   refine rg ?_;conv=>whnf
   exact Ac E (.cons .tmp .nil) E E
  have h2:=of_decide_eq_false h
  refine rg ?_;conv=>whnf
  refine ⟨by unfold I64; omega,?_⟩
  conv=>whnf
  exact Aw [] hI (by omega) (hnx (by rw [Iu,decide_eq_false (by omega),decide_eq_false (by omega)]; rfl)) ⟨⟨E,E,E,E,Y⟩,Y,E,E⟩
 ·have hje:j = l.length:=by have:=of_decide_eq_false h; omega
  subst hje
  rw [Ak5 hI (Nat.le_refl _)] at hres
  subst hres
  refine rg ?_;conv=>whnf
  exact Ac E (.cons .tmp .nil) E E
theorem Y4 {l:List StepM} (h:great33B l = false):l.length ≤ 60 ∧ ∀ x ∈ l,x.bytes.length ≤ 2000 ∧ x.up.length ≤ 60:=by
 simp only [great33B,Iu,Bool.or_eq_false_iff,decide_eq_false_iff_not,List.any_eq_false,Bool.or_eq_true,decide_eq_true_eq] at h
 refine ⟨by omega,fun x hx=>?_⟩
 have:=h.2 x hx
 omega
end Go.Sy.YtmelpejjondedaaGreat
