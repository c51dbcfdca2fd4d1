/-
  Z14 Z15 Z16 H1 S0 H2 H3 H4 Sy23 O1 H7 D9 D10 D11 D12 H5 O5 Z17 H8: parts of a proof, joined by program.
-/
import Derived.Test.YteinjapglfkamaaGreatXC9
import Derived.Test.YteinjapglfkamaaGreatXC4
import Derived.Test.YteinjapglfkamaaGreatXC5
import Derived.Test.YteinjapglfkamaaGreatXC8
import Derived.Test.YteinjapglfkamaaGreatXC3
import Derived.Test.YteinjapglfkamaaGreatXC7
namespace Go.Sy.YteinjapglfkamaaGreat
open Go.Proofs
attribute [local irreducible] Go.Sy.G Go.Sy.DR
set_option maxRecDepth 100000
set_option maxHeartbeats 4000000
def Agq (n:Net) (m:MacM) (d:Bool):Obs:=[(0,.box (Qn n 4 m.now m.injected m.drops)),(1,.non),(2,.row 1 Id m.tables),(3,.row 1 I8 m.queues),(4,.box (Jv n m.up d))]
def upT (m:MacM) (up:List Bool):MacM:=⟨up,m.tables,m.queues,m.now,m.injected,m.drops⟩
def doD (n:Net) (m:MacM) (d:Bool) (x:StepM):Bool :=
 if x.kind=1 then d else if x.kind=2 then (if (takeM m x.domain x.at_).2.2 then true else d) else if x.kind=3 then d else if x.kind=4 then d else if x.kind=5 then (if x.up.length=n.links.length then false else d) else d
theorem Aq2 (n:Net) (hn:n.Fin) (hm1:n.Num) (m:MacM) (d:Bool) (J D:Int) (hm0:MacOK n m J D) (hJ:J<900000000000) (hD0:0≤D) (hD:D≤900000000000) (x:StepM) (hb:x.bytes.length<100000) :
  Sy.Spec Tryz.prog 52 [.ptr 0 0,Bw x] (Dk n m d) (.tup [.sl 3 B3 (doT n m x).2,Aa 0]) (Agq n (doT n m x).1 (doD n m d x)):=cT F52 Tryz.ntmps52 fun F hF=>by
 have hres:=doT.eq_1 n m x
 generalize doT n m x=res at *
 have hdd:=doD.eq_1 n m d x
 generalize doD n m d x=dd at *
 conv=>whnf
 refine Ae (We (d:=900) E E E) E E ?_
 refine oF ?_
 refine⟨fun h=>?_,fun h=>?_⟩
 ·have h1:x.kind=1:=by simpa using h
  rw[if_pos h1]at hres hdd
  subst hres
  subst hdd
  have q1:=Ajt n hn m dd J D hm0 qn qn x.port x.bytes hb
  refine oO ?_
  refine Ae (Ah [] E F114 q1 E ⟨E,E,E,E,Y⟩ E ⟨.inl E,.inl E,.inl E,.inl E,Y⟩) E E ?_
  refine oO ?_
  refine Ai 4 3 B3 E ?_
  refine Ks 1 4 E E qy ?_
  exact done E (.cons .tmp (.cons .tmp .nil)) [] (Agq n (injectT n m x.port x.bytes) dd) (fun _ h=>h) E E ⟨Y,⟨.inl E,E,.inl E,E,.inl E,E,.inl E,E,.inl E,E,Y⟩,E,E⟩
 have h1:¬ x.kind=1:=by simpa using h
 rw[if_neg h1]at hres hdd
 clear h
 refine oO ?_
 refine⟨fun h=>?_,fun h=>?_⟩
 ·have h1:x.kind=2:=by simpa using h
  rw[if_pos h1]at hres hdd
  subst hres
  have q1:=Aqz n hn hm1 m d J D hm0 hD0 hD x.domain x.at_
  rw[← hdd]at q1
  refine oO ?_
  refine Ae (Ah [] E F115 q1 E ⟨E,E,E,E,Y⟩ E ⟨.inl E,.inl E,.inl E,.inl E,Y⟩) E E ?_
  refine oO ?_
  refine Ks 1 4 E E qy ?_
  exact done E (.cons .tmp (.cons .tmp .nil)) [] (Agq n (pickT n m x.domain x.at_).1 dd) (fun _ h=>h) E E ⟨Y,⟨.inl E,E,.inl E,E,.inl E,E,.inl E,E,.inl E,E,Y⟩,E,E⟩
 have h1:¬ x.kind=2:=by simpa using h
 rw[if_neg h1]at hres hdd
 clear h
 refine oO ?_
 refine⟨fun h=>?_,fun h=>?_⟩
 ·have h1:x.kind=3:=by simpa using h
  rw[if_pos h1]at hres hdd
  subst hres
  subst hdd
  have q1:=Agp n m dd x.domain x.at_ (Cn hm0 _)
  refine oO ?_
  refine Ae (Ah [] E F116 q1 E ⟨E,E,E,E,Y⟩ E ⟨.inl E,.inl E,.inl E,.inl E,Y⟩) E E ?_
  refine oO ?_
  refine Ai 4 3 B3 E ?_
  refine Ks 1 4 E E qy ?_
  exact done E (.cons .tmp (.cons .tmp .nil)) [] (Agq n (takeM m x.domain x.at_).1 dd) (fun _ h=>h) E E ⟨Y,⟨.inl E,E,.inl E,E,.inl E,E,.inl E,E,.inl E,E,Y⟩,E,E⟩
 have h1:¬ x.kind=3:=by simpa using h
 rw[if_neg h1]at hres hdd
 clear h
 refine oO ?_
 refine⟨fun h=>?_,fun h=>?_⟩
 ·have h1:x.kind=4:=by simpa using h
  rw[if_pos h1]at hres hdd
  subst hres
  subst hdd
  have q1:=Aqy n m dd J D hm0 hn.domains
  refine oO ?_
  refine Ae (Ah [] E F117 q1 E ⟨E,E,E,E,Y⟩ E ⟨.inl E,.inl E,.inl E,.inl E,Y⟩) E E ?_
  refine oO ?_
  refine Ai 4 3 B3 E ?_
  refine Ks 1 4 E E qy ?_
  exact done E (.cons .tmp (.cons .tmp .nil)) [] (Agq n (O4 m) dd) (fun _ h=>h) E E ⟨Y,⟨.inl E,E,.inl E,E,.inl E,E,.inl E,E,.inl E,E,Y⟩,E,E⟩
 have h1:¬ x.kind=4:=by simpa using h
 rw[if_neg h1]at hres hdd
 clear h
 refine oO ?_
 refine⟨fun h=>?_,fun h=>?_⟩
 ·have h1:x.kind=5:=by simpa using h
  rw[if_pos h1]at hres hdd
  clear h
  refine oO ?_
  refine kW ?_
  refine⟨fun h=>?_,fun h=>?_⟩
  ·have h2:x.up.length=n.links.length:=qA h
   rw[if_pos h2]at hres hdd
   subst hres
   subst hdd
   clear h
   have hls:=hn.links
   unfold Al at hls
   refine oO ?_
   refine c0 (Al2 x.up qn) F118 ?_
   refine oO ?_
   refine Ai 4 3 B3 E ?_
   refine Ar 55 (Jv n x.up false) E (.cons (.refl _) (.cons (.refl _) (.cons (.refl _) (.cons (.refl _) (.cons .nil .nil))))) ?_
   exact done E (.cons .tmp (.cons .tmp .nil)) [(4,55)] (Agq n (upT m x.up) false) (fun _ h=>h) E E ⟨Y,⟨.inl E,E,.inr E,E,.inl E,E,.inl E,E,.inl E,E,Y⟩,E,E⟩
  ·have h2:¬ x.up.length=n.links.length:=qB h
   rw[if_neg h2]at hres hdd
   subst hres
   subst hdd
   clear h
   refine oO ?_
   refine Ai 4 3 B3 E ?_
   refine Ks 1 4 E E qy ?_
   exact done E (.cons .tmp (.cons .tmp .nil)) [] (Agq n m dd) (fun _ h=>h) E E ⟨Y,⟨.inl E,E,.inl E,E,.inl E,E,.inl E,E,.inl E,E,Y⟩,E,E⟩
 have h1:¬ x.kind=5:=by simpa using h
 rw[if_neg h1]at hres hdd
 subst hres
 subst hdd
 clear h
 refine oO ?_
 refine Ai 4 3 B3 E ?_
 refine Ks 1 4 E E qy ?_
 exact done E (.cons .tmp (.cons .tmp .nil)) [] (Agq n m dd) (fun _ h=>h) E E ⟨Y,⟨.inl E,E,.inl E,E,.inl E,E,.inl E,E,.inl E,E,Y⟩,E,E⟩
theorem Ajs (n:Net) (hn:n.Fin) (hb:okB n (List.replicate n.links.length true)=false) :
  Sy.Spec Tryz.prog 50 [Aj n] [] (.tup [.val (.pointer none),Aa 2]) []:=cT F50 Tryz.ntmps50 fun F hF=>by
 have hls:=hn.links
 unfold Al at hls
 have q1:=Amr n.links.length qn
 have q2:=Abs n (List.replicate n.links.length true) hn hb
 generalize List.replicate n.links.length true=up at *
 conv=>whnf
 refine Ec 7 Ab [true] E E ?_
 refine Ap 7 E ?_
 refine oO ?_
 refine c0 q1 F111 ?_
 refine oO ?_
 refine c0 q2 F112 ?_
 refine oT ?_
 exact dN
theorem Ats (n:Net) (hn:n.Fin) (hb:okB n (List.replicate n.links.length true)=true) :
  Sy.Spec Tryz.prog 50 [Aj n] [] (.tup [.ptr 0 0,Aa 0]) (Dk n (newT n) false):=cT F50 Tryz.ntmps50 fun F hF=>by
 have hls:=hn.links
 have hds:=hn.domains
 unfold Al at hls hds
 have q1:=Amr n.links.length qn
 have q2:=Adx n (List.replicate n.links.length true) hn hb
 have hnt:=newT.eq_1 n
 generalize newT n=m at *
 generalize List.replicate n.links.length true=up at *
 conv=>whnf
 refine Ec 7 Ab [true] E E ?_
 refine Ap 7 E ?_
 refine oO ?_
 refine c0 q1 F111 ?_
 refine oO ?_
 refine c0 q2 F112 ?_
 refine oF ?_
 refine cD (copyS n hn) F113 ?_
 refine oD ?_
 refine Bb (Bm Γ.toTy (d:=28) (n:=n.domains.length) (fun _:Unit=>.val (.slice none 0 0)) () E E E E E E E E qn qn E E E) qq E ?_
 refine oD ?_
 refine Bb (Bm Γ.toTy (d:=32) (n:=n.domains.length) (fun _:Unit=>.val (.slice none 0 0)) () E E E E E E E E qn qn E E E) qq E ?_
 refine oD ?_
 refine⟨qq,?_⟩
 refine Wz 28 (e':=Id) (l':=List.replicate n.domains.length []) E qz (fun M w i h1 h2 v hv=>?_) ?_
 ·rw[List.getElem_replicate]
  simp only[RdD]at hv
  exact O2 hv
 refine Wz 32 (e':=I8) (l':=List.replicate n.domains.length []) E qz (fun M w i h1 h2 v hv=>?_) ?_
 ·rw[List.getElem_replicate]
  simp only[RdD]at hv
  exact O2 hv
 refine Ar 24 (Jv n up false) E (.cons (.refl _) (.cons (.refl _) (.cons (.refl _) (.cons (.refl _) (.cons .nil .nil))))) ?_
 refine oO ?_
 subst hnt
 exact done E (.cons .tmp (.cons .tmp .nil)) [(0,34),(1,24),(2,28),(3,32)] (Dk n ⟨up,List.replicate n.domains.length [],List.replicate n.domains.length [],0,0,fun _=>0⟩ false) (fun _ h=>h) E E ⟨Y,⟨.inl E,E,.inl E,E,.inl E,E,.inl E,E,Y⟩,E,E⟩
end Go.Sy.YteinjapglfkamaaGreat
namespace Go.Sy.YteinjapglfkamaaGreat
open Go.Proofs
def runF (n:Net) (s:MacM × Bool) (l:List StepM):MacM × Bool:=l.foldl (fun s x=>((doT n s.1 x).1,doD n s.1 s.2 x)) s
def runD (n:Net) (m:MacM) (d:Bool) (l:List StepM):Bool:=(runF n (m,d) l).2
theorem doT_ok {n:Net} (hn:n.Fin) (hm1:n.Num) {m:MacM} {J D:Int} (h:MacOK n m J D) (hJ:0≤J) (hD:0≤D) (x:StepM):MacOK n (doT n m x).1 (J+1) (D+4294967298):=by
 unfold doT
 split
 ·exact(Ali hn h hJ hD _ _).mono qn qn
 split
 ·have hok:=Vd h x.domain x.at_
  unfold pickT
  split
  ·exact hok.1.mono qn qn
  ·have hb:=Si hn (I3 n (takeM m x.domain x.at_).1.up) (tableL (takeM m x.domain x.at_).1 x.domain) x.domain (takeM m x.domain x.at_).2.1 (takeM m x.domain x.at_).1.now
   have h1:=Aaz hok.1 hD x.domain (Sg (n:=n) (fw:=I3 n (takeM m x.domain x.at_).1.up) (dom:=x.domain) (now:=(takeM m x.domain x.at_).1.now) (Md hok.1 x.domain) hok.2)
   have h2:=Jy hn (takeM m x.domain x.at_).2.1.origin (Adc n (takeM m x.domain x.at_).1 x.domain (takeM m x.domain x.at_).2.1).2.1 h1 qn (Sh hn hm1 hok.2)
   refine h2.mono qn ?_
   unfold Adc
   omega
 split
 ·exact(Vd h x.domain x.at_).1.mono qn qn
 split
 ·have h1:=h.now
  refine⟨h.up,by unfold O4;simp only[List.length_map];exact h.tabs,h.ques,fun t ht=>?_,h.que,?_,?_,fun i=>?_⟩
  ·unfold O4 at ht
   obtain ⟨t0,ht0,rfl⟩:=List.mem_map.1 ht
   exact Aux (h.tab t0 ht0) _
  ·unfold O4
   dsimp only
   omega
  ·have:=h.inj
   unfold O4
   dsimp only
   omega
  ·have:=h.drp i
   unfold O4
   dsimp only
   omega
 split
 ·split
  ·rename_i h2
   exact MacOK.mono (n:=n) (m:=⟨x.up,m.tables,m.queues,m.now,m.injected,m.drops⟩) ⟨h2,h.tabs,h.ques,h.tab,h.que,h.now,h.inj,h.drp⟩ qn qn
  ·exact h.mono qn qn
 ·exact h.mono qn qn
theorem Ae4 (n:Net):MacOK n (newT n) 0 0:=by
 refine⟨by simp[newT],by simp[newT],by simp[newT],fun t ht=>?_,fun l hl=>?_,by simp[newT],by simp[newT],fun i=>by simp[newT]⟩
 ·have:t=[]:=(List.mem_replicate.1 ht).2
  rw[this];exact Xj
 ·have:l=[]:=(List.mem_replicate.1 hl).2
  rw[this];exact Yl
def Acg (n:Net):List Bool:=List.replicate n.links.length true
attribute [local irreducible] Go.Sy.G Go.Sy.DR
set_option maxRecDepth 100000
set_option maxHeartbeats 4000000
end Go.Sy.YteinjapglfkamaaGreat
namespace Go.Sy.YteinjapglfkamaaGreat
open Go.Proofs
theorem Ab9 {P:Hop→Prop} {S:Srch} (h:∀ f∈S.list,P f.hop) (d k:Int) {x:Hop} (hx:P x) (a:Int):∀ f∈(meetT S d k x a).list,P f.hop:=by
 rw[meetT]
 split
 ·exact h
 ·rw[K9]
  split<;>(intro f hf;rcases List.mem_append.1 hf with hf | hf;exact h f hf;rw[List.mem_singleton]at hf;subst hf;exact hx)
theorem Aca {P:Hop→Prop} {k i:Int}:∀ {l:List Hop} {S:Srch},(∀ f∈S.list,P f.hop)→(∀ h∈l,P h)→∀ f∈(ext1 S k i l).list,P f.hop
 | [],S,h,_=>h
 | x::l,S,h,hl=>Aca (l:=l) (Ab9 h x.domain k (hl x qz) i) (fun y hy=>hl y (by simp[hy]))
theorem Aja {P:Hop→Prop} {i:Int}:∀ {l:List Lead} {S:Srch},(∀ f∈S.list,P f.hop)→(∀ q∈l,P ⟨3,0,q.domain,q.addr⟩)→∀ f∈(ext2 S i l).list,P f.hop
 | [],S,h,_=>h
 | x::l,S,h,hl=>Aja (l:=l) (Ab9 h x.domain 1 (hl x qz) i) (fun y hy=>hl y (by simp[hy]))
theorem Auv {P:Hop→Prop} {n:Net} (h1:∀ d,∀ x∈Hw n d,P x) (h2:∀ d,∀ q∈routesT n d,P ⟨3,0,q.domain,q.addr⟩) {S:Srch} (h:∀ f∈S.list,P f.hop) (i:Int):∀ f∈(extT n S i).list,P f.hop:=by
 rw[extT]
 split
 ·exact Aja (Aca h (h1 _)) (h2 _)
 ·exact Aca h (h1 _)
theorem Ap3 {P:Hop→Prop} {n:Net} {dev:Int} (h:∀ d,P ⟨0,0,d,0⟩) (l:List Int):∀ f∈(Er n dev l).list,P f.hop:=by
 suffices hs:∀ (l:List Int) (S:Srch),(∀ f∈S.list,P f.hop)→∀ f∈(l.foldl (Ic n dev) S).list,P f.hop from hs l _ (fun f hf=>by simp[J7]at hf)
 intro l
 induction l with
 | nil=>exact fun S h=>h
 | cons x l ih =>
  intro S hS
  refine ih _ ?_
  rw[Ic]
  split
  ·exact hS
  ·exact Ab9 hS _ _ (h _) _
theorem Ab8 {P:Hop→Prop} {n:Net} (h1:∀ d,∀ x∈Hw n d,P x) (h2:∀ d,∀ q∈routesT n d,P ⟨3,0,q.domain,q.addr⟩) {to:Int}:∀ (k:Nat) (S:Srch) (i:Nat),S.OK n→Backs S.list→(∀ f∈S.list,P f.hop)→i≤S.list.length→(D5 n to k S i).2=true →
  ∀ h∈(D5 n to k S i).1,P h
 | 0,S,i,_,_,_,_,h=>by cases h
 | k+1,S,i,ok,bk,hk,hi,h=>by
  rw[D5]at h ⊢
  split at h
  ·rename_i hlt
   rw[if_pos hlt]
   split at h
   ·rename_i hm2
    rw[if_pos hm2]
    exact(J2 bk hk hlt).1
   ·rename_i hm2
    rw[if_neg hm2]
    have bk':=bk.ext (n:=n) (i:=i) ⟨by omega,by omega⟩
    exact Ab8 h1 h2 k _ _ (ok.ext i) bk'.1 (Auv h1 h2 hk i) qn h
  ·cases h
theorem Auu {P:Hop→Prop} {n:Net} (h1:∀ d,∀ x∈Hw n d,P x) (h2:∀ d,∀ q∈routesT n d,P ⟨3,0,q.domain,q.addr⟩) (h3:∀ d,P ⟨0,0,d,0⟩) {from_ to:Int} (h:(wayT n from_ to).2=true):∀ x∈(wayT n from_ to).1,P x:=by
 rw[wayT]at h ⊢
 split at h
 ·rename_i hc
  rw[if_pos hc]
  have hp:=Mt hc.1
  have ok0:(beginT n from_).OK n:=by
   rw[beginT,Ag hp.2]
   exact Te fun v hv h0=>Ii hc.2.2.2 hp.2 hv h0
  have bk0:Backs (beginT n from_).list:=by rw[beginT];exact O0 _ _ _
  exact Ab8 h1 h2 _ _ _ ok0 bk0 (by rw[beginT];exact Ap3 h3 _) (Nat.zero_le _) h
 ·cases h
def LinkOK (n:Net) (h:Hop):Prop:=h.kind=1→(0≤h.port∧h.port.toNat<n.ports.length)∧0≤(nth n.ports h.port).link∧(nth n.ports h.port).link.toNat<n.links.length
theorem Ahp {n:Net} {i:Int} (h:0≤Cv n i):(0≤i∧i.toNat<n.ports.length)∧0≤(nth n.ports i).link∧(nth n.ports i).link.toNat<n.links.length:=by
 have ht:=Iw h
 unfold Cv at h
 split at h
 ·rename_i hc
  have e1:nth n.ports i=n.ports[i.toNat]:=Ag ht.1.2
  rw[e1]at hc ⊢
  exact⟨ht.1,hc.2.1,(Ij hc.2.2 ht.1.2 hc.2.1).1⟩
 ·omega
theorem way_links {n:Net} {from_ to:Int} (h:(wayT n from_ to).2=true):∀ x∈(wayT n from_ to).1,LinkOK n x:=by
 refine Auu (fun d x hx=>?_) (fun d q _ e=>?_) (fun d e=>?_) h
 ·rw[Hw]at hx
  split at hx
  ·rcases List.mem_append.1 hx with hx | hx
   ·obtain ⟨p,_,hp⟩:=List.mem_filterMap.1 hx
    rw[linkHop]at hp
    split at hp
    ·rename_i hc
     simp only[Option.some.injEq]at hp
     subst hp
     intro _
     refine Ahp ?_
     rw[linkDomT]at hc
     split at hc
     ·rename_i hd
      rw[crossT]at hd
      split at hd
      ·rename_i hc2;exact hc2.1
      ·cases hd
     ·cases hc
    ·cases hp
   ·obtain ⟨p,hp,rfl⟩:=List.mem_map.1 hx
    intro e
    simp[H2]at e
  ·cases hx
 ·simp at e
 ·simp at e
def Vh:Nat:=2203318222849
def stepB (n:Net) (l:List Hop) (i:Nat) (h:Hop):Bool:=Ak h.domain n.domains.length && !(decide (h.kind=3) && (decide (i=0) || decide ((nth n.domains (nth l ((i:Int)-1)).domain).irb<0)))
def H6 (l:List Hop):Int:=Cm (fun h=>decide (h.kind=3)) l
def Qa (a:Nat):PacketM:=⟨0,0,64,17,1,a,[]⟩
def irbOf (n:Net) (l:List Hop):Irb:=nth n.irbs (nth n.domains (nth l (H6 l-1)).domain).irb
def frameW (n:Net) (l:List Hop):FrameM:=if 0<H6 l then ⟨Ev (irbOf n l).addr,Vh,2048,(ipPutT (Qa (nth l (H6 l)).addr.toNat)).1⟩ else ⟨281474976710655,Vh,34997,[]⟩
def wayBytes (n:Net) (l:List Hop):List UInt8 × Int:=if Ac n=true∧l≠[]∧Dc (stepB n l) l=true then (Qb (frameW n l),0) else ([],2)
def injectW (n:Net) (from_:Int) (l:List Hop):StepM :=
 ⟨1,from_,0,0,if (nth n.domains (nth l 0).domain).vlan≠(nth n.ports from_).native then Qb (tagT (takeF (wayBytes n l).1).1 (nth n.domains (nth l 0).domain).vlan).1 else (wayBytes n l).1,[]⟩
structure GoM where
 m:MacM
 d:Bool
 out:List StepM
def doW (n:Net) (s:GoM) (x:StepM):GoM:=⟨(doT n s.m x).1,doD n s.m s.d x,s.out++[x]⟩
def pickX (m:MacM) (d:Int):StepM:=⟨2,0,d,if (((if Ak d m.queues.length then queueL m d else []).length:Int)-1)<0 then 0 else ((if Ak d m.queues.length then queueL m d else []).length:Int)-1,[],[]⟩
def Tx (n:Net) (s:GoM) (d:Int):GoM:=doW n s (pickX s.m d)
def upW (n:Net) (h:Hop):List Bool:=(List.replicate n.links.length false).set (nth n.ports h.port).link.toNat true
def linkW (n:Net) (s:GoM) (h:Hop):GoM:=if h.kind=1 then doW n s ⟨5,0,0,0,[],upW n h⟩ else s
def goW (n:Net) (from_:Int) (l:List Hop):Nat→GoM
 | 0=>doW n ⟨newT n,false,[]⟩ (injectW n from_ l)
 | k+1=>Tx n (linkW n (goW n from_ l k) (nth l ((k+1:Nat):Int))) (nth l ((k:Nat):Int)).domain
def Alu (n:Net) (from_:Int) (l:List Hop):GoM:=Tx n (goW n from_ l (l.length-1)) (nth l ((l.length:Int)-1)).domain
def wscriptT (n:Net) (from_ to:Int):List StepM × Int :=
 if Iz n from_=true∧Iz n to=true∧from_≠to∧okB n (Acg n)=true then
  (if (wayT n from_ to).2=true then ((Alu n from_ (wayT n from_ to).1).out,0) else ([],31))
 else ([],2)
end Go.Sy.YteinjapglfkamaaGreat
namespace Go.Sy.YteinjapglfkamaaGreat
open Go.Proofs
attribute [local irreducible] Go.Sy.G Go.Sy.DR
structure Bx (Q:Prop):Prop where out:Q
theorem sE {α:Sort _} {a b:α} {K:Prop} (e:a=b) (h:K):a=b∧K:=⟨e,h⟩
theorem xE {α:Sort _} {a b:α} {K:a=b→Prop} (e:a=b) (h:K e):∃ e:a=b,K e:=⟨e,h⟩
theorem sL {a b:Int} {K:Prop} (e:a≤b) (h:K):a≤b∧K:=⟨e,h⟩
theorem xL {a b:Int} {K:a≤b→Prop} (e:a≤b) (h:K e):∃ e:a≤b,K e:=⟨e,h⟩
theorem sM {a b:Nat} {K:Prop} (e:a≤b) (h:K):a≤b∧K:=⟨e,h⟩
theorem sT {a b:Nat} {K:Prop} (e:a<b) (h:K):a<b∧K:=⟨e,h⟩
theorem xT {a b:Nat} {K:a<b→Prop} (e:a<b) (h:K e):∃ e:a<b,K e:=⟨e,h⟩
theorem sN {a b:Int} {K:Prop} (e:a≠b) (h:K):a≠b∧K:=⟨e,h⟩
theorem sI {a:Int} {K:Prop} (e:I64 a) (h:K):I64 a∧K:=⟨e,h⟩
theorem ct {p q:Prop} {b:Bool} (h:q) (e:b=true→False:=by
 intro _h
 first | exact absurd _h qy | exact Bool.false_ne_true (Eq.trans (Eq.symm (by with_reducible assumption)) _h) | (simp at _h;done) | (simp at _h;omega)):(b=true→p)∧(b=false→q):=⟨fun x=>(e x).elim,fun _=>h⟩
theorem cf {p q:Prop} {b:Bool} (h:p) (e:b=false→False:=by
 intro _h
 first | exact absurd _h qy | exact Bool.false_ne_true (Eq.trans (Eq.symm _h) (by with_reducible assumption)) | (simp at _h;done) | (simp at _h;omega)):(b=true→p)∧(b=false→q):=⟨fun _=>h,fun x=>(e x).elim⟩
theorem S {P Q:Prop} (h:Q) (e:Bx Q→P:=by
 intro hb
 first | refine rg ?_ | refine rd qq ?_ | skip
 conv=>whnf
 repeat (first
  | ((first | refine aF ?_ | refine aT ?_ | refine ct ?_ | refine cf ?_);(first | refine rg ?_ | refine rd qq ?_);(conv=>whnf))
  | ((first | refine⟨(by kernel_rfl:Aft _ _=true),?_⟩ | refine sI (by unfold I64;omega) ?_);(conv=>whnf)))
 exact hb.out):P:=e ⟨h⟩
theorem T {P Q:Prop} (h:Q) (e:Bx Q→P:=by
 intro hb
 refine S ?_
 repeat ((first | refine sE (by exact rfl) ?_ | refine sL (by first | omega | decide) ?_ | refine xL (by first | omega | decide) ?_ | refine sT (by first | omega | decide) ?_ | refine xT (by first | omega | decide) ?_ | refine sM (by first | omega | decide) ?_ | refine sN (by first | omega | decide) ?_ | refine xE (by exact rfl) ?_);refine S ?_)
 exact hb.out):P:=e ⟨h⟩
theorem D {P:Prop} (h:P:=by
 apply Ao
 ·exact E
 ·(repeat (first | exact ResVs.nil | (apply ResVs.cons;(first | exact .tmp | exact .cell rfl rfl rfl rfl))))
 ·exact E
 ·exact E):P:=h
theorem U {P:Prop} (h:P:=by
 refine⟨?_,?_,E,E⟩
 ·repeat (first | exact trivial | exact rfl | refine⟨rfl,rfl,?_⟩)
 ·repeat (first | exact trivial | refine⟨.inl rfl,rfl,?_⟩ | refine⟨.inr rfl,rfl,?_⟩)):P:=h
theorem W {P:Prop} (h:P:=by
 repeat (first | exact trivial | exact rfl | refine⟨rfl,?_⟩)):P:=h
theorem V {P:Prop} (h:P:=by
 repeat (first | exact trivial | refine⟨.inl rfl,?_⟩ | refine⟨.inr rfl,?_⟩)):P:=h
theorem C {P:Program} {f:FuncId} {fn:Func} {c:Code} {A:List SV} {R:SV} {Z Q:Prop} (hs:Sy.Spec P f A [] R []) (hf:Fun P f fn c) (h:Q) (e:Sy.Spec P f A [] R []→Fun P f fn c→Bx Q→Z:=by
 intro hs hf hb
 first | refine T9 hs hf rfl rfl rfl rfl rfl ?_ | refine Asy hs hf rfl rfl rfl qq rfl ?_
 refine T ?_
 exact hb.out):Z:=e hs hf ⟨h⟩
theorem X {C:Cx} {k:List KI} {s:SS} {all:Array Oper} {o:Oper} {rest:List Oper} {V:Up} {Q:Prop} (hg:Good C.P o s V) (h:Q) (hd:Sc C.n o=true:=by exact rfl) (hw:Dz C.n all o s=some true:=by exact rfl) (e:Bx Q→G C (.ops all rest::k) (s.upd o.dst V):=by
 intro hb
 refine T ?_
 exact hb.out):G C (.ops all (o::rest)::k) s:=Ae hg hd hw (e ⟨h⟩)
theorem Xd {C:Cx} {k:List KI} {s:SS} {all:Array Oper} {done:List Stp} {o:Oper} {rest:List Oper} {V:Up} {Q:Prop} (hg:Good C.P o s V) (h:Q) (hi:all[done.length]? = some o:=by kernel_rfl) (hw:Dz C.n all o s=some true:=by exact rfl) (hn:(If o || L6 o)=false:=by exact rfl) (e:Bx Q→DR C k all (done++[⟨done.length,o,V,true⟩]) rest (s.upd o.dst V):=by
 intro hb
 refine T ?_
 exact hb.out):DR C k all done (o::rest) s:=Bb hg hi hw (e ⟨h⟩) hn
theorem Xe {C:Cx} {k:List KI} {s:SS} {all:Array Oper} {done:List Stp} {o:Oper} {rest:List Oper} {V:Up} {Q:Prop} (hg:Good C.P o s V) (h:Q) (hk:KeepL s V.objs:=by exact W) (hi:all[done.length]? = some o:=by kernel_rfl) (hw:Dz C.n all o s=some true:=by exact rfl) (hn:(If o || L6 o)=false:=by exact rfl) (e:Bx Q→DR C k all (done++[⟨done.length,o,⟨V.v,V.rd++V.ws,[]⟩,true⟩]) rest (s.upd o.dst ⟨V.v,V.rd++V.ws,[]⟩):=by
 intro hb
 refine T ?_
 exact hb.out):DR C k all done (o::rest) s:=stepD2 hg hk hi hw (e ⟨h⟩) hn
end Go.Sy.YteinjapglfkamaaGreat
namespace Go.Sy.YteinjapglfkamaaGreat
open Go.Proofs
attribute [local irreducible] Go.Sy.G Go.Sy.DR
set_option maxRecDepth 100000
set_option maxHeartbeats 4000000
theorem Abi (l:List Hop) (p:Hop→Bool) (f:FuncId) (first cap:List SV) (hc:(SV.clo (.func f) first cap).inn []=true) (hf:∀ x∈l,I7 Tryz.prog f (first++[Bp x]++cap) (Ab (p x))) (hl:Al l) :
  Sy.Spec Tryz.prog 41 [.sl 4 Bp l,.clo (.func f) first cap] [] (Aa (Cm p l)) []:=cT F41 Tryz.ntmps41 fun F hF=>by
 unfold Al at hl
 have hin:∀ x:Hop,Cj [] (first++[Bp x]++cap)=true:=fun x=>Dd hc rfl
 conv=>whnf
 refine Av l.length (fun j=>Di (fun _ x=>!(p x)) l j) (fun j=>[(0,.sl 4 Bp l),(1,.clo (.func f) first cap),(7,Aa l.length),(8,Aa j)]) (fun _=>[]) [] (A2 _ _) ⟨⟨E,E,Bj _,hc,E,E,E,E,Y⟩,Y,E,E⟩ ?_
 intro j hj hI
 refine oO ?_
 refine⟨fun h=>?_,fun h=>?_⟩
 ·have h:=of_decide_eq_true h
  have hj2:j<l.length:=by omega
  refine oO ?_
  refine⟨E,by omega,by omega,?_⟩
  conv=>whnf
  refine Ex (hf l[j] (List.getElem_mem hj2)) E E E (by simp only[hin];rfl) E E ?_
  refine oO ?_
  refine⟨fun h2=>?_,fun h2=>?_⟩
  ·refine oO ?_
   refine Ao E (.cons .tmp .nil) (congrArg Aa ?_) E
   exact Ct hj2 (fun i hi hij=>by simpa using hI i hi hij) h2
  ·refine oO ?_
   refine iW ?_
   exact As [] hI hj2 (Ax hI hj2 (by simp[h2])) ⟨⟨E,E,Bj _,hc,E,E,E,E,Y⟩,Y,E,E⟩
 ·have h:=of_decide_eq_false h
  refine oO ?_
  refine Ao E (.cons .tmp .nil) (congrArg Aa ?_) E
  exact C6 fun i hi=>by simpa using hI i hi qn
theorem Ajx (h:Hop):Sy.Spec Tryz.prog 42 [Bp h] [] (Ab (decide (h.kind=3))) []:=cT F42 Tryz.ntmps42 fun F hF=>by
 refine T ?_
 exact D
theorem Am6 {α:Type} {p:α→Bool} {l:List α} {i:Int} (h:Cm p l=i) (h0:0≤i):∃ hi:i.toNat<l.length,p l[i.toNat]=true:=by
 rcases Ia p l with ⟨h1,_⟩ | ⟨k,hk,h1,h2,_⟩
 ·omega
 ·have e:i.toNat=k:=by omega
  subst e
  exact⟨hk,h2⟩
theorem Ajd (a:Nat) (h:a<4294967296):PacketOK (Qa a):=⟨by show 0≤255;decide,by show 0≤65535;decide,by show 64≤255;decide,by show 17≤255;decide,by show 1<4294967296;decide,h⟩
theorem Ap8 (a:Nat):(ipPutT (Qa a)).1.length=20:=by
 rw[ipPutT,if_neg (by show ¬ 1480<0;decide)]
 show (Hk (Qa a) _++[]).length=20
 rw[List.append_nil]
 rfl
theorem Aht {n:Net} (hu:Dj n) (d:Int):0≤(nth n.irbs d).addr∧(nth n.irbs d).addr<4294967296:=by
 rw[nth]
 cases h:n.irbs[d.toNat]? with
 | none=>exact⟨by decide,by decide⟩
 | some x=>exact hu x (List.mem_of_getElem? h)
theorem Xx {n:Net} (hu:Dj n) (l:List Hop):FrameOK (frameW n l):=by
 unfold frameW
 split
 ·have:=Aht hu (nth n.domains (nth l (H6 l-1)).domain).irb
  refine⟨?_,by show 2203318222849<281474976710656;decide,by show 2048≤65535;decide,?_⟩
  ·show 2199023255552+(irbOf n l).addr.toNat<281474976710656
   unfold irbOf
   omega
  ·show (ipPutT _).1.length≤1504
   rw[Ap8];decide
 ·exact⟨by decide,by decide,by decide,by decide⟩
theorem Ac1 (n:Net) (hn:n.Fin) (hu:Dj n) (l:List Hop) (hl:Al l) (hla:∀ h∈l,0≤h.addr∧h.addr<4294967296) :
  Sy.Spec Tryz.prog 14 [Aj n,.sl 4 Bp l] [] (.tup [.sl 1 Af (wayBytes n l).1,Aa (wayBytes n l).2]) []:=cT F14 Tryz.ntmps14 fun F hF=>by
 have hres:=wayBytes.eq_1 n l
 generalize wayBytes n l=res at *
 have hr:=Br n hn
 have hl2:=hl
 unfold Al at hl2
 conv=>whnf
 refine⟨fun h=>?_,fun h=>?_⟩
 ·have h0:l=[]:=List.eq_nil_of_length_eq_zero (qA h)
  rw[if_neg (fun x=>x.2.1 h0)]at hres
  subst hres
  refine T ?_
  refine Ai 4 1 Af E ?_
  exact D
 have h0:0<l.length:=qB h
 clear h
 have hne:l≠[]:=fun e=>by rw[e]at h0;simp at h0
 refine A0 2 8 (Aj n) E E E ?_
 refine T ?_
 refine C hr F23 ?_
 cases hb:Ac n
 ·rw[if_neg (fun x=>by rw[hb]at x;cases x.1)]at hres
  subst hres
  refine T ?_
  refine Ai 4 1 Af E ?_
  exact D
 refine T ?_
 refine Av l.length (fun j=>Di (stepB n l) l j) (fun j=>[(1,.sl 4 Bp l),(2,.ref 8 (Aj n) 0),(6,.ptr 6 0),(22,.sl 4 Bp l),(23,Aa l.length),(24,Aa j)]) (fun _=>[(6,.box [Aw 281474976710655,Aw 2203318222849,Aa 34997,.val (.slice none 0 0)])]) [] (A2 _ _) U ?_
 intro j hj hI
 refine T ?_
 refine⟨fun h=>?_,fun h=>?_⟩
 ·have hlt:j<l.length:=qA h
  have hj0:((j:Nat):Int).toNat<l.length:=by simpa using hlt
  obtain ⟨x,hoo⟩:∃ x,l[j]=x:=⟨_,rfl⟩
  have e1:l[((j:Nat):Int).toNat]'hj0=x:=hoo
  have hst:=stepB.eq_1 n l j x
  have hbad:stepB n l j x=false→res=([],2):=fun h2=>by
   rw[if_neg (fun y=>by have:=allB_iff.1 y.2.2 j hlt;rw[hoo,h2]at this;cases this)]at hres
   exact hres
  clear h
  refine S ?_
  refine⟨E,by omega,hj0,?_⟩
  rw[e1]
  by_cases hd1:x.domain<0
  ·have hres:=hbad (by rw[hst,Iv qn,Bool.false_and])
   subst hres
   refine T ?_
   refine Ai 4 1 Af E ?_
   exact D
  by_cases hd2:(n.domains.length:Int)≤x.domain
  ·have hres:=hbad (by rw[hst,Iv qn,Bool.false_and])
   subst hres
   refine T ?_
   refine Ai 4 1 Af E ?_
   exact D
  have hpl:=Ck (n:=n.domains.length) (i:=x.domain) qn
  rw[hpl,Bool.true_and]at hst
  by_cases hk:x.kind=3
  rotate_left
  ·rw[decide_eq_false hk,Bool.false_and]at hst
   refine T ?_
   exact As [] hI hlt (Ax hI hlt (by rw[hoo];exact hst)) U
  rw[decide_eq_true hk,Bool.true_and]at hst
  by_cases hj1:j=0
  ·have hres:=hbad (by rw[hst,decide_eq_true hj1];rfl)
   subst hres
   refine T ?_
   refine Ai 4 1 Af E ?_
   exact D
  rw[decide_eq_false hj1,Bool.false_or]at hst
  have hk1:((j:Int)-1).toNat<l.length:=by omega
  have hpr:=hI (j-1) qn qn
  have hpr2:Ak (l[((j:Int)-1).toNat]'hk1).domain n.domains.length=true:=by
   have e:((j:Int)-1).toNat=j-1:=by omega
   simp only[e]
   unfold stepB at hpr
   simp only[Bool.and_eq_true]at hpr
   exact hpr.1
  have hpi:=placeB_iff.1 hpr2
  rw[Ag hk1,Ag hpi.2]at hst
  by_cases hir:(n.domains[(l[((j:Int)-1).toNat]'hk1).domain.toNat]'hpi.2).irb<0
  ·have hres:=hbad (by rw[hst,decide_eq_true hir];rfl)
   subst hres
   refine T ?_
   refine⟨fun _=>?_,fun h=>absurd hir (of_decide_eq_false h)⟩
   refine T ?_
   refine Ai 4 1 Af E ?_
   exact D
  rw[decide_eq_false hir]at hst
  refine T ?_
  refine⟨fun h=>absurd (of_decide_eq_true h) hir,fun _=>?_⟩
  refine T ?_
  exact As [] hI hlt (Ax hI hlt (by rw[hoo];exact hst)) U
 ·have hjj:j=l.length:=qB h
  subst hjj
  clear h
  have hall:Dc (stepB n l) l=true:=allB_iff.2 fun i hi=>hI i hi hi
  rw[if_pos ⟨hb,hne,hall⟩]at hres
  subst hres
  have qi:=Abi l (fun h=>decide (h.kind=3)) 42 [] [] rfl (fun x hx=>⟨⟨_,_,F42⟩,Ajx x⟩) hl
  have hri:Cm (fun h=>decide (h.kind=3)) l=H6 l:=rfl
  rw[hri]at qi
  have hlt:=Hd (fun h:Hop=>decide (h.kind=3)) l
  have his:=fun h0=>Am6 hri h0
  rw[hri]at hlt
  have q7:=Kq (frameW n l) (Xx hu l)
  have hfw:=frameW.eq_1 n l
  have hirb:=irbOf.eq_1 n l
  generalize irbOf n l=ib at *
  generalize H6 l=r at *
  refine T ?_
  refine C qi F41 ?_
  refine⟨fun h=>?_,fun h=>?_⟩
  ·have h1:0<r:=of_decide_eq_true h
   rw[if_pos h1]at hfw
   obtain ⟨hr0,hr3⟩:=his qn
   have hst:=allB_iff.1 hall r.toNat hr0
   have hk1:(r-1).toNat<l.length:=by omega
   have hpr2:Ak (l[(r-1).toNat]'hk1).domain n.domains.length=true:=by
    have hpr:=allB_iff.1 hall (r-1).toNat hk1
    unfold stepB at hpr
    simp only[Bool.and_eq_true]at hpr
    exact hpr.1
   have hpi:=placeB_iff.1 hpr2
   unfold stepB at hst
   rw[hr3,show ((r.toNat:Int)-1)=r-1 by omega,Ag hk1,Ag hpi.2]at hst
   simp only[Bool.and_eq_true,Bool.true_and,Bool.not_eq_true',Bool.or_eq_false_iff,decide_eq_false_iff_not]at hst
   have hin:=(Tb hb hpi.2).resolve_left qn
   have hin1:0≤(n.domains[(l[(r-1).toNat]'hk1).domain.toNat]'hpi.2).irb∧(n.domains[(l[(r-1).toNat]'hk1).domain.toNat]'hpi.2).irb.toNat<n.irbs.length:=by unfold InIrbs at hin;omega
   rw[Ag hk1,Ag hpi.2,Ag hin1.2]at hirb
   rw[Ag hr0]at hfw
   have ha:=hla _ (List.getElem_mem hr0)
   have hae:=Int.toNat_of_nonneg ha.1
   have hxa:=hu _ (List.getElem_mem hin1.2)
   have hxe:=Int.toNat_of_nonneg hxa.1
   have q5:Sy.Spec Tryz.prog 43 [.agg [Aa 0,Aa 0,Aa 64,Aa 17,Bd 1,Bd ((l[r.toNat]'hr0).addr.toNat:Nat),.sl 1 Af []]] [] (.tup [.sl 1 Af (ipPutT (Qa (l[r.toNat]'hr0).addr.toNat)).1,Aa (ipPutT (Qa (l[r.toNat]'hr0).addr.toNat)).2]) []:=Aff (Qa (l[r.toNat]'hr0).addr.toNat) (Ajd _ qn) (by show 0<100000;decide)
   rw[hae]at q5
   have q6:=Ads (n.irbs[(n.domains[(l[(r-1).toNat]'hk1).domain.toNat]'hpi.2).irb.toNat]'hin1.2).addr.toNat qn
   rw[hxe]at q6
   subst hirb
   rw[hfw]at q7 ⊢
   clear hfw
   generalize (ipPutT (Qa (l[r.toNat]'hr0).addr.toNat)).1=bo at *
   refine T ?_
   refine Aqa 74 (.agg [Aa 0,Aa 0,Aa 64,Aa 17,Bd 1,Bd (l[r.toNat]'hr0).addr,.sl 1 Af []]) (.agg (.cons (.refl _) (.cons (.refl _) (.cons (.refl _) (.cons (.refl _) (.cons (.refl _) (.cons (.refl _) (.cons .nil .nil)))))))) ?_
   refine C q5 F43 ?_
   refine C q6 F44 ?_
   refine Ae (Ah [(0,999)] E F45 q7 E Y E ⟨.inr E,Y⟩) E E ?_
   refine Ap 999 E ?_
   refine T ?_
   exact D
  ·have h1:¬ 0<r:=of_decide_eq_false h
   rw[if_neg h1]at hfw
   rw[hfw]at q7 ⊢
   clear hfw
   refine T ?_
   refine Aqa 99 (.agg [Aw 281474976710655,Aw Vh,Aa 34997,.sl 1 Af []]) (.agg (.cons (.refl _) (.cons (.refl _) (.cons (.refl _) (.cons .nil .nil))))) ?_
   refine Ae (Ah [(0,999)] E F45 q7 E Y E ⟨.inr E,Y⟩) E E ?_
   refine Ap 999 E ?_
   refine T ?_
   exact D
theorem W4 (b:List UInt8):FrameOK (takeF b).1:=by
 by_cases h:(takeF b).2=0
 ·exact Z0 h
 ·rw[Anr h];exact Dp
theorem Z2 {f:FrameM} (hf:FrameOK f) (v:Nat) (hv:v≤4094):FrameOK (tagT f v).1:=by
 by_cases h:(tagT f v).2=0
 ·exact Ajm hf v hv h
 ·unfold tagT at h ⊢
  split
  ·exact Dp
  ·rename_i h1
   rw[if_neg h1]at h
   split
   ·exact Dp
   ·rename_i h2
    rw[if_neg h2]at h
    exact absurd E h
theorem M8 {n:Net} (hu:Dj n) (l:List Hop):(wayBytes n l).1.length≤1518:=by
 unfold wayBytes
 split
 ·show (Qb _).length≤1518
  rw[E6]
  have:=(Xx hu l).body
  omega
 ·show 0≤1518;decide
theorem Aji (n:Net) (hn:n.Fin) (hu:Dj n) (hb:Ac n=true) (port:Int) (hp:0≤port∧port.toNat<n.ports.length) (l:List Hop) (hl:Al l) (hla:∀ h∈l,Ua n h) (h0:0<l.length) :
  Sy.Spec Tryz.prog 55 [Aj n,Aa port,.sl 4 Bp l] [] (Bw (injectW n port l)) []:=cT F55 Tryz.ntmps55 fun F hF=>by
 have hk0:(0:Int).toNat<l.length:=h0
 have hd:=hla _ (List.getElem_mem hk0)
 have q1:=Ac1 n hn hu l hl (fun h hh=>(hla h hh).2)
 have hwl:=M8 (n:=n) hu l
 have hv:=Lf hb hd.1.2
 have hres:=injectW.eq_1 n port l
 rw[Ag hk0,Ag hd.1.2,Ag hp.2]at hres
 generalize injectW n port l=res at *
 obtain ⟨ve,hve⟩:∃ v:Nat,(n.domains[(l[(0:Int).toNat]'hk0).domain.toNat]'hd.1.2).vlan=v:=⟨_,(Int.toNat_of_nonneg qn).symm⟩
 have hd1:0≤(l[(0:Int).toNat]'hk0).domain∧(l[(0:Int).toNat]'hk0).domain.toNat<n.domains.length:=hd.1
 have q3:=fun f hf=>Agk f ve hf qn
 have ho:=fun f hf=>Z2 (f:=f) hf ve qn
 rw[← hve]at q3 ho
 clear hve
 generalize wayBytes n l=bb at *
 have q2:=Ov bb.1 qn
 have hf:=W4 bb.1
 generalize takeF bb.1=tk at *
 have q3:=q3 _ hf
 have q4:=Kq _ (ho _ hf)
 clear ho
 conv=>whnf
 refine A0 3 8 (Aj n) E E E ?_
 refine T ?_
 refine C q1 F14 ?_
 refine⟨fun h=>?_,fun h=>?_⟩
 ·have hv2:(n.domains[(l[(0:Int).toNat]'hk0).domain.toNat]'hd.1.2).vlan≠(n.ports[port.toNat]'hp.2).native:=by simpa using h
  rw[if_pos hv2]at hres
  clear h hv hv2
  generalize tagT tk.1 (n.domains[(l[(0:Int).toNat]'hk0).domain.toNat]'hd.1.2).vlan=tg at *
  subst hres
  refine T ?_
  refine C q2 F121 ?_
  refine C q3 F122 ?_
  refine Ae (Ah [(0,55)] E F45 q4 E Y E ⟨.inr E,Y⟩) E E ?_
  refine Ap 55 E ?_
  refine T ?_
  refine Ar 6 [Aa 1,Aa port,Aa 0,Aa 0,.sl 1 Af (Qb tg.1),.sl 1 Ab []] E (.cons (.refl _) (.cons (.refl _) (.cons (.refl _) (.cons (.refl _) (.cons (.refl _) (.cons .nil .nil)))))) ?_
  exact D
 ·have hv2:¬ (n.domains[(l[(0:Int).toNat]'hk0).domain.toNat]'hd.1.2).vlan≠(n.ports[port.toNat]'hp.2).native:=by simpa using h
  rw[if_neg hv2]at hres
  subst hres
  refine T ?_
  refine Ar 6 [Aa 1,Aa port,Aa 0,Aa 0,.sl 1 Af bb.1,.sl 1 Ab []] E (.cons (.refl _) (.cons (.refl _) (.cons (.refl _) (.cons (.refl _) (.cons (.refl _) (.cons .nil .nil)))))) ?_
  exact D
abbrev stO (n:Net) (s:GoM):Obs:=[(0,.box (Qn n 1 s.m.now s.m.injected s.m.drops)),(1,.box (Jv n s.m.up s.d)),(2,.row 1 Id s.m.tables),(3,.row 1 I8 s.m.queues),(5,.box [.ptr 0 0]),(6,.box [.osl 7]),(7,.row 6 Bw s.out)]
abbrev stN (n:Net) (s:GoM):Obs:=[(0,.box (Qn n 4 s.m.now s.m.injected s.m.drops)),(1,.non),(2,.row 1 Id s.m.tables),(3,.row 1 I8 s.m.queues),(4,.box (Jv n s.m.up s.d)),(5,.box [.ptr 0 0]),(6,.box [.osl 8]),(7,.non),(8,.row 6 Bw s.out)]
abbrev doSV:SV:=.clo (.func 51) [] [.ptr 5 0,.ptr 6 0]
abbrev pkO (n:Net) (s:GoM):Obs:=[(0,.box (Qn n 1 s.m.now s.m.injected s.m.drops)),(1,.box (Jv n s.m.up s.d)),(2,.row 1 Id s.m.tables),(3,.row 1 I8 s.m.queues),(5,.box [.ptr 0 0]),(6,.box [.osl 7]),(7,.row 6 Bw s.out),(9,.box [doSV])]
abbrev pkN (n:Net) (s:GoM):Obs:=[(0,.box (Qn n 4 s.m.now s.m.injected s.m.drops)),(1,.non),(2,.row 1 Id s.m.tables),(3,.row 1 I8 s.m.queues),(4,.box (Jv n s.m.up s.d)),(5,.box [.ptr 0 0]),(6,.box [.osl 8]),(7,.non),(8,.row 6 Bw s.out),(9,.box [doSV])]
theorem Aqd (n:Net) (hn:n.Fin) (hm1:n.Num) (s:GoM) (J D:Int) (hm0:MacOK n s.m J D) (hJ:J<900000000000) (hD0:0≤D) (hD:D≤900000000000) (hlen:s.out.length<1000000) (x:StepM) (hb:x.bytes.length<100000) :
  Sy.Spec Tryz.prog 51 [Bw x,.ptr 5 0,.ptr 6 0] (stO n s) (.tup []) (stN n (doW n s x)):=cT F51 Tryz.ntmps51 fun F hF=>by
 have q1:=Aq2 n hn hm1 s.m s.d J D hm0 hJ hD0 hD x hb
 have hres:=doW.eq_1 n s x
 generalize doT n s.m x=r at *
 generalize doD n s.m s.d x=dd at *
 generalize doW n s x=res at *
 subst hres
 conv=>whnf
 refine X (We (d:=900) E E E) ?_
 refine X (Ah [] E F52 q1 E W E V) ?_
 refine X (Ad Γ.toTy 8 E E E E E (.row E) (.lit (e:=Bw) (l:=[x]) E E) qz (by simp;omega) (by simp;omega)) ?_
 exact Bg E .nil [] (stN n ⟨r.1,dd,s.out++[x]⟩) (fun _ h=>h) E E U
theorem Atg (n:Net) (hn:n.Fin) (hm1:n.Num) (m:MacM) (d:Bool) (J D:Int) (hm0:MacOK n m J D) (hJ:J<900000000000) (hD0:0≤D) (hD:D≤900000000000) (x:StepM) (hb:x.bytes.length<100000) :
  Sy.Spec Tryz.prog 51 [Bw x,.ptr 5 0,.ptr 6 0] [(0,.box (Qn n 1 m.now m.injected m.drops)),(1,.box (Jv n m.up d)),(2,.row 1 Id m.tables),(3,.row 1 I8 m.queues),(5,.box [.ptr 0 0]),(6,.box [.val (.slice none 0 0)])] (.tup [])
   [(0,.box (Qn n 4 (doW n ⟨m,d,[]⟩ x).m.now (doW n ⟨m,d,[]⟩ x).m.injected (doW n ⟨m,d,[]⟩ x).m.drops)),(1,.non),(2,.row 1 Id (doW n ⟨m,d,[]⟩ x).m.tables),(3,.row 1 I8 (doW n ⟨m,d,[]⟩ x).m.queues),(4,.box (Jv n (doW n ⟨m,d,[]⟩ x).m.up (doW n ⟨m,d,[]⟩ x).d)),(5,.box [.ptr 0 0]),(6,.box [.osl 8]),(8,.row 6 Bw (doW n ⟨m,d,[]⟩ x).out)]:=cT F51 Tryz.ntmps51 fun F hF=>by
 have q1:=Aq2 n hn hm1 m d J D hm0 hJ hD0 hD x hb
 have hres:=doW.eq_1 n ⟨m,d,[]⟩ x
 dsimp only at hres
 generalize doT n m x=r at *
 generalize doD n m d x=dd at *
 generalize doW n ⟨m,d,[]⟩ x=res at *
 subst hres
 conv=>whnf
 refine X (We (d:=900) E E E) ?_
 refine X (Ah [] E F52 q1 E W E V) ?_
 refine X (Ad Γ.toTy 8 E E E E E .nil (.lit (e:=Bw) (l:=[x]) E E) qz qz qz) ?_
 exact Bg E .nil [] [(0,.box (Qn n 4 r.1.now r.1.injected r.1.drops)),(1,.non),(2,.row 1 Id r.1.tables),(3,.row 1 I8 r.1.queues),(4,.box (Jv n r.1.up dd)),(5,.box [.ptr 0 0]),(6,.box [.osl 8]),(8,.row 6 Bw ([]++[x]))] (fun _ h=>h) E E U
theorem Apl {P:Program} {o:Oper} {s:SS} {x y:Operand} {at_:Array TypeId} {k k':IntKind} {m n r:Int} (hr:(if m<n then n else m)=r) (h:o.op=.call ⟨.builtin .max,#[x,y],at_⟩)
  (hx:ev s x=.val (.int k m)) (hy:ev s y=.val (.int k' n)):Good P o s ⟨.val (.int k r),[],[]⟩:=by
 subst hr
 exact Good.pure fun κ a w _ hr ho=>by
  have h1:=hr x (by simp[h,Op.operands,Call.operands])
  have h2:=hr y (by simp[h,Op.operands,Call.operands])
  rw[hx]at h1
  rw[hy]at h2
  refine⟨.int k (if m<n then n else m),?_,by simp[Rd]⟩
  simp[execOp,h,resolve,invoke,builtin,Builtin.max_,Builtin.max2,h1.val,h2.val]
theorem Zt (n:Net) (hn:n.Fin) (hm1:n.Num) (s:GoM) (J D:Int) (hm0:MacOK n s.m J D) (hJ:J<900000000000) (hD0:0≤D) (hD:D≤900000000000) (hlen:s.out.length<1000000) (dom:Int) :
  Sy.Spec Tryz.prog 53 [Aa dom,.ptr 9 0,.ptr 5 0] (pkO n s) (.tup []) (pkN n (Tx n s dom)):=cT F53 Tryz.ntmps53 fun F hF=>by
 have hqo:=Cn hm0 dom
 have q1:=An0 n s.m s.d dom hqo
 have q2:=Aqd n hn hm1 s J D hm0 hJ hD0 hD hlen (pickX s.m dom) (by show 0<100000;decide)
 rw[Tx]
 generalize doW n s (pickX s.m dom)=res at *
 have hpx:=pickX.eq_1 s.m dom
 have hql:(if Ak dom s.m.queues.length=true then queueL s.m dom else []).length<1000000:=by
  have:=hqo.1
  split
  ·omega
  ·simp
 generalize (if Ak dom s.m.queues.length=true then queueL s.m dom else [])=qs at *
 obtain ⟨v,hv⟩:∃ v:Int,(if (qs.length:Int)-1<0 then 0 else (qs.length:Int)-1)=v:=⟨_,rfl⟩
 rw[hv]at hpx
 generalize pickX s.m dom=px at *
 subst hpx
 refine T ?_
 refine Xe (Ah [] E F54 q1 E W E V) ?_
 refine Xd (Apl hv E E E) ?_
 refine Xd (Ih [] [] (Df E E F51) q2 (.cons (.agg (.cons (.refl _) (.cons (.refl _) (.cons (.refl _) (.cons (.refl _) (.cons .nil (.cons .nil .nil))))))) (.cons (.refl _) (.cons (.refl _) .nil))) W E V E) ?_
 exact Bg E .nil [] (pkN n res) (fun _ h=>h) E E U
end Go.Sy.YteinjapglfkamaaGreat
namespace Go.Sy.YteinjapglfkamaaGreat
open Go.Proofs
theorem X2 {n:Net} (hn:n.Fin) (hm1:n.Num) {s:GoM} {J D:Int} (h:MacOK n s.m J D) (hJ:0≤J) (hD:0≤D) (x:StepM):MacOK n (doW n s x).m (J+1) (D+4294967298)∧(doW n s x).out.length=s.out.length+1 :=
 ⟨doT_ok hn hm1 h hJ hD x,by simp[doW]⟩
theorem Ar2 {n:Net} (hn:n.Fin) (hm1:n.Num) {s:GoM} {J D:Int} (h:MacOK n s.m J D) (hJ:0≤J) (hD:0≤D) (x:Hop):MacOK n (linkW n s x).m (J+1) (D+4294967298)∧(linkW n s x).out.length≤s.out.length+1:=by
 unfold linkW
 split
 ·have:=X2 hn hm1 h hJ hD ⟨5,0,0,0,[],upW n x⟩
  exact⟨this.1,by omega⟩
 ·exact⟨h.mono qn qn,by omega⟩
theorem Afi {n:Net} (hn:n.Fin) (hm1:n.Num) (from_:Int) (l:List Hop):∀ k:Nat,MacOK n (goW n from_ l k).m (1+2 * k) ((1+2 * k) * 4294967298)∧(goW n from_ l k).out.length≤1+2 * k
 | 0=>by
  have:=X2 hn hm1 (s:=⟨newT n,false,[]⟩) (Ae4 n) (Int.le_refl _) (Int.le_refl _) (injectW n from_ l)
  rw[goW]
  exact⟨this.1.mono qn qn,by rw[this.2];simp⟩
 | k+1=>by
  obtain ⟨h1,h2⟩:=Afi hn hm1 from_ l k
  rw[goW]
  have h3:=Ar2 hn hm1 h1 qn qn (nth l ((k+1:Nat):Int))
  have h4:=X2 hn hm1 h3.1 qn qn (pickX (linkW n (goW n from_ l k) (nth l ((k+1:Nat):Int))).m (nth l ((k:Nat):Int)).domain)
  refine⟨h4.1.mono qn qn,?_⟩
  have h5:=h4.2
  unfold Tx
  omega
theorem Yu {n:Net} (hu:Dj n) (hb:Ac n=true) (from_:Int) {l:List Hop} (h0:0<l.length) (hla:∀ h∈l,Ua n h):(injectW n from_ l).bytes.length<100000:=by
 have hk0:(0:Int).toNat<l.length:=h0
 have hd:=hla _ (List.getElem_mem hk0)
 have hv:=Lf hb hd.1.2
 show (if _ then _ else _:List UInt8).length<100000
 rw[Ag hk0,Ag hd.1.2]
 obtain ⟨ve,hve⟩:∃ v:Nat,(n.domains[(l[(0:Int).toNat]'hk0).domain.toNat]'hd.1.2).vlan=v:=⟨_,(Int.toNat_of_nonneg qn).symm⟩
 rw[hve]
 split
 ·rw[E6]
  have:=(Z2 (W4 (wayBytes n l).1) ve qn).body
  omega
 ·have:=M8 (n:=n) hu l
  omega
attribute [local irreducible] Go.Sy.G Go.Sy.DR
set_option maxRecDepth 100000
set_option maxHeartbeats 8000000
theorem Ud (n:Net) (hn:n.Fin) (hm1:n.Num) (hu:Dj n) (from_ to:Int) :
  Sy.Spec Tryz.prog 16 [Aj n,Aa from_,Aa to] [] (.tup [.sl 6 Bw (wscriptT n from_ to).1,Aa (wscriptT n from_ to).2]) []:=cT F16 Tryz.ntmps16 fun F hF=>by
 have hlk:=wscriptT.eq_1 n from_ to
 generalize wscriptT n from_ to=res at *
 have h1:=U9 n from_
 have h2:=U9 n to
 have hls:=hn.links
 unfold Al at hls
 conv=>whnf
 refine A0 3 8 (Aj n) E E E ?_
 refine T ?_
 refine C h1 F22 ?_
 cases hf:Iz n from_
 ·rw[if_neg (fun x=>by rw[hf]at x;cases x.1)]at hlk
  subst hlk
  refine T ?_
  refine Ai 6 6 Bw E ?_
  exact D
 refine T ?_
 refine C h2 F22 ?_
 cases ht:Iz n to
 ·rw[if_neg (fun x=>by rw[ht]at x;cases x.2.1)]at hlk
  subst hlk
  refine T ?_
  refine Ai 6 6 Bw E ?_
  exact D
 refine T ?_
 refine⟨fun h=>?_,fun h=>?_⟩
 ·rw[if_neg (fun x=>x.2.2.1 (by simpa using h))]at hlk
  subst hlk
  refine T ?_
  refine Ai 6 6 Bw E ?_
  exact D
 have hne:from_≠to:=by simpa using h
 clear h
 refine T ?_
 cases hok:okB n (Acg n)
 ·rw[if_neg (fun x=>by rw[hok]at x;cases x.2.2.2)]at hlk
  subst hlk
  refine C (Ajs n hn hok) F50 ?_
  refine Ai 6 6 Bw E ?_
  exact D
 rw[if_pos ⟨hf,ht,hne,hok⟩]at hlk
 refine X (Ah [(0,800),(1,801),(2,802),(3,803)] E F50 (Ats n hn hok) E Y E V) ?_
 have q2:=wayS n hn hu from_ to
 have hfac:=@Ajj n hu from_ to
 have hlnk:=@way_links n from_ to
 have hsh:Al (wayT n from_ to).1∨True:=.inr trivial
 generalize wayT n from_ to=wr at *
 obtain ⟨l,ok⟩:=wr
 cases ok
 ·rw[if_neg qz]at hlk
  subst hlk
  refine C q2 F9 ?_
  refine Ai 6 6 Bw E ?_
  exact D
 rw[if_pos rfl]at hlk
 obtain ⟨hla,hlen,hlne,hb⟩:=hfac rfl
 have hlk2:=hlnk rfl
 clear hfac hlnk hsh
 dsimp only at *
 have hfe:=Aiu hb
 have h0:0<l.length:=List.length_pos_iff.2 hlne
 have hsl:Al l:=by unfold Al;omega
 have hp:=Mt hf
 have q3:=Aji n hn hu hb from_ hp l hsl hla h0
 have q4:=Atg n hn hm1 (newT n) false 0 0 (Ae4 n) qn qn qn (injectW n from_ l) (Yu hu hb from_ h0 hla)
 rw[show doW n ⟨newT n,false,[]⟩ (injectW n from_ l)=goW n from_ l 0 from rfl]at q4
 refine C q2 F9 ?_
 refine C q3 F55 ?_
 refine Xd (Cu [(0,800),(1,801),(2,802),(3,803),(4,804),(5,8),(6,12),(8,805)] (Df E E F51) q4 E W E V) ?_
 have hdl:(l.drop 1).length=l.length-1:=by simp
 refine X (T3 (lo:=1) (hi:=l.length) Γ.toTy (l.drop 1) E E E E (.inr ⟨_,_,E,E⟩) (.inl ⟨E,E⟩) qn (Nat.le_refl _) (by rw[List.take_length])) ?_
 clear q2 q3 q4
 refine Aq (l.drop 1).length (fun j=>[(3,.ref 8 (Aj n) 0),(10,.sl 4 Bp l),(12,.ptr 6 0),(13,.ptr 9 0),(14,.clo (.func 53) [] [.ptr 9 0,.ptr 5 0]),(58,.sl 4 Bp (l.drop 1)),(59,Aa (l.drop 1).length),(60,Aa j)]) (fun j=>pkO n (goW n from_ l j))
  [(0,800),(1,804),(2,802),(3,803),(5,8),(6,12),(7,805),(9,13)] U ?_
 intro j hj
 obtain ⟨hm0,hol⟩:=Afi hn hm1 from_ l j
 refine T ?_
 refine⟨fun h=>?_,fun h=>?_⟩
 ·have hlt:j<(l.drop 1).length:=qA h
  have hj0:((j:Nat):Int).toNat<(l.drop 1).length:=by simpa using hlt
  have hk1:((j+1:Nat):Int).toNat<l.length:=by omega
  have hk0:((j:Nat):Int).toNat<l.length:=by omega
  have hgs:goW n from_ l (j+1)=Tx n (linkW n (goW n from_ l j) (l[((j+1:Nat):Int).toNat]'hk1)) (l[((j:Nat):Int).toNat]'hk0).domain:=by rw[goW,Ag hk1,Ag hk0]
  have e1:(l.drop 1)[((j:Nat):Int).toNat]'hj0=l[((j+1:Nat):Int).toNat]'hk1:=by
   rw[List.getElem_drop]
   congr 1
   omega
  have hxl:=hlk2 _ (List.getElem_mem hk1)
  generalize l[((j+1:Nat):Int).toNat]'hk1=x at *
  generalize goW n from_ l j=s at *
  have hgl:=linkW.eq_1 n s x
  clear h
  refine S ?_
  refine⟨E,by omega,hj0,?_⟩
  rw[e1]
  refine T ?_
  refine⟨fun h=>?_,fun h=>?_⟩
  ·have hk:x.kind=1:=by simpa using h
   rw[if_pos hk]at hgl
   obtain ⟨hp1,hl0,hl1⟩:=hxl hk
   have hup:=upW.eq_1 n x
   rw[Ag hp1.2]at hl0 hl1 hup
   have q6:=Aqd n hn hm1 s _ _ hm0 qn qn qn qn ⟨5,0,0,0,[],upW n x⟩ (by show 0<100000;decide)
   obtain ⟨hm2,hol2⟩:=X2 hn hm1 hm0 qn qn ⟨5,0,0,0,[],upW n x⟩
   rw[← hgl]at q6 hm2 hol2
   rw[hup]at q6
   clear hgl hup
   generalize linkW n s x=s1 at *
   have q7:=Zt n hn hm1 s1 _ _ hm2 qn qn qn qn (l[((j:Nat):Int).toNat]'hk0).domain
   rw[← hgs]at q7
   clear h
   refine T ?_
   refine X (Bm Γ.toTy (d:=71) (n:=n.links.length) Ab false E E E E E E E E qn qn E E E) ?_
   refine⟨by rw[List.length_replicate];exact hl1,?_⟩
   conv=>whnf
   refine⟨E,(by rw[List.length_replicate];exact hl1),true,E,E,?_⟩
   refine T ?_
   refine Ap 71 E ?_
   refine X (Ih [(4,40),(8,41)] [] (Df E E F51) q6 (.cons (.agg (.cons (.refl _) (.cons (.refl _) (.cons (.refl _) (.cons (.refl _) (.cons .nil (.cons (.refl _) .nil))))))) (.cons (.refl _) (.cons (.refl _) .nil))) W E V E) ?_
   refine X (Cu [(1,40),(7,41),(4,42),(8,43)] (Df E E F53) q7 E W E V) ?_
   exact An [(1,42),(7,43)] hlt U
  ·have hk:¬ x.kind=1:=by simpa using h
   rw[if_neg hk]at hgl
   rw[hgl]at hgs
   have q7:=Zt n hn hm1 s _ _ hm0 qn qn qn qn (l[((j:Nat):Int).toNat]'hk0).domain
   rw[← hgs]at q7
   clear h
   refine T ?_
   refine X (Cu [(4,42),(8,43)] (Df E E F53) q7 E W E V) ?_
   exact An [(1,42),(7,43)] hlt U
 ·have hjj:j=(l.drop 1).length:=qB h
  subst hjj
  have hkl:((l.length:Int)-1).toNat<l.length:=by omega
  have hend:Alu n from_ l=Tx n (goW n from_ l (l.drop 1).length) (l[((l.length:Int)-1).toNat]'hkl).domain:=by rw[Alu,Ag hkl,hdl]
  have q7:=Zt n hn hm1 _ _ _ hm0 qn qn qn qn (l[((l.length:Int)-1).toNat]'hkl).domain
  rw[← hend]at q7
  clear hend
  generalize Alu n from_ l=s2 at *
  generalize goW n from_ l (l.drop 1).length=s at *
  subst hlk
  clear h
  refine T ?_
  refine X (Cu [(4,42),(8,43)] (Df E E F53) q7 E W E V) ?_
  refine Ap 43 E ?_
  exact D
end Go.Sy.YteinjapglfkamaaGreat
namespace Go.Sy
open Go.ChangeShapes Go.WideShapes Go.ChangeAt Go.RowKit
section
variable {H:Type} (enc:TypeId × Value→H) (P:Program) (W:World)
def Op1 (t:TypeId) {α:Type} (e:α→SV) (p:α→Prop):Prop :=
 ∀ n c y,DataW.trod enc P W 0 (fun _=>true) true n t [c]=some y→∃ x,p x∧Rd κ0 W (e x) c∧c.oneCell'=true
def OpN (t:TypeId) {α:Type} (e:α→SV) (p:α→Prop) (sz:Nat):Prop :=
 ∀ n cs y,DataW.trod enc P W 0 (fun _=>true) true n t cs=some y→∃ x,p x∧cs.length=sz∧Ones cs∧RdL κ0 W (cellsOf (e x)) cs
variable {enc P W}
theorem Cs {t:TypeId} {k:IntKind} (ht:P.underlying t=some (.int k)):Op1 enc P W t (fun z=>.val (.int k z)) (fun z=>(Lit.int k z).wf=true):=fun n c y h=>by
 obtain ⟨z,e,_,hw⟩:=DataW.trod_int ht h
 have e:c=.int k z:=by simpa using e
 subst e
 exact⟨z,hw,by simp[Rd],E⟩
theorem Akv {t:TypeId} (ht:P.underlying t=some .string):Op1 enc P W t Ac5 (fun s=>s.size≤maxLen):=fun n c y h=>by
 obtain ⟨z,e,_,hw⟩:=DataW.trod_string ht h
 have e:c=.string z:=by simpa using e
 subst e
 exact⟨z,hw,by simp[Ac5,Rd],E⟩
theorem Amv {t:TypeId} {k:IntKind} (ht:P.underlying t=some (.int k)):OpN enc P W t (fun z=>.val (.int k z)) (fun z=>(Lit.int k z).wf=true) 1:=fun n cs y h=>by
 obtain ⟨z,rfl,_,hw⟩:=DataW.trod_int ht h
 refine⟨z,hw,E,fun c hc=>by simp at hc;subst hc;rfl,?_⟩
 simp[cellsOf,RdL,Rd]
theorem Ad5 {base:Nat} {a:Addr} {n:Nat} {cs:List Value} (h:W.cells? base a n=some cs):cs.length=n∧∀ j (_:j<n),W.cell? (a.add j)=cs[j]?:=by
 unfold World.cells? at h
 split at h
 ·refine⟨by simpa using mapM_some_length h,fun j hj=>?_⟩
  exact mapM_some_get h j j (by simp[hj])
 ·cases h
theorem Hs {t et:TypeId} {α:Type} {e:α→SV} {p:α→Prop} {sz:Nat} (ht:P.underlying t=some (.slice et)) (hsz:P.cellsOf et=sz) (h0:0<sz) (hb:∀ x,(e x).boxed=true) (hd:∀ x,(e x).data=true) (hO:OpN enc P W et e p sz) :
  Op1 enc P W t (fun l:List α=>.sl sz e l) (fun l=>(∀ x∈l,p x)∧l.length≤maxLen):=fun n c y h=>by
 rcases DataW.trod_slice ht h with ⟨hcs,_⟩ | ⟨a,len,cap,elems,rest,m,rfl,hcs,_,_,hlc,hcm,hel,hget,_⟩
 ·have hc:c=.slice none 0 0:=by simpa using hcs
  subst hc
  refine⟨[],⟨by simp,Nat.zero_le _⟩,?_,E⟩
  simp only[Rd,RdD]
  exact .inl ⟨Y,none,0,E⟩
 ·have hc:c=.slice (some a) len cap:=by simpa using hcs
  subst hc
  rw[hsz]at hget
  have hall:∀ i:Fin len,∃ x,p x∧∃ cs,W.cells? 0 (a.add (i * sz)) sz=some cs∧cs.length=sz∧Ones cs∧RdL κ0 W (cellsOf (e x)) cs:=fun i=>by
   have h1:=hget i.1 i.2
   rw[List.getElem?_eq_getElem qn]at h1
   obtain ⟨cs,h2,h3⟩:=Option.bind_eq_some_iff.1 h1
   obtain ⟨x,h4,h5,h6,h7⟩:=hO _ _ _ h3
   exact⟨x,h4,cs,h2,h5,h6,h7⟩
  let xs:Fin len→α:=fun i=>Classical.choose (hall i)
  have hxs:∀ i,p (xs i)∧∃ cs,W.cells? 0 (a.add (i.1 * sz)) sz=some cs∧cs.length=sz∧Ones cs∧RdL κ0 W (cellsOf (e (xs i))) cs:=fun i=>Classical.choose_spec (hall i)
  refine⟨List.ofFn xs,⟨fun x hx=>?_,by simp;omega⟩,?_,E⟩
  ·obtain ⟨i,rfl⟩:=List.mem_ofFn.1 hx
   exact(hxs i).1
  ·simp only[Rd,RdD]
   by_cases hl:len=0
   ·subst hl
    exact .inl ⟨by simp,_,_,E⟩
   ·have hcell:∀ i:Fin len,∀ j,j<sz→∃ v,W.cell? ((a.add (i.1 * sz)).add j)=some v:=fun i j hj=>by
     obtain ⟨_,cs,h1,h2,_⟩:=hxs i
     have:=(Ad5 h1).2 j hj
     rw[List.getElem?_eq_getElem qn]at this
     exact⟨_,this⟩
    obtain ⟨b,off,spot⟩:=a
    have hspot:spot=none:=by
     obtain ⟨v,hv⟩:=hcell ⟨0,by omega⟩ 0 h0
     simpa [Addr.add] using World.cell?_spot hv
    subst hspot
    have hadd:∀ i j,((⟨b,off,none⟩:Addr).add i).add j=⟨b,off+i+j,none⟩:=fun i j=>by rw[Addr.add_lit,Addr.add_lit]
    refine .inr ⟨b,off,cap,by simp,by simpa using hlc,?_,?_,fun i hi=>?_⟩
    ·rintro (⟨k,hk⟩ | hk)
     ·cases hk
     ·exact hk
    ·obtain ⟨v,hv⟩:=hcell ⟨0,by omega⟩ 0 h0
     rw[hadd]at hv
     rcases Nat.lt_or_ge b W.heap.size with h | h
     ·exact h
     ·simp[World.cell?,Array.getElem?_eq_none h]at hv
    ·simp only[List.length_ofFn]at hi
     obtain ⟨_,cs,h1,h2,h3,h4⟩:=hxs ⟨i,hi⟩
     obtain ⟨u,g1,g2⟩:=Rd.of_cells (hb _) h3 h4
     refine⟨u,?_,?_,by rw[g2];exact h3,fun j hj=>?_⟩
     ·rw[List.getElem_ofFn]
      exact Rd.data _ _ (hd _) g1
     ·have:u.cells.toList.length=sz:=by rw[g2,h2]
      simpa using this
     ·have:=(Ad5 h1).2 j hj
      rw[hadd]at this
      rw[this,← g2]
      simp
end
end Go.Sy
namespace Go.Sy.YteinjapglfkamaaGreat
open Go.Proofs Go.ChangeShapes Go.WideShapes Go.ChangeAt Go.RowKit
set_option maxRecDepth 100000
section
variable {H:Type} {enc:TypeId × Value→H} {W:World}
def wI (k:IntKind) (z:Int):Prop:=(Lit.int k z).wf=true
theorem Zi:Op1 enc Tryz.prog W 56 (fun l:List Int=>.sl 1 (fun z=>.val (.int .i64 z)) l) (fun l=>(∀ z∈l,wI .i64 z)∧l.length≤maxLen) :=
 Hs Tryz.underlying56 (by kernel_rfl:Tryz.prog.cellsOf 3=1) qy (fun _=>rfl) (fun _=>rfl) (Amv Tryz.underlying3)
theorem At2:Op1 enc Tryz.prog W 70 (fun l:List Int=>.sl 1 (fun z=>.val (.int .u32 z)) l) (fun l=>(∀ z∈l,wI .u32 z)∧l.length≤maxLen) :=
 Hs Tryz.underlying70 (by kernel_rfl:Tryz.prog.cellsOf 75=1) qy (fun _=>rfl) (fun _=>rfl) (Amv Tryz.underlying75)
def Device.In (x:Device):Prop:=wI .i64 x.row∧wI .i64 x.prio∧x.name.size≤maxLen∧wI .u64 x.mac∧wI .u32 x.vtep
theorem Aky:OpN enc Tryz.prog W 77 Bn Device.In 5:=fun n cs y h=>by
 obtain ⟨xs,m,_,_,hlen,hx,hg⟩:=DataW.trod_struct Tryz.underlying77 h
 have hlen:cs.length=5:=hlen.trans (by kernel_rfl:Tryz.prog.cellsOf 77=5)
 have hx:xs.length=5:=hx
 match cs,hlen with
 | [c0,c1,c2,c3,c4],_ =>
  have g0:DataW.trod enc Tryz.prog W 0 (fun _=>true) true m 3 (([c0,c1,c2,c3,c4].drop 0).take (Tryz.prog.cellsOf 3))=xs[0]?:=hg 0 _ rfl
  rw[(by kernel_rfl:Tryz.prog.cellsOf 3=1),List.getElem?_eq_getElem qn]at g0
  obtain ⟨z0,p0,r0,o0⟩:=Cs Tryz.underlying3 _ _ _ g0
  have g1:DataW.trod enc Tryz.prog W 0 (fun _=>true) true m 3 (([c0,c1,c2,c3,c4].drop 1).take (Tryz.prog.cellsOf 3))=xs[1]?:=hg 1 _ rfl
  rw[(by kernel_rfl:Tryz.prog.cellsOf 3=1),List.getElem?_eq_getElem qn]at g1
  obtain ⟨z1,p1,r1,o1⟩:=Cs Tryz.underlying3 _ _ _ g1
  have g2:DataW.trod enc Tryz.prog W 0 (fun _=>true) true m 9 (([c0,c1,c2,c3,c4].drop 2).take (Tryz.prog.cellsOf 9))=xs[2]?:=hg 2 _ rfl
  rw[(by kernel_rfl:Tryz.prog.cellsOf 9=1),List.getElem?_eq_getElem qn]at g2
  obtain ⟨z2,p2,r2,o2⟩:=Akv Tryz.underlying9 _ _ _ g2
  have g3:DataW.trod enc Tryz.prog W 0 (fun _=>true) true m 57 (([c0,c1,c2,c3,c4].drop 3).take (Tryz.prog.cellsOf 57))=xs[3]?:=hg 3 _ rfl
  rw[(by kernel_rfl:Tryz.prog.cellsOf 57=1),List.getElem?_eq_getElem qn]at g3
  obtain ⟨z3,p3,r3,o3⟩:=Cs Tryz.underlying57 _ _ _ g3
  have g4:DataW.trod enc Tryz.prog W 0 (fun _=>true) true m 75 (([c0,c1,c2,c3,c4].drop 4).take (Tryz.prog.cellsOf 75))=xs[4]?:=hg 4 _ rfl
  rw[(by kernel_rfl:Tryz.prog.cellsOf 75=1),List.getElem?_eq_getElem qn]at g4
  obtain ⟨z4,p4,r4,o4⟩:=Cs Tryz.underlying75 _ _ _ g4
  refine⟨⟨z0,z1,z2,z3,z4⟩,⟨p0,p1,p2,p3,p4⟩,E,fun c hc=>?_,?_⟩
  ·simp only[List.mem_cons,List.not_mem_nil,or_false]at hc
   rcases hc with rfl | rfl | rfl | rfl | rfl<;>assumption
  ·simp only[Bn,cellsOf,RdL]
   exact⟨_,_,E,r0,_,_,E,r1,_,_,E,r2,_,_,E,r3,_,_,E,r4,E⟩
def Port.In (x:Port):Prop:=wI .i64 x.row∧wI .i64 x.dev∧wI .i64 x.native∧wI .i64 x.cost∧wI .i64 x.link∧x.name.size≤maxLen∧((∀ z∈x.tagged,wI .i64 z)∧x.tagged.length≤maxLen)
theorem Arn:OpN enc Tryz.prog W 67 A7 Port.In 7:=fun n cs y h=>by
 obtain ⟨xs,m,_,_,hlen,hx,hg⟩:=DataW.trod_struct Tryz.underlying67 h
 have hlen:cs.length=7:=hlen.trans (by kernel_rfl:Tryz.prog.cellsOf 67=7)
 have hx:xs.length=7:=hx
 match cs,hlen with
 | [c0,c1,c2,c3,c4,c5,c6],_ =>
  have g0:DataW.trod enc Tryz.prog W 0 (fun _=>true) true m 3 (([c0,c1,c2,c3,c4,c5,c6].drop 0).take (Tryz.prog.cellsOf 3))=xs[0]?:=hg 0 _ rfl
  rw[(by kernel_rfl:Tryz.prog.cellsOf 3=1),List.getElem?_eq_getElem qn]at g0
  obtain ⟨z0,p0,r0,o0⟩:=Cs Tryz.underlying3 _ _ _ g0
  have g1:DataW.trod enc Tryz.prog W 0 (fun _=>true) true m 3 (([c0,c1,c2,c3,c4,c5,c6].drop 1).take (Tryz.prog.cellsOf 3))=xs[1]?:=hg 1 _ rfl
  rw[(by kernel_rfl:Tryz.prog.cellsOf 3=1),List.getElem?_eq_getElem qn]at g1
  obtain ⟨z1,p1,r1,o1⟩:=Cs Tryz.underlying3 _ _ _ g1
  have g2:DataW.trod enc Tryz.prog W 0 (fun _=>true) true m 3 (([c0,c1,c2,c3,c4,c5,c6].drop 2).take (Tryz.prog.cellsOf 3))=xs[2]?:=hg 2 _ rfl
  rw[(by kernel_rfl:Tryz.prog.cellsOf 3=1),List.getElem?_eq_getElem qn]at g2
  obtain ⟨z2,p2,r2,o2⟩:=Cs Tryz.underlying3 _ _ _ g2
  have g3:DataW.trod enc Tryz.prog W 0 (fun _=>true) true m 3 (([c0,c1,c2,c3,c4,c5,c6].drop 3).take (Tryz.prog.cellsOf 3))=xs[3]?:=hg 3 _ rfl
  rw[(by kernel_rfl:Tryz.prog.cellsOf 3=1),List.getElem?_eq_getElem qn]at g3
  obtain ⟨z3,p3,r3,o3⟩:=Cs Tryz.underlying3 _ _ _ g3
  have g4:DataW.trod enc Tryz.prog W 0 (fun _=>true) true m 3 (([c0,c1,c2,c3,c4,c5,c6].drop 4).take (Tryz.prog.cellsOf 3))=xs[4]?:=hg 4 _ rfl
  rw[(by kernel_rfl:Tryz.prog.cellsOf 3=1),List.getElem?_eq_getElem qn]at g4
  obtain ⟨z4,p4,r4,o4⟩:=Cs Tryz.underlying3 _ _ _ g4
  have g5:DataW.trod enc Tryz.prog W 0 (fun _=>true) true m 9 (([c0,c1,c2,c3,c4,c5,c6].drop 5).take (Tryz.prog.cellsOf 9))=xs[5]?:=hg 5 _ rfl
  rw[(by kernel_rfl:Tryz.prog.cellsOf 9=1),List.getElem?_eq_getElem qn]at g5
  obtain ⟨z5,p5,r5,o5⟩:=Akv Tryz.underlying9 _ _ _ g5
  have g6:DataW.trod enc Tryz.prog W 0 (fun _=>true) true m 56 (([c0,c1,c2,c3,c4,c5,c6].drop 6).take (Tryz.prog.cellsOf 56))=xs[6]?:=hg 6 _ rfl
  rw[(by kernel_rfl:Tryz.prog.cellsOf 56=1),List.getElem?_eq_getElem qn]at g6
  obtain ⟨z6,p6,r6,o6⟩:=Zi _ _ _ g6
  refine⟨⟨z0,z1,z2,z3,z4,z5,z6⟩,⟨p0,p1,p2,p3,p4,p5,p6⟩,E,fun c hc=>?_,?_⟩
  ·simp only[List.mem_cons,List.not_mem_nil,or_false]at hc
   rcases hc with rfl | rfl | rfl | rfl | rfl | rfl | rfl<;>assumption
  ·simp only[A7,cellsOf,RdL]
   exact⟨_,_,E,r0,_,_,E,r1,_,_,E,r2,_,_,E,r3,_,_,E,r4,_,_,E,r5,_,_,E,r6,E⟩
def Link.In (x:Link):Prop:=wI .i64 x.row∧wI .i64 x.a∧wI .i64 x.b
theorem Aro:OpN enc Tryz.prog W 167 Cp Link.In 3:=fun n cs y h=>by
 obtain ⟨xs,m,_,_,hlen,hx,hg⟩:=DataW.trod_struct Tryz.underlying167 h
 have hlen:cs.length=3:=hlen.trans (by kernel_rfl:Tryz.prog.cellsOf 167=3)
 have hx:xs.length=3:=hx
 match cs,hlen with
 | [c0,c1,c2],_ =>
  have g0:DataW.trod enc Tryz.prog W 0 (fun _=>true) true m 3 (([c0,c1,c2].drop 0).take (Tryz.prog.cellsOf 3))=xs[0]?:=hg 0 _ rfl
  rw[(by kernel_rfl:Tryz.prog.cellsOf 3=1),List.getElem?_eq_getElem qn]at g0
  obtain ⟨z0,p0,r0,o0⟩:=Cs Tryz.underlying3 _ _ _ g0
  have g1:DataW.trod enc Tryz.prog W 0 (fun _=>true) true m 3 (([c0,c1,c2].drop 1).take (Tryz.prog.cellsOf 3))=xs[1]?:=hg 1 _ rfl
  rw[(by kernel_rfl:Tryz.prog.cellsOf 3=1),List.getElem?_eq_getElem qn]at g1
  obtain ⟨z1,p1,r1,o1⟩:=Cs Tryz.underlying3 _ _ _ g1
  have g2:DataW.trod enc Tryz.prog W 0 (fun _=>true) true m 3 (([c0,c1,c2].drop 2).take (Tryz.prog.cellsOf 3))=xs[2]?:=hg 2 _ rfl
  rw[(by kernel_rfl:Tryz.prog.cellsOf 3=1),List.getElem?_eq_getElem qn]at g2
  obtain ⟨z2,p2,r2,o2⟩:=Cs Tryz.underlying3 _ _ _ g2
  refine⟨⟨z0,z1,z2⟩,⟨p0,p1,p2⟩,E,fun c hc=>?_,?_⟩
  ·simp only[List.mem_cons,List.not_mem_nil,or_false]at hc
   rcases hc with rfl | rfl | rfl<;>assumption
  ·simp only[Cp,cellsOf,RdL]
   exact⟨_,_,E,r0,_,_,E,r1,_,_,E,r2,E⟩
def Domain.In (x:Domain):Prop:=wI .i64 x.dev∧wI .i64 x.vlan∧wI .i64 x.vni∧wI .i64 x.irb∧wI .i64 x.row∧((∀ z∈x.peers,wI .i64 z)∧x.peers.length≤maxLen)
theorem Akx:OpN enc Tryz.prog W 69 Au Domain.In 6:=fun n cs y h=>by
 obtain ⟨xs,m,_,_,hlen,hx,hg⟩:=DataW.trod_struct Tryz.underlying69 h
 have hlen:cs.length=6:=hlen.trans (by kernel_rfl:Tryz.prog.cellsOf 69=6)
 have hx:xs.length=6:=hx
 match cs,hlen with
 | [c0,c1,c2,c3,c4,c5],_ =>
  have g0:DataW.trod enc Tryz.prog W 0 (fun _=>true) true m 3 (([c0,c1,c2,c3,c4,c5].drop 0).take (Tryz.prog.cellsOf 3))=xs[0]?:=hg 0 _ rfl
  rw[(by kernel_rfl:Tryz.prog.cellsOf 3=1),List.getElem?_eq_getElem qn]at g0
  obtain ⟨z0,p0,r0,o0⟩:=Cs Tryz.underlying3 _ _ _ g0
  have g1:DataW.trod enc Tryz.prog W 0 (fun _=>true) true m 3 (([c0,c1,c2,c3,c4,c5].drop 1).take (Tryz.prog.cellsOf 3))=xs[1]?:=hg 1 _ rfl
  rw[(by kernel_rfl:Tryz.prog.cellsOf 3=1),List.getElem?_eq_getElem qn]at g1
  obtain ⟨z1,p1,r1,o1⟩:=Cs Tryz.underlying3 _ _ _ g1
  have g2:DataW.trod enc Tryz.prog W 0 (fun _=>true) true m 3 (([c0,c1,c2,c3,c4,c5].drop 2).take (Tryz.prog.cellsOf 3))=xs[2]?:=hg 2 _ rfl
  rw[(by kernel_rfl:Tryz.prog.cellsOf 3=1),List.getElem?_eq_getElem qn]at g2
  obtain ⟨z2,p2,r2,o2⟩:=Cs Tryz.underlying3 _ _ _ g2
  have g3:DataW.trod enc Tryz.prog W 0 (fun _=>true) true m 3 (([c0,c1,c2,c3,c4,c5].drop 3).take (Tryz.prog.cellsOf 3))=xs[3]?:=hg 3 _ rfl
  rw[(by kernel_rfl:Tryz.prog.cellsOf 3=1),List.getElem?_eq_getElem qn]at g3
  obtain ⟨z3,p3,r3,o3⟩:=Cs Tryz.underlying3 _ _ _ g3
  have g4:DataW.trod enc Tryz.prog W 0 (fun _=>true) true m 3 (([c0,c1,c2,c3,c4,c5].drop 4).take (Tryz.prog.cellsOf 3))=xs[4]?:=hg 4 _ rfl
  rw[(by kernel_rfl:Tryz.prog.cellsOf 3=1),List.getElem?_eq_getElem qn]at g4
  obtain ⟨z4,p4,r4,o4⟩:=Cs Tryz.underlying3 _ _ _ g4
  have g5:DataW.trod enc Tryz.prog W 0 (fun _=>true) true m 56 (([c0,c1,c2,c3,c4,c5].drop 5).take (Tryz.prog.cellsOf 56))=xs[5]?:=hg 5 _ rfl
  rw[(by kernel_rfl:Tryz.prog.cellsOf 56=1),List.getElem?_eq_getElem qn]at g5
  obtain ⟨z5,p5,r5,o5⟩:=Zi _ _ _ g5
  refine⟨⟨z0,z1,z2,z3,z4,z5⟩,⟨p0,p1,p2,p3,p4,p5⟩,E,fun c hc=>?_,?_⟩
  ·simp only[List.mem_cons,List.not_mem_nil,or_false]at hc
   rcases hc with rfl | rfl | rfl | rfl | rfl | rfl<;>assumption
  ·simp only[Au,cellsOf,RdL]
   exact⟨_,_,E,r0,_,_,E,r1,_,_,E,r2,_,_,E,r3,_,_,E,r4,_,_,E,r5,E⟩
def Static.In (x:Static):Prop:=wI .i64 x.row∧wI .i64 x.domain∧wI .i64 x.port∧wI .u64 x.mac
theorem Akw:OpN enc Tryz.prog W 171 Bk Static.In 4:=fun n cs y h=>by
 obtain ⟨xs,m,_,_,hlen,hx,hg⟩:=DataW.trod_struct Tryz.underlying171 h
 have hlen:cs.length=4:=hlen.trans (by kernel_rfl:Tryz.prog.cellsOf 171=4)
 have hx:xs.length=4:=hx
 match cs,hlen with
 | [c0,c1,c2,c3],_ =>
  have g0:DataW.trod enc Tryz.prog W 0 (fun _=>true) true m 3 (([c0,c1,c2,c3].drop 0).take (Tryz.prog.cellsOf 3))=xs[0]?:=hg 0 _ rfl
  rw[(by kernel_rfl:Tryz.prog.cellsOf 3=1),List.getElem?_eq_getElem qn]at g0
  obtain ⟨z0,p0,r0,o0⟩:=Cs Tryz.underlying3 _ _ _ g0
  have g1:DataW.trod enc Tryz.prog W 0 (fun _=>true) true m 3 (([c0,c1,c2,c3].drop 1).take (Tryz.prog.cellsOf 3))=xs[1]?:=hg 1 _ rfl
  rw[(by kernel_rfl:Tryz.prog.cellsOf 3=1),List.getElem?_eq_getElem qn]at g1
  obtain ⟨z1,p1,r1,o1⟩:=Cs Tryz.underlying3 _ _ _ g1
  have g2:DataW.trod enc Tryz.prog W 0 (fun _=>true) true m 3 (([c0,c1,c2,c3].drop 2).take (Tryz.prog.cellsOf 3))=xs[2]?:=hg 2 _ rfl
  rw[(by kernel_rfl:Tryz.prog.cellsOf 3=1),List.getElem?_eq_getElem qn]at g2
  obtain ⟨z2,p2,r2,o2⟩:=Cs Tryz.underlying3 _ _ _ g2
  have g3:DataW.trod enc Tryz.prog W 0 (fun _=>true) true m 57 (([c0,c1,c2,c3].drop 3).take (Tryz.prog.cellsOf 57))=xs[3]?:=hg 3 _ rfl
  rw[(by kernel_rfl:Tryz.prog.cellsOf 57=1),List.getElem?_eq_getElem qn]at g3
  obtain ⟨z3,p3,r3,o3⟩:=Cs Tryz.underlying57 _ _ _ g3
  refine⟨⟨z0,z1,z2,z3⟩,⟨p0,p1,p2,p3⟩,E,fun c hc=>?_,?_⟩
  ·simp only[List.mem_cons,List.not_mem_nil,or_false]at hc
   rcases hc with rfl | rfl | rfl | rfl<;>assumption
  ·simp only[Bk,cellsOf,RdL]
   exact⟨_,_,E,r0,_,_,E,r1,_,_,E,r2,_,_,E,r3,E⟩
def Flood.In (x:Flood):Prop:=wI .i64 x.row∧wI .i64 x.dev∧wI .i64 x.vni∧((∀ z∈x.addrs,wI .u32 z)∧x.addrs.length≤maxLen)
theorem Ao4:OpN enc Tryz.prog W 72 B1 Flood.In 4:=fun n cs y h=>by
 obtain ⟨xs,m,_,_,hlen,hx,hg⟩:=DataW.trod_struct Tryz.underlying72 h
 have hlen:cs.length=4:=hlen.trans (by kernel_rfl:Tryz.prog.cellsOf 72=4)
 have hx:xs.length=4:=hx
 match cs,hlen with
 | [c0,c1,c2,c3],_ =>
  have g0:DataW.trod enc Tryz.prog W 0 (fun _=>true) true m 3 (([c0,c1,c2,c3].drop 0).take (Tryz.prog.cellsOf 3))=xs[0]?:=hg 0 _ rfl
  rw[(by kernel_rfl:Tryz.prog.cellsOf 3=1),List.getElem?_eq_getElem qn]at g0
  obtain ⟨z0,p0,r0,o0⟩:=Cs Tryz.underlying3 _ _ _ g0
  have g1:DataW.trod enc Tryz.prog W 0 (fun _=>true) true m 3 (([c0,c1,c2,c3].drop 1).take (Tryz.prog.cellsOf 3))=xs[1]?:=hg 1 _ rfl
  rw[(by kernel_rfl:Tryz.prog.cellsOf 3=1),List.getElem?_eq_getElem qn]at g1
  obtain ⟨z1,p1,r1,o1⟩:=Cs Tryz.underlying3 _ _ _ g1
  have g2:DataW.trod enc Tryz.prog W 0 (fun _=>true) true m 3 (([c0,c1,c2,c3].drop 2).take (Tryz.prog.cellsOf 3))=xs[2]?:=hg 2 _ rfl
  rw[(by kernel_rfl:Tryz.prog.cellsOf 3=1),List.getElem?_eq_getElem qn]at g2
  obtain ⟨z2,p2,r2,o2⟩:=Cs Tryz.underlying3 _ _ _ g2
  have g3:DataW.trod enc Tryz.prog W 0 (fun _=>true) true m 70 (([c0,c1,c2,c3].drop 3).take (Tryz.prog.cellsOf 70))=xs[3]?:=hg 3 _ rfl
  rw[(by kernel_rfl:Tryz.prog.cellsOf 70=1),List.getElem?_eq_getElem qn]at g3
  obtain ⟨z3,p3,r3,o3⟩:=At2 _ _ _ g3
  refine⟨⟨z0,z1,z2,z3⟩,⟨p0,p1,p2,p3⟩,E,fun c hc=>?_,?_⟩
  ·simp only[List.mem_cons,List.not_mem_nil,or_false]at hc
   rcases hc with rfl | rfl | rfl | rfl<;>assumption
  ·simp only[B1,cellsOf,RdL]
   exact⟨_,_,E,r0,_,_,E,r1,_,_,E,r2,_,_,E,r3,E⟩
def Vrf.In (x:Vrf):Prop:=wI .i64 x.row∧wI .i64 x.dev∧x.name.size≤maxLen∧((∀ z∈x.imports,wI .i64 z)∧x.imports.length≤maxLen)∧((∀ z∈x.exports,wI .i64 z)∧x.exports.length≤maxLen)
theorem At4:OpN enc Tryz.prog W 74 C3 Vrf.In 5:=fun n cs y h=>by
 obtain ⟨xs,m,_,_,hlen,hx,hg⟩:=DataW.trod_struct Tryz.underlying74 h
 have hlen:cs.length=5:=hlen.trans (by kernel_rfl:Tryz.prog.cellsOf 74=5)
 have hx:xs.length=5:=hx
 match cs,hlen with
 | [c0,c1,c2,c3,c4],_ =>
  have g0:DataW.trod enc Tryz.prog W 0 (fun _=>true) true m 3 (([c0,c1,c2,c3,c4].drop 0).take (Tryz.prog.cellsOf 3))=xs[0]?:=hg 0 _ rfl
  rw[(by kernel_rfl:Tryz.prog.cellsOf 3=1),List.getElem?_eq_getElem qn]at g0
  obtain ⟨z0,p0,r0,o0⟩:=Cs Tryz.underlying3 _ _ _ g0
  have g1:DataW.trod enc Tryz.prog W 0 (fun _=>true) true m 3 (([c0,c1,c2,c3,c4].drop 1).take (Tryz.prog.cellsOf 3))=xs[1]?:=hg 1 _ rfl
  rw[(by kernel_rfl:Tryz.prog.cellsOf 3=1),List.getElem?_eq_getElem qn]at g1
  obtain ⟨z1,p1,r1,o1⟩:=Cs Tryz.underlying3 _ _ _ g1
  have g2:DataW.trod enc Tryz.prog W 0 (fun _=>true) true m 9 (([c0,c1,c2,c3,c4].drop 2).take (Tryz.prog.cellsOf 9))=xs[2]?:=hg 2 _ rfl
  rw[(by kernel_rfl:Tryz.prog.cellsOf 9=1),List.getElem?_eq_getElem qn]at g2
  obtain ⟨z2,p2,r2,o2⟩:=Akv Tryz.underlying9 _ _ _ g2
  have g3:DataW.trod enc Tryz.prog W 0 (fun _=>true) true m 56 (([c0,c1,c2,c3,c4].drop 3).take (Tryz.prog.cellsOf 56))=xs[3]?:=hg 3 _ rfl
  rw[(by kernel_rfl:Tryz.prog.cellsOf 56=1),List.getElem?_eq_getElem qn]at g3
  obtain ⟨z3,p3,r3,o3⟩:=Zi _ _ _ g3
  have g4:DataW.trod enc Tryz.prog W 0 (fun _=>true) true m 56 (([c0,c1,c2,c3,c4].drop 4).take (Tryz.prog.cellsOf 56))=xs[4]?:=hg 4 _ rfl
  rw[(by kernel_rfl:Tryz.prog.cellsOf 56=1),List.getElem?_eq_getElem qn]at g4
  obtain ⟨z4,p4,r4,o4⟩:=Zi _ _ _ g4
  refine⟨⟨z0,z1,z2,z3,z4⟩,⟨p0,p1,p2,p3,p4⟩,E,fun c hc=>?_,?_⟩
  ·simp only[List.mem_cons,List.not_mem_nil,or_false]at hc
   rcases hc with rfl | rfl | rfl | rfl | rfl<;>assumption
  ·simp only[C3,cellsOf,RdL]
   exact⟨_,_,E,r0,_,_,E,r1,_,_,E,r2,_,_,E,r3,_,_,E,r4,E⟩
def Irb.In (x:Irb):Prop:=wI .i64 x.row∧wI .i64 x.domain∧wI .i64 x.vrf∧wI .u32 x.addr∧wI .i64 x.bits
theorem At6:OpN enc Tryz.prog W 119 Cr Irb.In 5:=fun n cs y h=>by
 obtain ⟨xs,m,_,_,hlen,hx,hg⟩:=DataW.trod_struct Tryz.underlying119 h
 have hlen:cs.length=5:=hlen.trans (by kernel_rfl:Tryz.prog.cellsOf 119=5)
 have hx:xs.length=4:=hx
 match cs,hlen with
 | [c0,c1,c2,c3,c4],_ =>
  have g0:DataW.trod enc Tryz.prog W 0 (fun _=>true) true m 3 (([c0,c1,c2,c3,c4].drop 0).take (Tryz.prog.cellsOf 3))=xs[0]?:=hg 0 _ rfl
  rw[(by kernel_rfl:Tryz.prog.cellsOf 3=1),List.getElem?_eq_getElem qn]at g0
  obtain ⟨z0,p0,r0,o0⟩:=Cs Tryz.underlying3 _ _ _ g0
  have g1:DataW.trod enc Tryz.prog W 0 (fun _=>true) true m 3 (([c0,c1,c2,c3,c4].drop 1).take (Tryz.prog.cellsOf 3))=xs[1]?:=hg 1 _ rfl
  rw[(by kernel_rfl:Tryz.prog.cellsOf 3=1),List.getElem?_eq_getElem qn]at g1
  obtain ⟨z1,p1,r1,o1⟩:=Cs Tryz.underlying3 _ _ _ g1
  have g2:DataW.trod enc Tryz.prog W 0 (fun _=>true) true m 3 (([c0,c1,c2,c3,c4].drop 2).take (Tryz.prog.cellsOf 3))=xs[2]?:=hg 2 _ rfl
  rw[(by kernel_rfl:Tryz.prog.cellsOf 3=1),List.getElem?_eq_getElem qn]at g2
  obtain ⟨z2,p2,r2,o2⟩:=Cs Tryz.underlying3 _ _ _ g2
  have g3:DataW.trod enc Tryz.prog W 0 (fun _=>true) true m 117 (([c0,c1,c2,c3,c4].drop 3).take (Tryz.prog.cellsOf 117))=xs[3]?:=hg 3 _ rfl
  rw[(by kernel_rfl:Tryz.prog.cellsOf 117=2),List.getElem?_eq_getElem qn]at g3
  obtain ⟨ys,m',_,_,_,hy,hg'⟩:=DataW.trod_struct Tryz.underlying117 g3
  have hy:ys.length=2:=hy
  have q0:DataW.trod enc Tryz.prog W 0 (fun _=>true) true m' 75 (([c3,c4].drop 0).take (Tryz.prog.cellsOf 75))=ys[0]?:=hg' 0 _ rfl
  have q1:DataW.trod enc Tryz.prog W 0 (fun _=>true) true m' 3 (([c3,c4].drop 1).take (Tryz.prog.cellsOf 3))=ys[1]?:=hg' 1 _ rfl
  rw[(by kernel_rfl:Tryz.prog.cellsOf 75=1),List.getElem?_eq_getElem qn]at q0
  rw[(by kernel_rfl:Tryz.prog.cellsOf 3=1),List.getElem?_eq_getElem qn]at q1
  obtain ⟨z3,p3,r3,o3⟩:=Cs Tryz.underlying75 _ _ _ q0
  obtain ⟨z4,p4,r4,o4⟩:=Cs Tryz.underlying3 _ _ _ q1
  refine⟨⟨z0,z1,z2,z3,z4⟩,⟨p0,p1,p2,p3,p4⟩,E,fun c hc=>?_,?_⟩
  ·simp only[List.mem_cons,List.not_mem_nil,or_false]at hc
   rcases hc with rfl | rfl | rfl | rfl | rfl<;>assumption
  ·simp only[Cr,cellsOf,RdL]
   exact⟨_,_,E,r0,_,_,E,r1,_,_,E,r2,_,_,E,r3,_,_,E,r4,E⟩
structure Net.In (n:Net):Prop where
 devices:(∀ x∈n.devices,Device.In x)∧n.devices.length≤maxLen
 ports:(∀ x∈n.ports,Port.In x)∧n.ports.length≤maxLen
 links:(∀ x∈n.links,Link.In x)∧n.links.length≤maxLen
 domains:(∀ x∈n.domains,Domain.In x)∧n.domains.length≤maxLen
 statics:(∀ x∈n.statics,Static.In x)∧n.statics.length≤maxLen
 floods:(∀ x∈n.floods,Flood.In x)∧n.floods.length≤maxLen
 vrfs:(∀ x∈n.vrfs,Vrf.In x)∧n.vrfs.length≤maxLen
 irbs:(∀ x∈n.irbs,Irb.In x)∧n.irbs.length≤maxLen
theorem At5:OpN enc Tryz.prog W 31 Aj Net.In 8:=fun n cs y h=>by
 obtain ⟨xs,m,_,_,hlen,hx,hg⟩:=DataW.trod_struct Tryz.underlying31 h
 have hlen:cs.length=8:=hlen.trans (by kernel_rfl:Tryz.prog.cellsOf 31=8)
 have hx:xs.length=8:=hx
 match cs,hlen with
 | [c0,c1,c2,c3,c4,c5,c6,c7],_ =>
  have g0:DataW.trod enc Tryz.prog W 0 (fun _=>true) true m 22 (([c0,c1,c2,c3,c4,c5,c6,c7].drop 0).take (Tryz.prog.cellsOf 22))=xs[0]?:=hg 0 _ rfl
  rw[(by kernel_rfl:Tryz.prog.cellsOf 22=1),List.getElem?_eq_getElem qn]at g0
  obtain ⟨z0,p0,r0,o0⟩:=Hs Tryz.underlying22 (by kernel_rfl:Tryz.prog.cellsOf 77=5) qy (fun _=>rfl) (fun _=>rfl) Aky _ _ _ g0
  have g1:DataW.trod enc Tryz.prog W 0 (fun _=>true) true m 23 (([c0,c1,c2,c3,c4,c5,c6,c7].drop 1).take (Tryz.prog.cellsOf 23))=xs[1]?:=hg 1 _ rfl
  rw[(by kernel_rfl:Tryz.prog.cellsOf 23=1),List.getElem?_eq_getElem qn]at g1
  obtain ⟨z1,p1,r1,o1⟩:=Hs Tryz.underlying23 (by kernel_rfl:Tryz.prog.cellsOf 67=7) qy (fun _=>rfl) (fun _=>rfl) Arn _ _ _ g1
  have g2:DataW.trod enc Tryz.prog W 0 (fun _=>true) true m 24 (([c0,c1,c2,c3,c4,c5,c6,c7].drop 2).take (Tryz.prog.cellsOf 24))=xs[2]?:=hg 2 _ rfl
  rw[(by kernel_rfl:Tryz.prog.cellsOf 24=1),List.getElem?_eq_getElem qn]at g2
  obtain ⟨z2,p2,r2,o2⟩:=Hs Tryz.underlying24 (by kernel_rfl:Tryz.prog.cellsOf 167=3) qy (fun _=>rfl) (fun _=>rfl) Aro _ _ _ g2
  have g3:DataW.trod enc Tryz.prog W 0 (fun _=>true) true m 25 (([c0,c1,c2,c3,c4,c5,c6,c7].drop 3).take (Tryz.prog.cellsOf 25))=xs[3]?:=hg 3 _ rfl
  rw[(by kernel_rfl:Tryz.prog.cellsOf 25=1),List.getElem?_eq_getElem qn]at g3
  obtain ⟨z3,p3,r3,o3⟩:=Hs Tryz.underlying25 (by kernel_rfl:Tryz.prog.cellsOf 69=6) qy (fun _=>rfl) (fun _=>rfl) Akx _ _ _ g3
  have g4:DataW.trod enc Tryz.prog W 0 (fun _=>true) true m 26 (([c0,c1,c2,c3,c4,c5,c6,c7].drop 4).take (Tryz.prog.cellsOf 26))=xs[4]?:=hg 4 _ rfl
  rw[(by kernel_rfl:Tryz.prog.cellsOf 26=1),List.getElem?_eq_getElem qn]at g4
  obtain ⟨z4,p4,r4,o4⟩:=Hs Tryz.underlying26 (by kernel_rfl:Tryz.prog.cellsOf 171=4) qy (fun _=>rfl) (fun _=>rfl) Akw _ _ _ g4
  have g5:DataW.trod enc Tryz.prog W 0 (fun _=>true) true m 27 (([c0,c1,c2,c3,c4,c5,c6,c7].drop 5).take (Tryz.prog.cellsOf 27))=xs[5]?:=hg 5 _ rfl
  rw[(by kernel_rfl:Tryz.prog.cellsOf 27=1),List.getElem?_eq_getElem qn]at g5
  obtain ⟨z5,p5,r5,o5⟩:=Hs Tryz.underlying27 (by kernel_rfl:Tryz.prog.cellsOf 72=4) qy (fun _=>rfl) (fun _=>rfl) Ao4 _ _ _ g5
  have g6:DataW.trod enc Tryz.prog W 0 (fun _=>true) true m 28 (([c0,c1,c2,c3,c4,c5,c6,c7].drop 6).take (Tryz.prog.cellsOf 28))=xs[6]?:=hg 6 _ rfl
  rw[(by kernel_rfl:Tryz.prog.cellsOf 28=1),List.getElem?_eq_getElem qn]at g6
  obtain ⟨z6,p6,r6,o6⟩:=Hs Tryz.underlying28 (by kernel_rfl:Tryz.prog.cellsOf 74=5) qy (fun _=>rfl) (fun _=>rfl) At4 _ _ _ g6
  have g7:DataW.trod enc Tryz.prog W 0 (fun _=>true) true m 29 (([c0,c1,c2,c3,c4,c5,c6,c7].drop 7).take (Tryz.prog.cellsOf 29))=xs[7]?:=hg 7 _ rfl
  rw[(by kernel_rfl:Tryz.prog.cellsOf 29=1),List.getElem?_eq_getElem qn]at g7
  obtain ⟨z7,p7,r7,o7⟩:=Hs Tryz.underlying29 (by kernel_rfl:Tryz.prog.cellsOf 119=5) qy (fun _=>rfl) (fun _=>rfl) At6 _ _ _ g7
  refine⟨⟨z0,z1,z2,z3,z4,z5,z6,z7⟩,⟨p0,p1,p2,p3,p4,p5,p6,p7⟩,E,fun c hc=>?_,?_⟩
  ·simp only[List.mem_cons,List.not_mem_nil,or_false]at hc
   rcases hc with rfl | rfl | rfl | rfl | rfl | rfl | rfl | rfl<;>assumption
  ·simp only[Aj,cellsOf,RdL]
   exact⟨_,_,E,r0,_,_,E,r1,_,_,E,r2,_,_,E,r3,_,_,E,r4,_,_,E,r5,_,_,E,r6,_,_,E,r7,E⟩
theorem Aow {t:TypeId} {fs:Array Field} {α:Type} {e:α→SV} {p:α→Prop} {sz base:Nat} {v:Value} {d:DataW H} {ps:List MemPlace} (ht:Tryz.prog.underlying t=some (.struct fs)) (hO:OpN enc Tryz.prog W t e p sz) (he:∀ x,e x=.agg (cellsOf (e x)))
  (hval:Value.okWide Tryz.prog W .any base t v) (h1:DataW.Trod enc Tryz.prog W 0 (fun _=>true) true t v d ps):∃ x,p x∧Rd κ0 W (e x) v:=by
 obtain ⟨cs,rfl,_⟩:=okWide_struct ht hval
 obtain ⟨fuel,hf⟩:=h1
 obtain ⟨x,h1,_,h2,h3⟩:=hO _ _ _ hf
 refine⟨x,h1,?_⟩
 rw[he x]
 simp only[Rd]
 exact⟨cs.toList,by simp,by simpa [Value.cells] using h2,by simpa [Value.cells] using h3⟩
theorem rd_net {base:Nat} {v:Value} {d:DataW H} {ps:List MemPlace} (hval:Value.okWide Tryz.prog W .any base 31 v) (h1:DataW.Trod enc Tryz.prog W 0 (fun _=>true) true 31 v d ps):∃ n:Net,n.In∧Rd κ0 W (Aj n) v :=
 Aow Tryz.underlying31 At5 (fun _=>rfl) hval h1
end
end Go.Sy.YteinjapglfkamaaGreat
namespace Go.Sy.YteinjapglfkamaaGreat
open Go.Proofs
attribute [local irreducible] Go.Sy.G Go.Sy.DR
set_option maxRecDepth 100000
set_option maxHeartbeats 8000000
def netW37:Net:=⟨[⟨0,0,⟨#[97]⟩,0,0⟩],[⟨0,0,10,1,-1,⟨#[112]⟩,[]⟩,⟨0,0,10,1,-1,⟨#[113]⟩,[]⟩,⟨0,0,20,1,-1,⟨#[114]⟩,[]⟩],[],[⟨0,10,0,-1,0,[]⟩,⟨0,20,0,-1,0,[]⟩],[],[],[],[]⟩
theorem Afo:netW37.Fin:=by
 constructor<;>first | (unfold Al;decide) | (intro x hx;unfold Al;simp only[netW37,List.mem_cons,List.not_mem_nil,or_false]at hx;first | (subst hx;decide) | (rcases hx with rfl | rfl<;>decide) | (rcases hx with rfl | rfl | rfl<;>decide) | exact hx.elim)
theorem Arp:netW37.Num:=by
 refine⟨fun x hx=>?_,fun x hx=>?_⟩
 ·simp only[netW37,List.mem_cons,List.not_mem_nil,or_false]at hx
  subst hx
  decide
 ·cases hx
theorem Ww:Dj netW37:=fun x hx=>by cases hx
def bytesW37:List UInt8:=Qb ⟨281474976710655,Vh,34997,[]⟩
theorem An4:wscriptT netW37 0 1=([⟨1,0,0,0,bytesW37,[]⟩,⟨2,0,0,0,[],[]⟩],0):=by kernel_rfl
theorem An3:wscriptT netW37 0 2=([],31):=by kernel_rfl
theorem wayW37:wayT netW37 0 1=([⟨0,0,0,0⟩],true):=by kernel_rfl
theorem wayB37:wayBytes netW37 []=([],2):=by kernel_rfl
theorem Asz:bytesW37.length=14:=by kernel_rfl
theorem Af5:Sy.Spec Tryz.prog 8 [] [] (Ab true) []:=cT F8 Tryz.ntmps8 fun F hF=>by
 have q1:=Ud netW37 Afo Arp Ww 0 1
 have q2:=Ud netW37 Afo Arp Ww 0 2
 have q3:=wayS netW37 Afo Ww 0 1
 have q4:=Ac1 netW37 Afo Ww [] (by unfold Al;decide) (fun h hh=>by cases hh)
 have hbl:=Asz
 rw[An4]at q1
 rw[An3]at q2
 rw[wayW37]at q3
 rw[wayB37]at q4
 generalize bytesW37=bs at *
 dsimp only at q1 q2 q3 q4
 conv=>whnf
 refine Ec 11 Bn netW37.devices E E ?_
 refine Ap 11 E ?_
 refine U8 15 (netW37.ports.map A7) E (.cons (.agg (.cons (.refl _) (.cons (.refl _) (.cons (.refl _) (.cons (.refl _) (.cons (.refl _) (.cons (.refl _) (.cons .nil .nil)))))))) (.cons (.agg (.cons (.refl _) (.cons (.refl _) (.cons (.refl _) (.cons (.refl _) (.cons (.refl _) (.cons (.refl _) (.cons .nil .nil)))))))) (.cons (.agg (.cons (.refl _) (.cons (.refl _) (.cons (.refl _) (.cons (.refl _) (.cons (.refl _) (.cons (.refl _) (.cons .nil .nil)))))))) .nil))) E ?_
 refine Ec 15 A7 netW37.ports E E ?_
 refine Ap 15 E ?_
 refine U8 18 (netW37.domains.map Au) E (.cons (.agg (.cons (.refl _) (.cons (.refl _) (.cons (.refl _) (.cons (.refl _) (.cons (.refl _) (.cons .nil .nil))))))) (.cons (.agg (.cons (.refl _) (.cons (.refl _) (.cons (.refl _) (.cons (.refl _) (.cons (.refl _) (.cons .nil .nil))))))) .nil)) E ?_
 refine Ec 18 Au netW37.domains E E ?_
 refine Ap 18 E ?_
 refine Ar 1 (Ao7 netW37) E (.cons (.refl _) (.cons (.refl _) (.cons .nil (.cons (.refl _) (.cons .nil (.cons .nil (.cons .nil (.cons .nil .nil)))))))) ?_
 refine Aqa 21 (Aj netW37) (.agg (.cons (.refl _) (.cons (.refl _) (.cons .nil (.cons (.refl _) (.cons .nil (.cons .nil (.cons .nil (.cons .nil .nil))))))))) ?_
 refine C q1 F16 ?_
 refine C q2 F16 ?_
 refine C q3 F9 ?_
 refine X (C7 [] [] E F14 q4 (.cons (.refl _) (.cons .nil .nil)) Y E Y E) ?_
 refine⟨Nat.zero_lt_two,?_⟩
 refine T ?_
 refine⟨Nat.zero_lt_two,?_⟩
 refine T ?_
 refine⟨Nat.one_lt_two,?_⟩
 refine T ?_
 exact D
end Go.Sy.YteinjapglfkamaaGreat
namespace Go.Sy.YteinjapglfkamaaGreat
open Go.Proofs
attribute [local irreducible] Go.Sy.G Go.Sy.DR
set_option maxRecDepth 20000
set_option maxHeartbeats 8000000
theorem Xr {n:Net} (hb:Ac n=true) (i:Int):Iz n i=(Ak i n.ports.length && (nth n.ports i).link == -1):=by
 rw[Iz,Ak]
 by_cases hi:0≤i∧i<n.ports.length
 ·rw[decide_eq_true hi.1,decide_eq_true hi.2,Bool.true_and]
  have hk:i.toNat<n.ports.length:=by omega
  rw[Ag hk]
  have:=X0 hb hk
  simp only[D8,Ak,Bool.and_eq_true,Bool.or_eq_true,beq_iff_eq,decide_eq_true_eq]at this
  have h2:=this.2
  by_cases hl:(n.ports[i.toNat]'hk).link=-1
  ·simp[hl]
  ·have:0≤(n.ports[i.toNat]'hk).link:=by omega
   rw[decide_eq_false qn];simp[hl]
 ·have h1:(decide (0≤i) && decide (i<(n.ports.length:Int)))=false:=by simp only[Bool.and_eq_false_iff,decide_eq_false_iff_not];omega
  rw[h1,Bool.false_and];simp
def hostD (n:Net) (i:Int):Bool:=Ak i n.ports.length && (nth n.ports i).link == -1
theorem Xa (n:Net) (i:Int):Sy.Spec Tryz.prog 33 [Aj n,Aa i] [] (Ab (hostD n i)) []:=cT F33 Tryz.ntmps33 fun F hF=>by
 have hp:=A1 i n.ports.length
 have hlk:=hostD.eq_1 n i
 generalize hostD n i=res at *
 conv=>whnf
 refine A0 2 8 (Aj n) E E E ?_
 refine oO ?_
 refine c0 hp F46 ?_
 by_cases hi:0≤i∧i<n.ports.length
 ·rw[Ck hi,Bool.true_and]at hlk
  rw[Ck hi]
  have hk:i.toNat<n.ports.length:=by omega
  rw[Ag hk]at hlk
  refine oT ?_
  refine⟨E,hi.1,hk,?_⟩
  conv=>whnf
  exact Ao E (.cons .tmp .nil) (congrArg Ab hlk) E
 ·rw[Iv hi,Bool.false_and]at hlk
  subst hlk
  rw[Iv hi]
  refine oF ?_
  exact dN
theorem Ada (n:Net) (hb:Ac n=true) (i:Int):Sy.Spec Tryz.prog 33 [Aj n,Aa i] [] (Ab (Iz n i)) []:=by
 rw[Xr hb]
 exact Xa n i
structure WayD where
 (hops:List Hop) (routed:Bool)
abbrev C8 (w:WayD):SV:=.agg [.sl 4 Bp w.hops,Ab w.routed]
instance:Inhabited WayD:=⟨⟨[],false⟩⟩
def WayD.end_ (w:WayD):Int:=(nth w.hops ((w.hops.length:Int)-1)).domain
theorem Aee (w:WayD) (h0:w.hops≠[]) (hl:w.hops.length<4294967296):Sy.Spec Tryz.prog 38 [C8 w] [] (Aa w.end_) []:=cT F38 Tryz.ntmps38 fun F hF=>by
 have hp:0<w.hops.length:=List.length_pos_iff.2 h0
 have hk:((w.hops.length:Int)-1).toNat<w.hops.length:=by omega
 have hlk:w.end_=(w.hops[((w.hops.length:Int)-1).toNat]'hk).domain:=by rw[WayD.end_,Ag hk]
 rw[hlk]
 conv=>whnf
 refine iW ?_
 refine⟨E,by omega,hk,?_⟩
 conv=>whnf
 exact dN
def Ya (d:Int) (r:Bool) (w:WayD):Bool:=w.end_ == d && w.routed == r
def metW (l:List WayD) (d:Int) (r:Bool):Bool:=l.any (Ya d r)
def Amg (l:List WayD):Prop:=∀ w∈l,w.hops≠[]∧w.hops.length<1000000
theorem metS (l:List WayD) (d:Int) (r:Bool) (hw:Amg l) (hl:l.length<4294967296):Sy.Spec Tryz.prog 100 [.sl 2 C8 l,Aa d,Ab r] [] (Ab (metW l d r)) []:=cT F100 Tryz.ntmps100 fun F hF=>by
 have hlk:=metW.eq_1 l d r
 generalize metW l d r=res at *
 conv=>whnf
 refine Av l.length (fun j=>∀ i (h:i<l.length),i<j→Ya d r l[i]=false) (fun j=>[(0,.sl 2 C8 l),(1,Aa d),(2,Ab r),(7,Aa j)]) (fun _=>[]) [] (fun i h hi=>absurd hi qn) ⟨⟨E,E,E,E,E,E,E,E,Y⟩,Y,E,E⟩ ?_
 intro j hj hI
 refine oO ?_
 refine⟨fun h=>?_,fun h=>?_⟩
 ·have hlt:j<l.length:=by simpa using h
  have hj0:((j:Nat):Int).toNat<l.length:=by simpa using hlt
  obtain ⟨w,hwj⟩:∃ w,l[((j:Nat):Int).toNat]'hj0=w:=⟨_,rfl⟩
  have hwj':l[j]=w:=hwj
  have hww:=hw w (by rw[← hwj'];exact List.getElem_mem hlt)
  have q:=Aee w hww.1 qn
  have hyes:Ya d r w=true→res=true:=fun hs=>by rw[hlk];exact List.any_eq_true.2 ⟨w,by rw[← hwj'];exact List.getElem_mem hlt,hs⟩
  have hnx:Ya d r w=false→∀ i (h:i<l.length),i<j+1→Ya d r l[i]=false:=fun hz i h hi=>by
   rcases Nat.lt_or_ge i j with h1 | h1
   ·exact hI i h h1
   ·have:i=j:=by omega
    subst this;rw[hwj'];exact hz
  rw[Ya]at hyes hnx
  refine oO ?_
  refine⟨E,by omega,hj0,?_⟩
  rw[hwj]
  conv=>whnf
  refine c0 q F38 ?_
  generalize w.end_=en at *
  refine oO ?_
  refine⟨fun h1=>?_,fun h1=>?_⟩
  ·rw[show (en == d)=true from h1,Bool.true_and]at hyes hnx
   refine oO ?_
   refine⟨E,by omega,hj0,?_⟩
   rw[hwj]
   conv=>whnf
   refine⟨fun h2=>?_,fun h2=>?_⟩
   ·rw[hyes (by simpa using h2)]
    refine oO ?_
    exact dN
   ·refine oO ?_
    refine iW ?_
    exact As [] hI qn (hnx (by simpa using h2)) ⟨⟨E,E,E,E,E,E,E,E,Y⟩,Y,E,E⟩
  ·rw[show (en == d)=false from h1,Bool.false_and]at hyes hnx
   refine oF ?_
   refine iW ?_
   exact As [] hI qn (hnx E) ⟨⟨E,E,E,E,E,E,E,E,Y⟩,Y,E,E⟩
 ·have hje:j=l.length:=qB h
  subst hje
  rw[show res=false from by
   rw[hlk,List.any_eq_false]
   intro w hw
   obtain ⟨i,hi,rfl⟩:=List.getElem_of_mem hw
   rw[hI i hi hi];simp]
  refine oO ?_
  exact dN
def moreT (l:List WayD) (w:WayD) (h:Hop) (r:Bool):List WayD:=if metW l h.domain r=true then l else l++[⟨w.hops++[h],r⟩]
theorem Au8 (l:List WayD) (w:WayD) (h:Hop) (r:Bool) (hw:Amg l) (hl:l.length<1000000) (hwl:w.hops.length<1000000) :
  Sy.Spec Tryz.prog 34 [.osl 0,C8 w,Bp h,Ab r] [(0,.row 2 C8 l)] (.osl 1) [(0,.non),(1,.row 2 C8 (moreT l w h r))]:=cT F34 Tryz.ntmps34 fun F hF=>by
 have q:=metS l h.domain r hw qn
 have hlk:=moreT.eq_1 l w h r
 generalize moreT l w h r=res at *
 generalize metW l h.domain r=mt at *
 conv=>whnf
 refine Ad6 [0] q F100 E (.cons (.row E E) (.cons (.refl _) (.cons (.refl _) .nil))) E E E ?_
 cases mt
 rotate_left
 ·rw[if_pos rfl]at hlk
  subst hlk
  refine oT ?_
  refine Sq 0 1000 E E qy ?_
  refine oO ?_
  exact done E (.cons .tmp .nil) [(1,1000)] [(0,.non),(1,.row 2 C8 res)] (fun _ h=>h) E E ⟨Y,⟨.inl E,E,.inl E,E,Y⟩,E,E⟩
 rw[if_neg qz]at hlk
 subst hlk
 refine oF ?_
 refine Bb (Ad Γ.toTy 19 E E E E E (.lit (e:=Bp) (l:=[]) E E) .sl qz (by simp;omega) (by simp;omega)) qq E ?_
 refine oD ?_
 refine Bb (Good.dataT (Ad Γ.toTy 22 E E E E E (.row E) (.lit (e:=Bp) (l:=[h]) E E) qz (by simp;omega) (by simp;omega))) qq E ?_
 refine oD ?_
 refine Bb (Ad Γ.toTy 26 E E E E E (.row E) (.lit (e:=C8) (l:=[⟨w.hops++[h],r⟩]) E E) qz (by simp;omega) (by simp;omega)) qq E ?_
 refine oD ?_
 refine kW ?_
 exact done E (.cons .tmp .nil) [(1,26)] [(0,.non),(1,.row 2 C8 (l++[⟨w.hops++[h],r⟩]))] (fun _ h=>h) E E ⟨Y,⟨.inl E,E,.inl E,E,Y⟩,E,E⟩
end Go.Sy.YteinjapglfkamaaGreat
namespace Go.Sy.YteinjapglfkamaaGreat
open Go.Proofs
def Tm (l:List Fnd) (i:Nat):WayD:=⟨backT l i,decide ((nth l i).kind=1)⟩
def Cb (l:List Fnd):List WayD:=(List.range l.length).map (Tm l)
theorem Ho (l:List Fnd):(Cb l).length=l.length:=by simp[Cb]
theorem M7 (l:List Fnd) (i:Nat) (h:i<(Cb l).length):(Cb l)[i]=Tm l i:=by simp[Cb]
theorem Aa3 {α:Type} [Inhabited α] {l m:List α} {i:Int} (h:i.toNat<l.length):nth (l++m) i=nth l i:=by
 rw[nth,nth,List.getElem?_append_left h]
theorem Wv {l m:List Fnd} (hB:Backs l):∀ (k:Nat) (i:Int),i<k→i<l.length→backC (l++m) i=backC l i:=by
 intro k
 induction k with
 | zero =>
  intro i hi hl
  rw[backC,dif_neg (fun h=>by omega),backC,dif_neg (fun h=>by omega)]
 | succ k ih =>
  intro i hi hl
  by_cases h0:0≤i
  ·have hk:i.toNat<l.length:=by omega
   have hb:=hB i.toNat hk
   rw[backC,Aa3 hk,backC.eq_1 l i,Ag hk,dif_pos ⟨h0,by omega⟩,dif_pos ⟨h0,by omega⟩]
   rw[ih _ qn qn]
  ·rw[backC,dif_neg (fun h=>h0 h.1),backC,dif_neg (fun h=>h0 h.1)]
theorem Wu {l m:List Fnd} (hB:Backs l) {i:Int} (h:i<l.length):backT (l++m) i=backT l i:=by
 rw[backT,backT,Wv hB (i+1).toNat i qn h]
theorem Amb {l:List Fnd} (hB:Backs l) {f:Fnd} (hf:-1≤f.ahead∧f.ahead<l.length):backT (l++[f]) l.length=backT l f.ahead++[f.hop]:=by
 have e:nth (l++[f]) (l.length:Int)=f:=by
  rw[Ag (l:=l++[f]) (i:=(l.length:Int)) qz]
  simp
 rw[backT,backC,e,dif_pos ⟨by omega,by omega⟩,List.reverse_cons,Wv hB (f.ahead+1).toNat _ qn qn]
 rfl
theorem Ama (l:List Fnd):backT l (-1)=[]:=by
 rw[backT,backC,dif_neg (fun h=>by omega)];rfl
theorem Arq (u:List Hop) (x:Hop):nth (u++[x]) (((u++[x]).length:Int)-1)=x:=by
 have e:(((u++[x]).length:Int)-1).toNat=u.length:=by simp
 rw[nth,e,List.getElem?_append_right (Nat.le_refl _)]
 simp
theorem Afr {l:List Fnd} (hB:Backs l) (hD:∀ f∈l,f.hop.domain=f.domain) {i:Nat} (hi:i<l.length):(Tm l i).end_=(nth l i).domain:=by
 have hk:((i:Nat):Int).toNat<l.length:=by simpa using hi
 have hb:=hB ((i:Nat):Int).toNat hk
 have hd:=hD _ (List.getElem_mem hk)
 have e:backT l i=(backC l (nth l i).ahead).reverse++[(nth l i).hop]:=by
  rw[backT,backC,dif_pos ⟨by omega,by rw[Ag hk];omega⟩,List.reverse_cons]
 rw[WayD.end_,Tm]
 dsimp only
 rw[e]
 have e2:nth ((backC l (nth l i).ahead).reverse++[(nth l i).hop]) ((((backC l (nth l i).ahead).reverse++[(nth l i).hop]).length:Int)-1)=(nth l i).hop:=by
  exact Arq _ _
 rw[e2,Ag hk,hd]
structure Met (n:Net) (S:Srch):Prop where
 ok:S.OK n
 bk:Backs S.list
 dom:∀ f∈S.list,f.hop.domain=f.domain
 m:∀ d:Int,0≤d∧d.toNat<n.domains.length→∀ k:Int,(k=0∨k=1)→(Mm S d k=true↔∃ f∈S.list,f.domain=d∧f.kind=k)
theorem Ahs {l:List Bool} {a b:Nat} (hb:b<l.length):(l.set a true)[b]? = if a=b then some true else l[b]?:=by
 rw[List.getElem?_set]
 split
 ·rename_i h;subst h;simp[hb]
 ·rfl
theorem Ak2 {n:Net} {S:Srch} (hS:S.OK n) {d k:Int} (hd:0≤d∧d.toNat<n.domains.length) (hk:k=0∨k=1) (h:Hop) (a:Int) (d2 k2:Int) (hd2:0≤d2∧d2.toNat<n.domains.length) (hk2:k2=0∨k2=1) :
  Mm (K9 S d k h a) d2 k2=true↔Mm S d2 k2=true∨(d2=d∧k2=k):=by
 have h0:d2.toNat<S.m0.length:=by rw[hS.l0];exact hd2.2
 have h1:d2.toNat<S.m1.length:=by rw[hS.l1];exact hd2.2
 have e:(d.toNat=d2.toNat)↔d2=d:=by omega
 rcases hk with rfl | rfl<;>rcases hk2 with rfl | rfl
 ·rw[K9,if_pos rfl,Mm,if_pos rfl,Mm,if_pos rfl,nth,nth,Ahs h0]
  by_cases h:d2=d
  ·rw[if_pos (e.2 h)];simp[h]
  ·rw[if_neg (fun x=>h (e.1 x))];simp[h]
 ·rw[K9,if_pos rfl,Mm,if_neg qy,Mm,if_neg qy]
  simp
 ·rw[K9,if_neg qy,Mm,if_pos rfl,Mm,if_pos rfl]
  simp
 ·rw[K9,if_neg qy,Mm,if_neg qy,Mm,if_neg qy,nth,nth,Ahs h1]
  by_cases h:d2=d
  ·rw[if_pos (e.2 h)];simp[h]
  ·rw[if_neg (fun x=>h (e.1 x))];simp[h]
theorem On (S:Srch) (d k:Int) (h:Hop) (a:Int):(K9 S d k h a).list=S.list++[⟨d,k,h,a⟩]:=by
 rw[K9];split<;>rfl
theorem Met.meet {n:Net} {S:Srch} (hS:Met n S) {d k:Int} (hd:0≤d∧d.toNat<n.domains.length) (hk:k=0∨k=1) {h:Hop} (hh:h.domain=d) {a:Int} (ha:-1≤a∧a<S.list.length):Met n (meetT S d k h a) where
 ok:=hS.ok.meet hd hk h a
 bk:=(hS.bk.meet d k h ha).1
 dom:=by
  rw[meetT]
  split
  ·exact hS.dom
  ·rw[On]
   intro f hf
   rcases List.mem_append.1 hf with h1 | h1
   ·exact hS.dom f h1
   ·rw[List.mem_singleton.1 h1];exact hh
 m:=by
  rw[meetT]
  split
  ·exact hS.m
  ·intro d2 hd2 k2 hk2
   rw[Ak2 hS.ok hd hk h a d2 k2 hd2 hk2,hS.m d2 hd2 k2 hk2,On]
   constructor
   ·rintro (⟨f,hf,h1⟩ | ⟨rfl,rfl⟩)
    ·exact⟨f,List.mem_append_left _ hf,h1⟩
    ·exact⟨_,List.mem_append_right _ (List.mem_singleton.2 E),E,E⟩
   ·rintro ⟨f,hf,h1,h2⟩
    rcases List.mem_append.1 hf with h3 | h3
    ·exact .inl ⟨f,h3,h1,h2⟩
    ·rw[List.mem_singleton.1 h3]at h1 h2
     exact .inr ⟨h1.symm,h2.symm⟩
theorem Aub {n:Net} {S:Srch} (hS:Met n S) {d:Int} (hd:0≤d∧d.toNat<n.domains.length) (r:Bool):metW (Cb S.list) d r=Mm S d (if r then 1 else 0):=by
 rw[Bool.eq_iff_iff,hS.m d hd _ (by cases r<;>simp),metW,List.any_eq_true]
 constructor
 ·rintro ⟨w,hw,hs⟩
  obtain ⟨i,hi,rfl⟩:=List.getElem_of_mem hw
  rw[M7]at hs
  rw[Ho]at hi
  have hk:((i:Nat):Int).toNat<S.list.length:=by simpa using hi
  rw[Ya,Afr hS.bk hS.dom hi,Tm,Ag hk,Bool.and_eq_true]at hs
  have ha:=(hS.ok.at_ _ (List.getElem_mem hk)).2
  refine⟨_,List.getElem_mem hk,by simpa using hs.1,?_⟩
  have h2:decide ((S.list[((i:Nat):Int).toNat]'hk).kind=1)=r:=by simpa using hs.2
  cases r
  ·have:=of_decide_eq_false h2
   simp only[Bool.false_eq_true,if_false]
   omega
  ·exact of_decide_eq_true h2
 ·rintro ⟨f,hf,h1,h2⟩
  obtain ⟨i,hi,rfl⟩:=List.getElem_of_mem hf
  have hk:((i:Nat):Int).toNat<S.list.length:=by simpa using hi
  refine⟨Tm S.list i,List.mem_map.2 ⟨i,List.mem_range.2 hi,E⟩,?_⟩
  have e:S.list[((i:Nat):Int).toNat]'hk=S.list[i]:=rfl
  rw[Ya,Afr hS.bk hS.dom hi,Tm,Ag hk,e,h1,h2]
  cases r<;>simp
theorem Af6 {l:List Fnd} (hB:Backs l) {f:Fnd} (hf:-1≤f.ahead∧f.ahead<l.length):Cb (l++[f])=Cb l++[⟨backT l f.ahead++[f.hop],decide (f.kind=1)⟩]:=by
 have e:nth (l++[f]) (l.length:Int)=f:=by
  rw[Ag (l:=l++[f]) (i:=(l.length:Int)) qz]
  simp
 rw[Cb,List.length_append,List.length_singleton,List.range_succ,List.map_append]
 congr 1
 ·rw[Cb]
  apply List.map_congr_left
  intro i hi
  have hi:=List.mem_range.1 hi
  rw[Tm,Tm,Wu hB qn,Aa3 (by simpa using hi)]
 ·simp only[List.map_cons,List.map_nil]
  rw[Tm,Amb hB hf,e]
theorem Amx {n:Net} {S:Srch} (hS:Met n S) {w:WayD} {h:Hop} {r:Bool} {a:Int} (hd:0≤h.domain∧h.domain.toNat<n.domains.length) (ha:-1≤a∧a<S.list.length) (hw:w.hops=backT S.list a) :
  moreT (Cb S.list) w h r=Cb (meetT S h.domain (if r then 1 else 0) h a).list:=by
 rw[moreT,Aub hS hd r,meetT]
 by_cases hm2:Mm S h.domain (if r=true then 1 else 0)=true
 ·rw[if_pos hm2,if_pos hm2]
 ·rw[if_neg hm2,if_neg hm2,On,Af6 hS.bk ha,hw]
  congr 3
  cases r<;>rfl
theorem Sv {n:Net} {S:Srch} (hS:Met n S) (hD:n.domains.length<100000):Amg (Cb S.list)∧(Cb S.list).length<1000000∧∀ i:Nat,i<S.list.length→(backT S.list i).length<1000000:=by
 have hle:=hS.ok.le
 have hf:=fun i (hi:i<S.list.length)=>J2 hS.bk (P:=fun _=>True) (fun _ _=>trivial) hi
 refine⟨fun w hw=>?_,by rw[Ho];omega,fun i hi=>?_⟩
 ·obtain ⟨i,hi,rfl⟩:=List.getElem_of_mem hw
  rw[M7]
  rw[Ho]at hi
  have:=hf i hi
  exact⟨this.2.2,by show (backT S.list i).length<_;omega⟩
 ·have:=hf i hi
  omega
end Go.Sy.YteinjapglfkamaaGreat
namespace Go.Sy.YteinjapglfkamaaGreat
open Go.Proofs
attribute [local irreducible] Go.Sy.G Go.Sy.DR
set_option maxRecDepth 20000
set_option maxHeartbeats 8000000
theorem Adg (S:Srch) (d k:Int) (h:Hop) (a:Int):∃ m,(meetT S d k h a).list=S.list++m:=by
 rw[meetT]
 split
 ·exact⟨[],by simp⟩
 ·exact⟨_,On S d k h a⟩
theorem Met.ext1 {n:Net} {k i:Int} (hk:k=0∨k=1):∀ {l:List Hop} {S:Srch},Met n S→(-1≤i∧i<S.list.length)→(∀ h∈l,0≤h.domain∧h.domain.toNat<n.domains.length)→Met n (ext1 S k i l)∧∃ m,(ext1 S k i l).list=S.list++m
 | [],S,h,_,_=>⟨h,[],by simp[Sy.YteinjapglfkamaaGreat.ext1]⟩
 | x::l,S,h,hi,hl=>by
  have h1:=h.meet (hl x qz) hk (h:=x) rfl hi
  obtain ⟨m,hm2⟩:=Adg S x.domain k x i
  obtain ⟨h3,m2,h4⟩:=Met.ext1 hk (l:=l) h1 ⟨hi.1,by rw[hm2,List.length_append];omega⟩ (fun y hy=>hl y (by simp[hy]))
  exact⟨h3,m++m2,by rw[← List.append_assoc,← hm2];exact h4⟩
theorem Met.ext2 {n:Net} {i:Int}:∀ {l:List Lead} {S:Srch},Met n S→(-1≤i∧i<S.list.length)→(∀ h∈l,0≤h.domain∧h.domain.toNat<n.domains.length)→Met n (ext2 S i l)∧∃ m,(ext2 S i l).list=S.list++m
 | [],S,h,_,_=>⟨h,[],by simp[Sy.YteinjapglfkamaaGreat.ext2]⟩
 | x::l,S,h,hi,hl=>by
  have h1:=h.meet (hl x qz) (.inr rfl) (h:=⟨3,0,x.domain,x.addr⟩) rfl hi
  obtain ⟨m,hm2⟩:=Adg S x.domain 1 ⟨3,0,x.domain,x.addr⟩ i
  obtain ⟨h3,m2,h4⟩:=Met.ext2 (l:=l) h1 ⟨hi.1,by rw[hm2,List.length_append];omega⟩ (fun y hy=>hl y (by simp[hy]))
  exact⟨h3,m++m2,by rw[← List.append_assoc,← hm2];exact h4⟩
theorem met0 (n:Net):Met n (J7 n) where
 ok:=Agl n
 bk:=fun i h=>by simp[J7]at h
 dom:=fun f h=>by simp[J7]at h
 m:=fun d hd k hk=>by
  have e:Mm (J7 n) d k=false:=by
   rw[Mm,J7]
   split<;>simp[nth,hd.2]
  rw[e]
  simp[J7]
theorem Ao9 {n:Net} {dev:Int}:∀ {l:List Int},(∀ v∈l,v≠0→0≤B6 n dev v∧(B6 n dev v).toNat<n.domains.length)→Met n (Er n dev l):=by
 intro l
 induction l using Amq with
 | h0=>intro _;exact met0 n
 | h1 l v ih =>
  intro hl
  have h:=ih (fun x hx=>hl x (List.mem_append_left _ hx))
  rw[Er,List.foldl_append]
  show Met n (Ic n dev (Er n dev l) v)
  rw[Ic]
  split
  ·exact h
  ·rename_i hv
   exact h.meet (hl v qz hv) (.inl E) E ⟨by omega,by omega⟩
theorem Afs {n:Net} (hb:Ac n=true) {i:Nat} (hi:i<n.ports.length) {v:Int} (hv:v∈n.ports[i].tagged):v≠0:=by
 have:=X0 hb hi
 simp only[D8,Bool.and_eq_true,Bool.or_eq_true,decide_eq_true_eq]at this
 rcases this.1.1.1.1.1.2 with h | h
 ·rw[List.length_eq_zero_iff.1 h]at hv;cases hv
 ·obtain ⟨j,hj,rfl⟩:=List.getElem_of_mem hv
  simp only[Ds,Bool.and_eq_true]at h
  have:=allB_iff.1 h.2 j hj
  simp only[Ln,Bool.and_eq_true,decide_eq_true_eq]at this
  omega
end Go.Sy.YteinjapglfkamaaGreat
namespace Go.Sy.YteinjapglfkamaaGreat
open Go.Proofs
attribute [local irreducible] Go.Sy.G Go.Sy.DR
set_option maxRecDepth 20000
set_option maxHeartbeats 16000000
theorem Uo {n:Net} {S:Srch} (hS:Met n S) (hD:n.domains.length<100000) (hb:Ac n=true) {dev v:Int} (hv:v≠0) (hd:0≤B6 n dev v∧(B6 n dev v).toNat<n.domains.length) :
  Sy.Spec Tryz.prog 34 [.osl 0,C8 ⟨[],false⟩,Bp ⟨0,0,Ox n dev v,0⟩,Ab false] [(0,.row 2 C8 (Cb S.list))] (.osl 1) [(0,.non),(1,.row 2 C8 (Cb (Ic n dev S v).list))]:=by
 have ho:=Sv hS hD
 have e:B6 n dev v=Ox n dev v:=by rw[B6,if_pos hb]
 rw[e]at hd
 have q:=Au8 (Cb S.list) ⟨[],false⟩ ⟨0,0,Ox n dev v,0⟩ false ho.1 ho.2.1 qz
 rw[Amx hS (w:=⟨[],false⟩) (h:=⟨0,0,Ox n dev v,0⟩) (r:=false) (a:=-1) hd ⟨by omega,by omega⟩ (Ama _).symm]at q
 rw[Ic,if_neg hv,e]
 exact q
theorem Vy {n:Net} {S:Srch} (hS:Met n S) (hD:n.domains.length<100000) {l:List Fnd} {m:List Fnd} (hl:S.list=l++m) (hB:Backs l) {i:Nat} (hi:i<l.length) (h:Hop) (r:Bool) (rt:Bool) (hd:0≤h.domain∧h.domain.toNat<n.domains.length) :
  Sy.Spec Tryz.prog 34 [.osl 0,C8 ⟨backT l i,rt⟩,Bp h,Ab r] [(0,.row 2 C8 (Cb S.list))] (.osl 1) [(0,.non),(1,.row 2 C8 (Cb (meetT S h.domain (if r then 1 else 0) h i).list))]:=by
 have ho:=Sv hS hD
 have hlen:l.length≤S.list.length:=by rw[hl,List.length_append];omega
 have hbk:backT S.list i=backT l i:=by rw[hl];exact Wu hB qn
 have hb2:=ho.2.2 i qn
 rw[hbk]at hb2
 have q:=Au8 (Cb S.list) ⟨backT l i,rt⟩ h r ho.1 ho.2.1 hb2
 rw[Amx hS (w:=⟨backT l i,rt⟩) (h:=h) (r:=r) (a:=i) hd ⟨by omega,by omega⟩ hbk.symm]at q
 exact q
theorem Att (n:Net) (hn:n.Fin) (hu:Dj n) (hb:Ac n=true) (from_ to:Int):Sy.Spec Tryz.prog 11 [Aj n,Aa from_,Aa to] [] (.tup [.sl 4 Bp (wayT n from_ to).1,Ab (wayT n from_ to).2]) []:=cT F11 Tryz.ntmps11 fun F hF=>by
 have hlk:=wayT.eq_1 n from_ to
 generalize wayT n from_ to=res at *
 have h1:=Ada n hb from_
 have h2:=Ada n hb to
 have hD:n.domains.length<100000:=by have:=(Aiu hb).2.2.2.1;omega
 conv=>whnf
 refine A0 3 8 (Aj n) E E E ?_
 refine oO ?_
 refine c0 h1 F33 ?_
 cases hf:Iz n from_
 ·rw[if_neg (by simp[hf])]at hlk
  subst hlk
  (refine oT ?_;refine bT ?_;refine bT ?_)
  refine Ai 6 4 Bp E ?_
  refine oO ?_
  exact dN
 refine oF ?_
 refine c0 h2 F33 ?_
 cases ht:Iz n to
 ·rw[if_neg (by simp[ht])]at hlk
  subst hlk
  (refine oT ?_;refine bT ?_)
  refine Ai 6 4 Bp E ?_
  refine oO ?_
  exact dN
 refine oF ?_
 refine⟨fun h=>?_,fun h=>?_⟩
 ·rw[if_neg (by have:from_=to:=(by simpa using h);simp[this])]at hlk
  subst hlk
  refine oO ?_
  refine Ai 6 4 Bp E ?_
  refine oO ?_
  exact dN
 have hne:from_≠to:=by simpa using h
 rw[if_pos ⟨hf,ht,hne,hb⟩]at hlk
 have hp:=Mt hf
 have hvl:∀ v∈(n.ports[from_.toNat]'hp.2).native::(n.ports[from_.toNat]'hp.2).tagged,v≠0→_:=fun v hv h0=>Ii hb hp.2 hv h0
 have hnat:=(Uz hb hp.2).1
 have htp:∀ v∈(n.ports[from_.toNat]'hp.2).tagged,v≠0:=fun v hv=>Afs hb hp.2 hv
 have hts:=hn.tagged _ (List.getElem_mem hp.2)
 unfold Al at hts
 rw[beginT,Ag hp.2]at hlk
 obtain ⟨p,hpp⟩:∃ p,n.ports[from_.toNat]'hp.2=p:=⟨_,rfl⟩
 rw[hpp]at hvl hnat htp hts hlk
 have hmt:=fun j=>Ao9 (n:=n) (dev:=p.dev) (l:=(p.native::p.tagged).take j) (fun v hv h0=>hvl v (List.mem_of_mem_take hv) h0)
 refine oO ?_
 refine⟨E,hp.1,hp.2,?_⟩
 rw[hpp]
 conv=>whnf
 refine⟨fun h=>?_,fun h=>?_⟩
 ·have h0:0<p.native:=of_decide_eq_true h
  have q:=Uo (hmt 0) hD hb (dev:=p.dev) (v:=p.native) qn (hvl p.native qz qn)
  have qa:=Is n p.dev p.native hn.domains
  refine A0 8 7 (A7 p) E E E ?_
  refine Bo 9 1000 2 C8 E E ?_
  refine oO ?_
  refine c0 qa F35 ?_
  refine oO ?_
  refine Ae (C7 [(0,1000),(1,1001)] [] E F34 q (.cons (.refl _) (.cons (.agg (.cons .nil (.cons (.refl _) .nil))) (.cons (.refl _) (.cons (.refl _) .nil)))) ⟨E,Y⟩ E ⟨.inl E,.inr E,Y⟩ E) E E ?_
  refine oO ?_
  refine Aq p.tagged.length (fun j=>[(2,Aa to),(3,.ref 8 (Aj n) 0),(8,.ref 7 (A7 p) 0),(9,.osl 1000),(10,Aa j)]) (fun j=>[(1000,.row 2 C8 (Cb (Er n p.dev ((p.native::p.tagged).take (j+1))).list))]) [(1000,1001)]
   ⟨⟨rfl,rfl,rfl,rfl,rfl,rfl,rfl,rfl,rfl,rfl,trivial⟩,⟨.inl rfl,rfl,trivial⟩,rfl,rfl⟩ ?_
  intro j hj
  refine oO ?_
  refine⟨fun h=>?_,fun h=>?_⟩
  ·have hlt:j<p.tagged.length:=by simpa using h
   have hj0:((j:Nat):Int).toNat<p.tagged.length:=by simpa using hlt
   have hv:p.tagged[((j:Nat):Int).toNat]'hj0∈p.tagged:=List.getElem_mem hj0
   have q:=Uo (hmt (j+1)) hD hb (dev:=p.dev) (htp _ hv) (hvl _ (List.mem_cons_of_mem _ hv) (htp _ hv))
   have qa:=Is n p.dev (p.tagged[((j:Nat):Int).toNat]'hj0) hn.domains
   have hs:=Sl n p.dev (l:=p.native::p.tagged) (j:=j+1) (v:=p.tagged[((j:Nat):Int).toNat]'hj0) (by simp;omega) rfl
   rw[← hs]at q
   refine oO ?_
   refine⟨E,by omega,hj0,?_⟩
   conv=>whnf
   refine cD qa F35 ?_
   refine oD ?_
   refine Bb (C7 [(0,1000),(1,1001)] [] E F34 q (.cons (.refl _) (.cons (.agg (.cons .nil (.cons (.refl _) .nil))) (.cons (.refl _) (.cons (.refl _) .nil)))) ⟨E,Y⟩ E ⟨.inl E,.inr E,Y⟩ E) qq E ?_
   refine oD ?_
   refine kW ?_
   refine iW ?_
   exact An [(1000,1001)] hlt ⟨⟨E,E,E,E,E,E,E,E,E,E,Y⟩,⟨.inl E,E,Y⟩,E,E⟩
  have hje:j=p.tagged.length:=qB h
  subst hje
  have hm0:=hmt (p.tagged.length+1)
  have e0:(p.native::p.tagged).take (p.tagged.length+1)=p.native::p.tagged:=List.take_of_length_le qz
  rw[e0]at hm0 ⊢
  generalize Er n p.dev (p.native::p.tagged)=S0 at *
  refine oO ?_
  refine Tf (fun x:Srch × Nat=>Met n x.1∧x.2≤x.1.list.length∧res=D5 n to (2 * n.domains.length+1-x.2) x.1 x.2)
   (fun x=>[(2,Aa to),(3,.ref 8 (Aj n) 0),(9,.osl 1000),(11,Aa x.2)]) (fun x=>[(1000,.row 2 C8 (Cb x.1.list))]) (fun x=>2 * n.domains.length+1-x.2) (S0,0) [] ⟨hm0,Nat.zero_le _,hlk⟩
   ⟨⟨rfl,rfl,rfl,rfl,rfl,rfl,rfl,rfl,trivial⟩,⟨.inl rfl,rfl,trivial⟩,rfl,rfl⟩ ?_
  clear hlk hm0 hmt
  rintro ⟨S,i⟩ ⟨mt,hi,hlk⟩
  dsimp only at mt hi hlk ⊢
  have hle:=mt.ok.le
  obtain ⟨fuel,hfu⟩:∃ k,2 * n.domains.length+1-i=k+1:=⟨2 * n.domains.length-i,by omega⟩
  rw[hfu,D5]at hlk
  have hwlen:=Ho S.list
  refine oO ?_
  refine⟨fun h=>?_,fun h=>?_⟩
  rotate_left
  ·have hlt:¬ i<S.list.length:=qB h
   rw[if_neg hlt]at hlk
   subst hlk
   refine oO ?_
   refine Ai 6 4 Bp E ?_
   refine oO ?_
   exact dN
  have hlt:i<S.list.length:=qA h
  have hi0:((i:Nat):Int).toNat<(Cb S.list).length:=by rw[hwlen];simpa using hlt
  have hk:((i:Nat):Int).toNat<S.list.length:=by simpa using hlt
  have hwi:(Cb S.list)[((i:Nat):Int).toNat]'hi0=⟨backT S.list i,decide ((nth S.list i).kind=1)⟩:=by rw[M7];rfl
  have hok:=Sv mt hD
  have hbl:=hok.2.2 i hlt
  have hbn:=(J2 mt.bk (P:=fun _=>True) (fun _ _=>trivial) hlt).2.2
  have qe:=Aee ⟨backT S.list i,decide ((nth S.list i).kind=1)⟩ hbn (by show (backT S.list i).length<_;omega)
  rw[show (⟨backT S.list i,decide ((nth S.list i).kind=1)⟩:WayD).end_=(nth S.list i).domain from Afr mt.bk mt.dom hlt]at qe
  have hat:=mt.ok.at_ _ (List.getElem_mem hk)
  have hext:=extT.eq_1 n S i
  rw[if_pos hlt]at hlk
  rw[Ag hk]at hlk qe hwi hext
  obtain ⟨f,hf2⟩:∃ f,S.list[((i:Nat):Int).toNat]'hk=f:=⟨_,rfl⟩
  rw[hf2]at hlk qe hwi hat hext
  obtain ⟨fd,kd,fh,fa⟩:=f
  dsimp only at hlk qe hwi hat hext
  have hdo:T8 n fd:=⟨⟨hat.1.1,by omega⟩,hb⟩
  have hhe:Hw n fd=hopsL n fd:=by rw[Hw,if_pos hdo]
  have q1:=E5 n hn hb fd
  have q2:=Dn (A4 n fd) to (Co n hn fd)
  have q3:=Ag8 n hn fd hdo
  have q4:=Aaf n hn hb hu fd ⟨hat.1.1,by omega⟩
  have hsh:=Q7 hn fd
  have hsr:=Ly hn fd
  have hinh:=fun h hh=>@V8 n fd h hh
  have hinr:=fun q hq=>@Ui n fd q hq
  rw[hhe]at hsh hinh hext
  generalize A4 n fd=mem at *
  generalize hopsL n fd=hops at *
  generalize routesT n fd=leads at *
  refine oO ?_
  refine⟨by omega,hi0,?_⟩
  conv=>whnf
  refine⟨E,hi0,?_⟩
  rw[hwi]
  conv=>whnf
  refine cD qe F38 ?_
  refine oD ?_
  refine cD q1 F37 ?_
  refine oD ?_
  refine cD q2 F36 ?_
  refine oD ?_
  refine kW ?_
  generalize inB mem to=bm at *
  cases bm
  rotate_left
  ·refine aT ?_
   rw[if_pos rfl]at hlk
   subst hlk
   refine oO ?_
   exact dN
  refine aF ?_
  rw[if_neg qz]at hlk
  refine A0 12 2 (C8 ⟨backT S.list i,decide (kd=1)⟩) E E E ?_
  refine oO ?_
  refine cD qe F38 ?_
  refine oD ?_
  refine cD q3 F39 ?_
  refine oD ?_
  refine kW ?_
  have hm1:=fun j=>Met.ext1 (k:=kd) (i:=i) hat.2 (l:=hops.take j) mt ⟨by omega,by omega⟩ (fun h hh=>hinh h (List.mem_of_mem_take hh))
  have rk:(if decide (kd=1)=true then (1:Int) else 0)=kd:=by rcases hat.2 with h | h<;>rw[h]<;>rfl
  refine Aq hops.length (fun j=>[(2,Aa to),(3,.ref 8 (Aj n) 0),(9,.osl 1000),(11,Aa i),(12,.ref 2 (C8 ⟨backT S.list i,decide (kd=1)⟩) 0),(13,.sl 4 Bp hops),(14,Aa j)]) (fun j=>[(1000,.row 2 C8 (Cb (ext1 S kd i (hops.take j)).list))]) []
   ⟨⟨rfl,rfl,rfl,rfl,rfl,rfl,rfl,rfl,rfl,rfl,rfl,rfl,rfl,rfl,trivial⟩,⟨.inl rfl,rfl,trivial⟩,rfl,rfl⟩ ?_
  intro j hj
  refine oO ?_
  refine⟨fun h=>?_,fun h=>?_⟩
  ·have hltj:j<hops.length:=by simpa using h
   have hj0:((j:Nat):Int).toNat<hops.length:=by simpa using hltj
   obtain ⟨m,hml⟩:=(hm1 j).2
   have q5:=Vy (hm1 j).1 hD hml mt.bk hlt (hops[((j:Nat):Int).toNat]'hj0) (decide (kd=1)) (decide (kd=1)) (hinh _ (List.getElem_mem hj0))
   rw[rk,← Xz S kd i (h:=hops[((j:Nat):Int).toNat]'hj0) hltj rfl]at q5
   refine oO ?_
   refine⟨E,by omega,hj0,?_⟩
   conv=>whnf
   refine Bb (Ah [(0,1000),(1,1001)] E F34 q5 E ⟨E,Y⟩ E ⟨.inl E,.inr E,Y⟩) qq E ?_
   refine oD ?_
   refine kW ?_
   refine iW ?_
   exact An [(1000,1001)] hltj ⟨⟨E,E,E,E,E,E,E,E,E,E,E,E,E,E,Y⟩,⟨.inl E,E,Y⟩,E,E⟩
  have hje:j=hops.length:=qB h
  subst hje
  obtain ⟨hmA,mA,hmlA⟩:=hm1 hops.length
  rw[List.take_length]at hmA hmlA ⊢
  clear hm1
  refine oO ?_
  refine cD qe F38 ?_
  refine oD ?_
  refine cD q4 F40 ?_
  refine oD ?_
  refine kW ?_
  have hleA:S.list.length≤(ext1 S kd i hops).list.length:=by rw[hmlA,List.length_append];omega
  rcases hat.2 with hkd | hkd
  ·subst hkd
   rw[if_pos rfl]at hext
   rw[hext]at hlk
   clear hext
   generalize ext1 S 0 i hops=S1 at *
   have hm2:=fun j=>Met.ext2 (i:=i) (l:=leads.take j) hmA ⟨by omega,by omega⟩ (fun h hh=>hinr h (List.mem_of_mem_take hh))
   refine Aq leads.length (fun j=>[(2,Aa to),(3,.ref 8 (Aj n) 0),(9,.osl 1000),(11,Aa i),(12,.ref 2 (C8 ⟨backT S.list i,false⟩) 0),(15,.sl 3 Du leads),(16,Aa j)]) (fun j=>[(1000,.row 2 C8 (Cb (ext2 S1 i (leads.take j)).list))]) []
    ⟨⟨rfl,rfl,rfl,rfl,rfl,rfl,rfl,rfl,rfl,rfl,rfl,rfl,rfl,rfl,trivial⟩,⟨.inl rfl,rfl,trivial⟩,rfl,rfl⟩ ?_
   intro j hj
   refine oO ?_
   refine⟨fun h=>?_,fun h=>?_⟩
   ·have hltj:j<leads.length:=by simpa using h
    have hj0:((j:Nat):Int).toNat<leads.length:=by simpa using hltj
    obtain ⟨m,hml⟩:=(hm2 j).2
    have q5:=Vy (hm2 j).1 hD (l:=S.list) (m:=mA++m) (by rw[hml,hmlA,List.append_assoc]) mt.bk hlt ⟨3,0,(leads[((j:Nat):Int).toNat]'hj0).domain,(leads[((j:Nat):Int).toNat]'hj0).addr⟩ true false (hinr _ (List.getElem_mem hj0))
    rw[show (if true=true then (1:Int) else 0)=1 from rfl,← Xy S1 i (q:=leads[((j:Nat):Int).toNat]'hj0) hltj rfl]at q5
    refine oT ?_
    refine⟨E,by omega,hj0,?_⟩
    conv=>whnf
    refine⟨E,by omega,hj0,?_⟩
    conv=>whnf
    refine Bb (Ah [(0,1000),(1,1001)] E F34 q5 E ⟨E,Y⟩ E ⟨.inl E,.inr E,Y⟩) qq E ?_
    refine oD ?_
    refine kW ?_
    refine iW ?_
    exact An [(1000,1001)] hltj ⟨⟨E,E,E,E,E,E,E,E,E,E,E,E,E,E,Y⟩,⟨.inl E,E,Y⟩,E,E⟩
   ·have hje:j=leads.length:=qB h
    subst hje
    obtain ⟨hmB,mB,hmlB⟩:=hm2 leads.length
    rw[List.take_length]at hmB hmlB ⊢
    have hleB:S1.list.length≤(ext2 S1 i leads).list.length:=by rw[hmlB,List.length_append];omega
    refine oF ?_
    refine iW ?_
    exact Eb (ext2 S1 i leads,i+1) [] ⟨hmB,by simp only;omega,by simp only;rw[show 2 * n.domains.length+1-(i+1)=fuel by omega];exact hlk⟩ (by simp only;omega) ⟨⟨E,E,E,E,E,E,E,E,Y⟩,⟨.inl E,E,Y⟩,E,E⟩
  ·subst hkd
   rw[if_neg qy]at hext
   rw[hext]at hlk
   clear hext
   generalize ext1 S 1 i hops=S1 at *
   refine Aq 0 (fun j=>[(2,Aa to),(3,.ref 8 (Aj n) 0),(9,.osl 1000),(11,Aa i),(12,.ref 2 (C8 ⟨backT S.list i,true⟩) 0),(15,.sl 3 Du leads),(16,Aa j)]) (fun j=>[(1000,.row 2 C8 (Cb S1.list))]) []
    ⟨⟨rfl,rfl,rfl,rfl,rfl,rfl,rfl,rfl,rfl,rfl,rfl,rfl,rfl,rfl,trivial⟩,⟨.inl rfl,rfl,trivial⟩,rfl,rfl⟩ ?_
   intro j hj
   refine oO ?_
   refine⟨fun h=>?_,fun h=>?_⟩
   ·refine oF ?_
    refine iW ?_
    exact Eb (S1,i+1) [] ⟨hmA,by simp only;omega,by simp only;rw[show 2 * n.domains.length+1-(i+1)=fuel by omega];exact hlk⟩ (by simp only;omega) ⟨⟨E,E,E,E,E,E,E,E,Y⟩,⟨.inl E,E,Y⟩,E,E⟩
   ·refine oF ?_
    refine iW ?_
    exact Eb (S1,i+1) [] ⟨hmA,by simp only;omega,by simp only;rw[show 2 * n.domains.length+1-(i+1)=fuel by omega];exact hlk⟩ (by simp only;omega) ⟨⟨E,E,E,E,E,E,E,E,Y⟩,⟨.inl E,E,Y⟩,E,E⟩
 ·have h0:p.native=0:=qB h
  have hz:Er n p.dev ((p.native::p.tagged).take (0+1))=J7 n:=by rw[h0];rfl
  refine A0 8 7 (A7 p) E E E ?_
  refine Bo 9 1000 2 C8 E E ?_
  refine oO ?_
  refine Aq p.tagged.length (fun j=>[(2,Aa to),(3,.ref 8 (Aj n) 0),(8,.ref 7 (A7 p) 0),(9,.osl 1000),(10,Aa j)]) (fun j=>[(1000,.row 2 C8 (Cb (Er n p.dev ((p.native::p.tagged).take (j+1))).list))]) []
   ⟨⟨rfl,rfl,rfl,rfl,rfl,rfl,rfl,rfl,rfl,rfl,trivial⟩,⟨.inl (congrArg (fun z:Srch=>Ob.row 2 C8 (Cb z.list)) hz),rfl,trivial⟩,rfl,rfl⟩ ?_
  intro j hj
  refine oO ?_
  refine⟨fun h=>?_,fun h=>?_⟩
  ·have hlt:j<p.tagged.length:=by simpa using h
   have hj0:((j:Nat):Int).toNat<p.tagged.length:=by simpa using hlt
   have hv:p.tagged[((j:Nat):Int).toNat]'hj0∈p.tagged:=List.getElem_mem hj0
   have q:=Uo (hmt (j+1)) hD hb (dev:=p.dev) (htp _ hv) (hvl _ (List.mem_cons_of_mem _ hv) (htp _ hv))
   have qa:=Is n p.dev (p.tagged[((j:Nat):Int).toNat]'hj0) hn.domains
   have hs:=Sl n p.dev (l:=p.native::p.tagged) (j:=j+1) (v:=p.tagged[((j:Nat):Int).toNat]'hj0) (by simp;omega) rfl
   rw[← hs]at q
   refine oO ?_
   refine⟨E,by omega,hj0,?_⟩
   conv=>whnf
   refine cD qa F35 ?_
   refine oD ?_
   refine Bb (C7 [(0,1000),(1,1001)] [] E F34 q (.cons (.refl _) (.cons (.agg (.cons .nil (.cons (.refl _) .nil))) (.cons (.refl _) (.cons (.refl _) .nil)))) ⟨E,Y⟩ E ⟨.inl E,.inr E,Y⟩ E) qq E ?_
   refine oD ?_
   refine kW ?_
   refine iW ?_
   exact An [(1000,1001)] hlt ⟨⟨E,E,E,E,E,E,E,E,E,E,Y⟩,⟨.inl E,E,Y⟩,E,E⟩
  have hje:j=p.tagged.length:=qB h
  subst hje
  have hm0:=hmt (p.tagged.length+1)
  have e0:(p.native::p.tagged).take (p.tagged.length+1)=p.native::p.tagged:=List.take_of_length_le qz
  rw[e0]at hm0 ⊢
  generalize Er n p.dev (p.native::p.tagged)=S0 at *
  refine oO ?_
  refine Tf (fun x:Srch × Nat=>Met n x.1∧x.2≤x.1.list.length∧res=D5 n to (2 * n.domains.length+1-x.2) x.1 x.2)
   (fun x=>[(2,Aa to),(3,.ref 8 (Aj n) 0),(9,.osl 1000),(11,Aa x.2)]) (fun x=>[(1000,.row 2 C8 (Cb x.1.list))]) (fun x=>2 * n.domains.length+1-x.2) (S0,0) [] ⟨hm0,Nat.zero_le _,hlk⟩
   ⟨⟨rfl,rfl,rfl,rfl,rfl,rfl,rfl,rfl,trivial⟩,⟨.inl rfl,rfl,trivial⟩,rfl,rfl⟩ ?_
  clear hlk hm0 hmt
  rintro ⟨S,i⟩ ⟨mt,hi,hlk⟩
  dsimp only at mt hi hlk ⊢
  have hle:=mt.ok.le
  obtain ⟨fuel,hfu⟩:∃ k,2 * n.domains.length+1-i=k+1:=⟨2 * n.domains.length-i,by omega⟩
  rw[hfu,D5]at hlk
  have hwlen:=Ho S.list
  refine oO ?_
  refine⟨fun h=>?_,fun h=>?_⟩
  rotate_left
  ·have hlt:¬ i<S.list.length:=qB h
   rw[if_neg hlt]at hlk
   subst hlk
   refine oO ?_
   refine Ai 6 4 Bp E ?_
   refine oO ?_
   exact dN
  have hlt:i<S.list.length:=qA h
  have hi0:((i:Nat):Int).toNat<(Cb S.list).length:=by rw[hwlen];simpa using hlt
  have hk:((i:Nat):Int).toNat<S.list.length:=by simpa using hlt
  have hwi:(Cb S.list)[((i:Nat):Int).toNat]'hi0=⟨backT S.list i,decide ((nth S.list i).kind=1)⟩:=by rw[M7];rfl
  have hok:=Sv mt hD
  have hbl:=hok.2.2 i hlt
  have hbn:=(J2 mt.bk (P:=fun _=>True) (fun _ _=>trivial) hlt).2.2
  have qe:=Aee ⟨backT S.list i,decide ((nth S.list i).kind=1)⟩ hbn (by show (backT S.list i).length<_;omega)
  rw[show (⟨backT S.list i,decide ((nth S.list i).kind=1)⟩:WayD).end_=(nth S.list i).domain from Afr mt.bk mt.dom hlt]at qe
  have hat:=mt.ok.at_ _ (List.getElem_mem hk)
  have hext:=extT.eq_1 n S i
  rw[if_pos hlt]at hlk
  rw[Ag hk]at hlk qe hwi hext
  obtain ⟨f,hf2⟩:∃ f,S.list[((i:Nat):Int).toNat]'hk=f:=⟨_,rfl⟩
  rw[hf2]at hlk qe hwi hat hext
  obtain ⟨fd,kd,fh,fa⟩:=f
  dsimp only at hlk qe hwi hat hext
  have hdo:T8 n fd:=⟨⟨hat.1.1,by omega⟩,hb⟩
  have hhe:Hw n fd=hopsL n fd:=by rw[Hw,if_pos hdo]
  have q1:=E5 n hn hb fd
  have q2:=Dn (A4 n fd) to (Co n hn fd)
  have q3:=Ag8 n hn fd hdo
  have q4:=Aaf n hn hb hu fd ⟨hat.1.1,by omega⟩
  have hsh:=Q7 hn fd
  have hsr:=Ly hn fd
  have hinh:=fun h hh=>@V8 n fd h hh
  have hinr:=fun q hq=>@Ui n fd q hq
  rw[hhe]at hsh hinh hext
  generalize A4 n fd=mem at *
  generalize hopsL n fd=hops at *
  generalize routesT n fd=leads at *
  refine oO ?_
  refine⟨by omega,hi0,?_⟩
  conv=>whnf
  refine⟨E,hi0,?_⟩
  rw[hwi]
  conv=>whnf
  refine cD qe F38 ?_
  refine oD ?_
  refine cD q1 F37 ?_
  refine oD ?_
  refine cD q2 F36 ?_
  refine oD ?_
  refine kW ?_
  generalize inB mem to=bm at *
  cases bm
  rotate_left
  ·refine aT ?_
   rw[if_pos rfl]at hlk
   subst hlk
   refine oO ?_
   exact dN
  refine aF ?_
  rw[if_neg qz]at hlk
  refine A0 12 2 (C8 ⟨backT S.list i,decide (kd=1)⟩) E E E ?_
  refine oO ?_
  refine cD qe F38 ?_
  refine oD ?_
  refine cD q3 F39 ?_
  refine oD ?_
  refine kW ?_
  have hm1:=fun j=>Met.ext1 (k:=kd) (i:=i) hat.2 (l:=hops.take j) mt ⟨by omega,by omega⟩ (fun h hh=>hinh h (List.mem_of_mem_take hh))
  have rk:(if decide (kd=1)=true then (1:Int) else 0)=kd:=by rcases hat.2 with h | h<;>rw[h]<;>rfl
  refine Aq hops.length (fun j=>[(2,Aa to),(3,.ref 8 (Aj n) 0),(9,.osl 1000),(11,Aa i),(12,.ref 2 (C8 ⟨backT S.list i,decide (kd=1)⟩) 0),(13,.sl 4 Bp hops),(14,Aa j)]) (fun j=>[(1000,.row 2 C8 (Cb (ext1 S kd i (hops.take j)).list))]) []
   ⟨⟨rfl,rfl,rfl,rfl,rfl,rfl,rfl,rfl,rfl,rfl,rfl,rfl,rfl,rfl,trivial⟩,⟨.inl rfl,rfl,trivial⟩,rfl,rfl⟩ ?_
  intro j hj
  refine oO ?_
  refine⟨fun h=>?_,fun h=>?_⟩
  ·have hltj:j<hops.length:=by simpa using h
   have hj0:((j:Nat):Int).toNat<hops.length:=by simpa using hltj
   obtain ⟨m,hml⟩:=(hm1 j).2
   have q5:=Vy (hm1 j).1 hD hml mt.bk hlt (hops[((j:Nat):Int).toNat]'hj0) (decide (kd=1)) (decide (kd=1)) (hinh _ (List.getElem_mem hj0))
   rw[rk,← Xz S kd i (h:=hops[((j:Nat):Int).toNat]'hj0) hltj rfl]at q5
   refine oO ?_
   refine⟨E,by omega,hj0,?_⟩
   conv=>whnf
   refine Bb (Ah [(0,1000),(1,1001)] E F34 q5 E ⟨E,Y⟩ E ⟨.inl E,.inr E,Y⟩) qq E ?_
   refine oD ?_
   refine kW ?_
   refine iW ?_
   exact An [(1000,1001)] hltj ⟨⟨E,E,E,E,E,E,E,E,E,E,E,E,E,E,Y⟩,⟨.inl E,E,Y⟩,E,E⟩
  have hje:j=hops.length:=qB h
  subst hje
  obtain ⟨hmA,mA,hmlA⟩:=hm1 hops.length
  rw[List.take_length]at hmA hmlA ⊢
  clear hm1
  refine oO ?_
  refine cD qe F38 ?_
  refine oD ?_
  refine cD q4 F40 ?_
  refine oD ?_
  refine kW ?_
  have hleA:S.list.length≤(ext1 S kd i hops).list.length:=by rw[hmlA,List.length_append];omega
  rcases hat.2 with hkd | hkd
  ·subst hkd
   rw[if_pos rfl]at hext
   rw[hext]at hlk
   clear hext
   generalize ext1 S 0 i hops=S1 at *
   have hm2:=fun j=>Met.ext2 (i:=i) (l:=leads.take j) hmA ⟨by omega,by omega⟩ (fun h hh=>hinr h (List.mem_of_mem_take hh))
   refine Aq leads.length (fun j=>[(2,Aa to),(3,.ref 8 (Aj n) 0),(9,.osl 1000),(11,Aa i),(12,.ref 2 (C8 ⟨backT S.list i,false⟩) 0),(15,.sl 3 Du leads),(16,Aa j)]) (fun j=>[(1000,.row 2 C8 (Cb (ext2 S1 i (leads.take j)).list))]) []
    ⟨⟨rfl,rfl,rfl,rfl,rfl,rfl,rfl,rfl,rfl,rfl,rfl,rfl,rfl,rfl,trivial⟩,⟨.inl rfl,rfl,trivial⟩,rfl,rfl⟩ ?_
   intro j hj
   refine oO ?_
   refine⟨fun h=>?_,fun h=>?_⟩
   ·have hltj:j<leads.length:=by simpa using h
    have hj0:((j:Nat):Int).toNat<leads.length:=by simpa using hltj
    obtain ⟨m,hml⟩:=(hm2 j).2
    have q5:=Vy (hm2 j).1 hD (l:=S.list) (m:=mA++m) (by rw[hml,hmlA,List.append_assoc]) mt.bk hlt ⟨3,0,(leads[((j:Nat):Int).toNat]'hj0).domain,(leads[((j:Nat):Int).toNat]'hj0).addr⟩ true false (hinr _ (List.getElem_mem hj0))
    rw[show (if true=true then (1:Int) else 0)=1 from rfl,← Xy S1 i (q:=leads[((j:Nat):Int).toNat]'hj0) hltj rfl]at q5
    refine oT ?_
    refine⟨E,by omega,hj0,?_⟩
    conv=>whnf
    refine⟨E,by omega,hj0,?_⟩
    conv=>whnf
    refine Bb (Ah [(0,1000),(1,1001)] E F34 q5 E ⟨E,Y⟩ E ⟨.inl E,.inr E,Y⟩) qq E ?_
    refine oD ?_
    refine kW ?_
    refine iW ?_
    exact An [(1000,1001)] hltj ⟨⟨E,E,E,E,E,E,E,E,E,E,E,E,E,E,Y⟩,⟨.inl E,E,Y⟩,E,E⟩
   ·have hje:j=leads.length:=qB h
    subst hje
    obtain ⟨hmB,mB,hmlB⟩:=hm2 leads.length
    rw[List.take_length]at hmB hmlB ⊢
    have hleB:S1.list.length≤(ext2 S1 i leads).list.length:=by rw[hmlB,List.length_append];omega
    refine oF ?_
    refine iW ?_
    exact Eb (ext2 S1 i leads,i+1) [] ⟨hmB,by simp only;omega,by simp only;rw[show 2 * n.domains.length+1-(i+1)=fuel by omega];exact hlk⟩ (by simp only;omega) ⟨⟨E,E,E,E,E,E,E,E,Y⟩,⟨.inl E,E,Y⟩,E,E⟩
  ·subst hkd
   rw[if_neg qy]at hext
   rw[hext]at hlk
   clear hext
   generalize ext1 S 1 i hops=S1 at *
   refine Aq 0 (fun j=>[(2,Aa to),(3,.ref 8 (Aj n) 0),(9,.osl 1000),(11,Aa i),(12,.ref 2 (C8 ⟨backT S.list i,true⟩) 0),(15,.sl 3 Du leads),(16,Aa j)]) (fun j=>[(1000,.row 2 C8 (Cb S1.list))]) []
    ⟨⟨rfl,rfl,rfl,rfl,rfl,rfl,rfl,rfl,rfl,rfl,rfl,rfl,rfl,rfl,trivial⟩,⟨.inl rfl,rfl,trivial⟩,rfl,rfl⟩ ?_
   intro j hj
   refine oO ?_
   refine⟨fun h=>?_,fun h=>?_⟩
   ·refine oF ?_
    refine iW ?_
    exact Eb (S1,i+1) [] ⟨hmA,by simp only;omega,by simp only;rw[show 2 * n.domains.length+1-(i+1)=fuel by omega];exact hlk⟩ (by simp only;omega) ⟨⟨E,E,E,E,E,E,E,E,Y⟩,⟨.inl E,E,Y⟩,E,E⟩
   ·refine oF ?_
    refine iW ?_
    exact Eb (S1,i+1) [] ⟨hmA,by simp only;omega,by simp only;rw[show 2 * n.domains.length+1-(i+1)=fuel by omega];exact hlk⟩ (by simp only;omega) ⟨⟨E,E,E,E,E,E,E,E,Y⟩,⟨.inl E,E,Y⟩,E,E⟩
end Go.Sy.YteinjapglfkamaaGreat
namespace Go.Sy.YteinjapglfkamaaGreat
open Go.Proofs
theorem Abj {α:Type} (p:α→Bool) (l:List α) (j:Nat) (hj:j<l.length):Cm p (l.take (j+1))=if 0≤Cm p (l.take j) then Cm p (l.take j) else if p l[j]=true then (j:Int) else -1:=by
 rw[List.take_succ_eq_append_getElem hj]
 unfold Cm
 rw[List.findIdx?_append]
 cases h:(l.take j).findIdx? p with
 | some i=>simp
 | none =>
  simp only[List.findIdx?_singleton,Option.none_or]
  cases hp:p l[j]
  ·simp
  ·simp[Nat.min_eq_left (Nat.le_of_lt hj)]
attribute [local irreducible] Go.Sy.G Go.Sy.DR
set_option maxRecDepth 100000
set_option maxHeartbeats 8000000
theorem Aj5 (n:Net) (hn:n.Fin) (hu:Dj n) (l:List Hop) (hl:Al l) (hla:∀ h∈l,0≤h.addr∧h.addr<4294967296) :
  Sy.Spec Tryz.prog 15 [Aj n,.sl 4 Bp l] [] (.tup [.sl 1 Af (wayBytes n l).1,Aa (wayBytes n l).2]) []:=cT F15 Tryz.ntmps15 fun F hF=>by
 have hres:=wayBytes.eq_1 n l
 generalize wayBytes n l=res at *
 have hr:=Dy n hn
 have hl2:=hl
 unfold Al at hl2
 conv=>whnf
 refine A0 2 8 (Aj n) E E E ?_
 refine T ?_
 refine C hr F10 ?_
 cases hb:Ac n
 ·rw[if_neg (fun x=>by rw[hb]at x;cases x.1)]at hres
  subst hres
  refine T ?_
  refine Ai 4 1 Af E ?_
  exact D
 refine T ?_
 refine⟨fun h=>?_,fun h=>?_⟩
 ·have h0:l=[]:=List.eq_nil_of_length_eq_zero (qA h)
  rw[if_neg (fun x=>x.2.1 h0)]at hres
  subst hres
  refine T ?_
  refine Ai 4 1 Af E ?_
  exact D
 have h0:0<l.length:=qB h
 clear h
 have hne:l≠[]:=fun e=>by rw[e]at h0;simp at h0
 refine T ?_
 refine Av l.length (fun j=>Di (stepB n l) l j) (fun j=>[(1,.sl 4 Bp l),(2,.ref 8 (Aj n) 0),(6,Aa (H6 (l.take j))),(7,Aa j)]) (fun _=>[]) [] (A2 _ _) U ?_
 intro j hj hI
 refine T ?_
 refine⟨fun h=>?_,fun h=>?_⟩
 ·have hlt:j<l.length:=qA h
  have hj0:((j:Nat):Int).toNat<l.length:=by simpa using hlt
  have hts:=Abj (fun h:Hop=>decide (h.kind=3)) l j hlt
  have hrj:∀ k,Cm (fun h:Hop=>decide (h.kind=3)) (l.take k)=H6 (l.take k):=fun _=>rfl
  rw[hrj,hrj]at hts
  obtain ⟨x,hoo⟩:∃ x,l[j]=x:=⟨_,rfl⟩
  have e1:l[((j:Nat):Int).toNat]'hj0=x:=hoo
  have hst:=stepB.eq_1 n l j x
  have hbad:stepB n l j x=false→res=([],2):=fun h2=>by
   rw[if_neg (fun y=>by have:=allB_iff.1 y.2.2 j hlt;rw[hoo,h2]at this;cases this)]at hres
   exact hres
  rw[hoo]at hts
  have qp:=A1 x.domain n.domains.length
  clear h hrj
  refine S ?_
  refine⟨E,by omega,hj0,?_⟩
  rw[e1]
  refine T ?_
  refine C qp F46 ?_
  cases hpl:Ak x.domain n.domains.length
  ·rw[hpl,Bool.false_and]at hst
   have hres:=hbad hst
   subst hres
   refine T ?_
   refine Ai 4 1 Af E ?_
   exact D
  rw[hpl,Bool.true_and]at hst
  refine T ?_
  rw[e1]
  by_cases hk:x.kind=3
  rotate_left
  ·rw[decide_eq_false hk,Bool.false_and]at hst
   rw[if_neg (show ¬ decide (x.kind=3)=true by simp[hk])]at hts
   have hts2:H6 (l.take (j+1))=H6 (l.take j):=by
    have:=Aug (fun h:Hop=>decide (h.kind=3)) (l.take j)
    show H6 (l.take (j+1))=_
    have e:H6 (l.take j)=Cm (fun h:Hop=>decide (h.kind=3)) (l.take j):=rfl
    rw[hts]
    split<;>omega
   refine⟨fun _=>?_,fun h=>absurd (by simpa using h) hk⟩
   refine T ?_
   exact As [] hI hlt (Ax hI hlt (by rw[hoo];exact hst)) ⟨⟨E,E,E,E,congrArg Aa hts2,E,E,E,Y⟩,Y,E,E⟩
  rw[decide_eq_true hk,Bool.true_and]at hst
  rw[if_pos (decide_eq_true hk)]at hts
  refine⟨fun h=>absurd hk (by simpa using h),fun _=>?_⟩
  by_cases hj1:j=0
  ·have hres:=hbad (by rw[hst,decide_eq_true hj1];rfl)
   subst hres
   refine T ?_
   refine Ai 4 1 Af E ?_
   exact D
  rw[decide_eq_false hj1,Bool.false_or]at hst
  have hk1:((j:Int)-1).toNat<l.length:=by omega
  have hpr:=hI (j-1) qn qn
  have hpr2:Ak (l[((j:Int)-1).toNat]'hk1).domain n.domains.length=true:=by
   have e:((j:Int)-1).toNat=j-1:=by omega
   simp only[e]
   unfold stepB at hpr
   simp only[Bool.and_eq_true]at hpr
   exact hpr.1
  have hpi:=placeB_iff.1 hpr2
  rw[Ag hk1,Ag hpi.2]at hst
  have hie:=Tb hb hpi.2
  by_cases hir:(n.domains[(l[((j:Int)-1).toNat]'hk1).domain.toNat]'hpi.2).irb=-1
  ·have hres:=hbad (by rw[hst,decide_eq_true qn];rfl)
   subst hres
   refine T ?_
   refine⟨fun _=>?_,fun h=>absurd hir (by simpa using h)⟩
   refine T ?_
   refine Ai 4 1 Af E ?_
   exact D
  have hin:=hie.resolve_left hir
  rw[decide_eq_false (by unfold InIrbs at hin;omega)]at hst
  clear hie hbad
  refine T ?_
  refine⟨fun h=>absurd (by simpa using h) hir,fun _=>?_⟩
  refine T ?_
  generalize hr1:H6 (l.take j)=r at *
  refine⟨fun h=>?_,fun h=>?_⟩
  ·rw[if_neg (qA h)]at hts
   refine T ?_
   exact As [] hI hlt (Ax hI hlt (by rw[hoo];exact hst)) ⟨⟨E,E,E,E,congrArg Aa hts,E,E,E,Y⟩,Y,E,E⟩
  ·rw[if_pos (qB h)]at hts
   refine T ?_
   exact As [] hI hlt (Ax hI hlt (by rw[hoo];exact hst)) ⟨⟨E,E,E,E,congrArg Aa hts,E,E,E,Y⟩,Y,E,E⟩
 ·have hjj:j=l.length:=qB h
  subst hjj
  clear h
  rw[List.take_length]
  have hall:Dc (stepB n l) l=true:=allB_iff.2 fun i hi=>hI i hi hi
  rw[if_pos ⟨hb,hne,hall⟩]at hres
  subst hres
  have hri:Cm (fun h=>decide (h.kind=3)) l=H6 l:=rfl
  have hlt:=Hd (fun h:Hop=>decide (h.kind=3)) l
  have his:=fun h0=>Am6 hri h0
  rw[hri]at hlt
  have q7:=Kp (frameW n l) (Xx hu l)
  have hfw:=frameW.eq_1 n l
  have hirb:=irbOf.eq_1 n l
  generalize irbOf n l=ib at *
  generalize H6 l=r at *
  refine T ?_
  refine⟨fun h=>?_,fun h=>?_⟩
  ·have h1:0<r:=of_decide_eq_true h
   rw[if_pos h1]at hfw
   obtain ⟨hr0,hr3⟩:=his qn
   have hst:=allB_iff.1 hall r.toNat hr0
   have hk1:(r-1).toNat<l.length:=by omega
   have hpr2:Ak (l[(r-1).toNat]'hk1).domain n.domains.length=true:=by
    have hpr:=allB_iff.1 hall (r-1).toNat hk1
    unfold stepB at hpr
    simp only[Bool.and_eq_true]at hpr
    exact hpr.1
   have hpi:=placeB_iff.1 hpr2
   unfold stepB at hst
   rw[hr3,show ((r.toNat:Int)-1)=r-1 by omega,Ag hk1,Ag hpi.2]at hst
   simp only[Bool.and_eq_true,Bool.true_and,Bool.not_eq_true',Bool.or_eq_false_iff,decide_eq_false_iff_not]at hst
   have hin:=(Tb hb hpi.2).resolve_left qn
   have hin1:0≤(n.domains[(l[(r-1).toNat]'hk1).domain.toNat]'hpi.2).irb∧(n.domains[(l[(r-1).toNat]'hk1).domain.toNat]'hpi.2).irb.toNat<n.irbs.length:=by unfold InIrbs at hin;omega
   rw[Ag hk1,Ag hpi.2,Ag hin1.2]at hirb
   rw[Ag hr0]at hfw
   have ha:=hla _ (List.getElem_mem hr0)
   have hae:=Int.toNat_of_nonneg ha.1
   have hxa:=hu _ (List.getElem_mem hin1.2)
   have hxe:=Int.toNat_of_nonneg hxa.1
   have q5:Sy.Spec Tryz.prog 48 [.agg [Aa 0,Aa 0,Aa 64,Aa 17,Bd 1,Bd ((l[r.toNat]'hr0).addr.toNat:Nat),.sl 1 Af []]] [] (.tup [.sl 1 Af (ipPutT (Qa (l[r.toNat]'hr0).addr.toNat)).1,Aa (ipPutT (Qa (l[r.toNat]'hr0).addr.toNat)).2]) []:=Xc (Qa (l[r.toNat]'hr0).addr.toNat) (Ajd _ qn) (by show 0<100000;decide)
   rw[hae]at q5
   have q6:=Mj (n.irbs[(n.domains[(l[(r-1).toNat]'hk1).domain.toNat]'hpi.2).irb.toNat]'hin1.2).addr.toNat qn
   rw[hxe]at q6
   subst hirb
   rw[hfw]at q7 ⊢
   clear hfw
   generalize (ipPutT (Qa (l[r.toNat]'hr0).addr.toNat)).1=bo at *
   refine T ?_
   refine C q6 F47 ?_
   refine Aqa 87 (.agg [Aa 0,Aa 0,Aa 64,Aa 17,Bd 1,Bd (l[r.toNat]'hr0).addr,.sl 1 Af []]) (.agg (.cons (.refl _) (.cons (.refl _) (.cons (.refl _) (.cons (.refl _) (.cons (.refl _) (.cons (.refl _) (.cons .nil .nil)))))))) ?_
   refine C q5 F48 ?_
   refine Ae (Ah [(0,999)] E F49 q7 E Y E ⟨.inr E,Y⟩) E E ?_
   refine Ap 999 E ?_
   refine T ?_
   exact D
  ·have h1:¬ 0<r:=of_decide_eq_false h
   rw[if_neg h1]at hfw
   rw[hfw]at q7 ⊢
   clear hfw
   refine T ?_
   refine Aqa 92 (.agg [Aw 281474976710655,Aw Vh,Aa 34997,.sl 1 Af []]) (.agg (.cons (.refl _) (.cons (.refl _) (.cons (.refl _) (.cons .nil .nil))))) ?_
   refine Ae (Ah [(0,999)] E F49 q7 E Y E ⟨.inr E,Y⟩) E E ?_
   refine Ap 999 E ?_
   refine T ?_
   exact D
theorem Ag7 (n:Net) (hn:n.Fin) (hu:Dj n) (hb:Ac n=true) (port:Int) (hp:0≤port∧port.toNat<n.ports.length) (l:List Hop) (hl:Al l) (hla:∀ h∈l,Ua n h) (h0:0<l.length) :
  Sy.Spec Tryz.prog 57 [Aj n,Aa port,.sl 4 Bp l] [] (Bw (injectW n port l)) []:=cT F57 Tryz.ntmps57 fun F hF=>by
 have hk0:(0:Int).toNat<l.length:=h0
 have hd:=hla _ (List.getElem_mem hk0)
 have q1:=Aj5 n hn hu l hl (fun h hh=>(hla h hh).2)
 have hwl:=M8 (n:=n) hu l
 have hv:=Lf hb hd.1.2
 have hres:=injectW.eq_1 n port l
 rw[Ag hk0,Ag hd.1.2,Ag hp.2]at hres
 generalize injectW n port l=res at *
 obtain ⟨ve,hve⟩:∃ v:Nat,(n.domains[(l[(0:Int).toNat]'hk0).domain.toNat]'hd.1.2).vlan=v:=⟨_,(Int.toNat_of_nonneg qn).symm⟩
 have hd1:0≤(l[(0:Int).toNat]'hk0).domain∧(l[(0:Int).toNat]'hk0).domain.toNat<n.domains.length:=hd.1
 have q3:=fun f hf=>Aao f ve hf qn
 have ho:=fun f hf=>Z2 (f:=f) hf ve qn
 rw[← hve]at q3 ho
 clear hve
 generalize wayBytes n l=bb at *
 have q2:=Oi bb.1 qn
 have hf:=W4 bb.1
 generalize takeF bb.1=tk at *
 have q3:=q3 _ hf
 have q4:=Kp _ (ho _ hf)
 clear ho
 conv=>whnf
 refine A0 3 8 (Aj n) E E E ?_
 refine T ?_
 refine C q1 F15 ?_
 refine⟨fun h=>?_,fun h=>?_⟩
 ·have hv2:(n.domains[(l[(0:Int).toNat]'hk0).domain.toNat]'hd.1.2).vlan≠(n.ports[port.toNat]'hp.2).native:=by simpa using h
  rw[if_pos hv2]at hres
  clear h hv hv2
  generalize tagT tk.1 (n.domains[(l[(0:Int).toNat]'hk0).domain.toNat]'hd.1.2).vlan=tg at *
  subst hres
  refine T ?_
  refine C q2 F124 ?_
  refine C q3 F125 ?_
  refine Ae (Ah [(0,55)] E F49 q4 E Y E ⟨.inr E,Y⟩) E E ?_
  refine Ap 55 E ?_
  refine T ?_
  refine Ar 6 [Aa 1,Aa port,Aa 0,Aa 0,.sl 1 Af (Qb tg.1),.sl 1 Ab []] E (.cons (.refl _) (.cons (.refl _) (.cons (.refl _) (.cons (.refl _) (.cons (.refl _) (.cons .nil .nil)))))) ?_
  exact D
 ·have hv2:¬ (n.domains[(l[(0:Int).toNat]'hk0).domain.toNat]'hd.1.2).vlan≠(n.ports[port.toNat]'hp.2).native:=by simpa using h
  rw[if_neg hv2]at hres
  subst hres
  refine T ?_
  refine Ar 6 [Aa 1,Aa port,Aa 0,Aa 0,.sl 1 Af bb.1,.sl 1 Ab []] E (.cons (.refl _) (.cons (.refl _) (.cons (.refl _) (.cons (.refl _) (.cons (.refl _) (.cons .nil .nil)))))) ?_
  exact D
end Go.Sy.YteinjapglfkamaaGreat
namespace Go.Sy.YteinjapglfkamaaGreat
open Go.Proofs Go.ChangeShapes Go.WideShapes Go.ChangeAt Go.RowKit
set_option maxRecDepth 100000
section
variable {H:Type} {enc:TypeId × Value→H} {W:World}
def Hop.In (x:Hop):Prop:=wI .i64 x.kind∧wI .i64 x.port∧wI .i64 x.domain∧wI .u32 x.addr
end
end Go.Sy.YteinjapglfkamaaGreat
namespace Go.Sy.YteinjapglfkamaaGreat
open Go.Proofs
attribute [local irreducible] Go.Sy.G Go.Sy.DR
set_option maxRecDepth 100000
set_option maxHeartbeats 8000000
theorem Aqe {n:Net} (h:n.In):Dj n:=fun x hx=>by
 have:=(h.irbs.1 x hx).2.2.2.1
 simp only[wI,Lit.wf,decide_eq_true_eq,Bool.and_eq_true]at this
 exact⟨this.1,Int.lt_of_le_of_lt this.2 qy⟩
end Go.Sy.YteinjapglfkamaaGreat
