/-
  K15 K16 K17 K18 K19 K20 K21 K22 K23 K12 K13 K14 K24 K43 K44 Z5 Z6 Z7 Z8 Z9 Z10 Z11 Z12 Z13 Z14 Z15 Z16 H1 Z17 K45 Y1 Y2 T18 T20 T22 T23 T24 T26 T27 T28 T29 T30 T31 Y3 Y4 Y5 X2 Y6 Y8: parts of a proof, joined by program.
-/
import Derived.Test.YtiijbikecbjdaaaGreatDoorXU13
import Derived.Test.YtiijbikecbjdaaaGreatDoorXU5
import Derived.Test.YtiijbikecbjdaaaGreatDoorXU11
import Derived.Test.YtiijbikecbjdaaaGreatDoorXU9
import Derived.Tactics
import Derived.Tactics2
import Derived.Defers
import Derived.Laws.Pointers
import Derived.Laws.LoneSync
import Derived.RegionTactic
import Derived.RegionCalls
import Derived.ChangeAlike
import Derived.Laws.NewBlocks
import Derived.Test.YtiijbikecbjdaaaGreatDoorXU8
import Derived.Test.YtiijbikecbjdaaaGreatDoorXU10
import Derived.Test.YtiijbikecbjdaaaGreatDoorXU12
import Derived.Test.YtiijbikecbjdaaaGreatDoorXU4
import Derived.Test.YtiijbikecbjdaaaGreatDoorXU6
set_option linter.all false
set_option linter.unusedVariables false
set_option linter.unusedSimpArgs false
set_option linter.deprecated false
namespace Go.Sy.YtiijbikecbjdaaaGreatDoor
open Go.Proofs
attribute [local irreducible] Go.Sy.G Go.Sy.DR
set_option maxRecDepth 100000
set_option maxHeartbeats 4000000
theorem Ajq (l:List Int) (hl:l.length<2147483648):Sq 144 [.sl 1 Aa l] [] (.osl 0) [(0,.row 1 Aa l)]:=cT F144 Tryz.ntmps144 λ F hF=>by
 conv=>whnf
 refine Ds E (.inl E) E E E .sl E E ?_
 intro b hb
 cases b
 ·refine oF ?_
  refine Af (Ae Γ.toTy 7 E E E E E (.lit (e:=Aa) (l:=[]) E E) .sl y_ (by simp;omega) (by simp;omega)) E E ?_
  refine oO ?_
  exact done E (.cons .tmp .nil) [(0,7)] [(0,.row 1 Aa l)] (λ _ h=>h) E E ⟨Y,⟨.inl E,E,Y⟩,E,E⟩
 ·have h0:l=[]:=zU (hb rfl)
  subst h0
  refine oT ?_
  refine B9 2 1000 1 Aa E E ?_
  exact done E (.cons .tmp .nil) [(0,1000)] [(0,.row 1 Aa [])] (λ _ h=>h) E E ⟨Y,⟨.inl E,E,Y⟩,E,E⟩
theorem Abx (l:List Int) (p:Int→Bool) (f:FuncId) (first cap:List SV) (hc:(SV.clo (.func f) first cap).inn []=true) (hc0:(SV.clo (.func f) first cap).inn [0]=true) (hf:∀ x∈l,D9 Tryz.prog f (first++[Aa x]++cap) (Ab (p x))) (hl:Ak l) :
  Sq 330 [.osl 0,.clo (.func f) first cap] [(0,.row 1 Aa l)] (.osl 1) [(0,.non),(1,.row 1 Aa (l.filter λ x=>!(p x)))]:=cT F330 Tryz.ntmps330 λ F hF=>by
 have qi:=Lt l p f first cap hc hf hl
 unfold Ak at hl
 have hin:∀ x:Int,By [] (first++[Aa x]++cap)=true:=λ x=>Cs hc rfl
 conv=>whnf
 refine Ar7 [0] qi F352 E (.cons (.row E E) (.cons (.refl _) .nil)) (by simp only[By,hc,vZ];rfl) E E ?_
 rcases Qi p l with ⟨h1,h2⟩ | ⟨i,hi,h1,h2,h3⟩
 ·rw[h1]
  have e1:(l.filter λ x=>!(p x))=l:=List.filter_eq_self.2 (λ x hx=>by simp[h2 x hx])
  rw[e1]
  refine oT ?_
  refine Aqy 0 1000 [0,4] E E j_ (by simp;exact⟨E,E⟩) ?_
  exact done E (.cons .tmp .nil) [(0,0),(1,1000)] _ (λ _ h=>h) E E ⟨Y,⟨.inl E,E,.inl E,E,Y⟩,E,E⟩
 obtain ⟨f1,f2⟩:=Ahp (λ x=>!(p x)) l i q_ (λ k hk hki=>by simp[h3 k hk hki])
 have g1:dfC (λ x=>!(p x)) l (i+1+0)=l:=by
  show dfC (λ x=>!(p x)) l (i+1)=l
  simp only[dfC,zO hi]
  rw[zD (by simp[h2]),f1]
 have g2:H3 (λ x=>!(p x)) l (i+1+0)=i:=by
  show H3 (λ x=>!(p x)) l (i+1)=i
  simp only[H3,zO hi]
  rw[zD (by simp[h2]),f2]
 rw[h1]
 refine oF ?_
 refine iW ?_
 refine A9 (l.length-(i+1)) (λ j=>[(0,.osl 0),(1,.clo (.func f) first cap),(5,Aa (H3 (λ x=>!(p x)) l (i+1+j))),(6,Aa ((i+1+j:Nat)))]) (λ j=>[(0,.row 1 Aa (dfC (λ x=>!(p x)) l (i+1+j)))]) []
  ⟨⟨rfl,rfl,A8 _,hc0,zG Aa (zG Int.ofNat g2),rfl,zG (λ z=>SV.val (.int .i64 z)) q_,rfl,trivial⟩,⟨.inl (zG (Ob.row 1 Aa) g1),rfl,trivial⟩,rfl,rfl⟩ ?_
 intro j hj
 have hcl:=Ab9 (λ x=>!(p x)) l (i+1+j)
 have hdl:=Wd (λ x=>!(p x)) l (i+1+j)
 have hget:=Ar6 (λ x=>!(p x)) l (i+1+j) (i+1+j) (yC _)
 have s1:∀ h:i+1+j<l.length,H3 (λ x=>!(p x)) l (i+1+(j+1))=if (!(p l[i+1+j]))=true then H3 (λ x=>!(p x)) l (i+1+j)+1 else H3 (λ x=>!(p x)) l (i+1+j):=λ hlt=>by
  show H3 (λ x=>!(p x)) l (i+1+j+1)=_
  simp only[H3,zO hlt]
 have s2:∀ h:i+1+j<l.length,dfC (λ x=>!(p x)) l (i+1+(j+1))=if (!(p l[i+1+j]))=true then (dfC (λ x=>!(p x)) l (i+1+j)).set (H3 (λ x=>!(p x)) l (i+1+j)) l[i+1+j] else dfC (λ x=>!(p x)) l (i+1+j):=λ hlt=>by
  show dfC (λ x=>!(p x)) l (i+1+j+1)=_
  simp only[dfC,zO hlt]
 have htk:=λ h=>Amw (λ x=>!(p x)) l (i+1+j) h
 obtain ⟨D,hD⟩:∃ D,dfC (λ x=>!(p x)) l (i+1+j)=D:=⟨_,rfl⟩
 obtain ⟨K,hK⟩:∃ K,H3 (λ x=>!(p x)) l (i+1+j)=K:=⟨_,rfl⟩
 rw[hD]at hdl hget s2 htk ⊢
 rw[hK]at hcl s1 s2 htk ⊢
 refine oO ?_
 constructor<;>intro h
 ·have hlt:i+1+j<l.length:=qA h
  have hfx:=hf l[i+1+j] (zJ hlt)
  have s1:=s1 hlt
  have s2:=s2 hlt
  rw[zO hlt,zO q_]at hget
  have hget:=Option.some.inj hget
  obtain ⟨x,hx⟩:∃ x,l[i+1+j]=x:=⟨_,rfl⟩
  rw[hx]at hfx s1 s2 hget
  refine oO ?_
  refine⟨by omega,by simp;omega,?_⟩
  conv=>whnf
  refine⟨E,by omega,?_⟩
  rw[show D[((i+1+j:Nat):Int).toNat]'q_=x from hget]
  conv=>whnf
  refine Dj hfx E E E (by simp only[hin];rfl) E E ?_
  cases hpx:p x
  ·rw[hpx]at s1 s2
   refine oT ?_
   refine⟨by omega,by simp;omega,?_⟩
   conv=>whnf
   refine⟨E,by omega,x,E,E,?_⟩
   conv=>whnf
   refine iW ?_
   refine iW ?_
   exact A2 [] q_ ⟨⟨E,E,A8 _,hc0,zG Aa (zG Int.ofNat s1),E,zG (λ z=>SV.val (.int .i64 z)) q_,E,Y⟩,⟨.inl (zG (Ob.row 1 Aa) s2),E,Y⟩,E,E⟩
  ·rw[hpx]at s1 s2
   refine oF ?_
   refine iW ?_
   exact A2 [] q_ ⟨⟨E,E,A8 _,hc0,zG Aa (zG Int.ofNat s1),E,zG (λ z=>SV.val (.int .i64 z)) q_,E,Y⟩,⟨.inl (zG (Ob.row 1 Aa) s2),E,Y⟩,E,E⟩
 ·have hend:i+1+j=l.length:=qB h
  have hne:D≠[]:=λ h=>by rw[h]at hdl;simp at hdl;omega
  have htk:=htk q_
  rw[show l.take (i+1+j)=l from xC q_]at htk
  refine Anl 0 [0] E hne (by simp;rfl) ?_
  intro b cap' hcap
  refine oO ?_
  refine Af (C4 Γ.toTy E E E E (.inr ⟨_,_,E,E⟩) (.inl ⟨E,E⟩) q_ q_) E E ?_
  refine oO ?_
  refine Af (Lu Γ.toTy 0 (k:=K) E E E E j_ E E E q_ q_) E E ?_
  refine oO ?_
  refine Af (C4 Γ.toTy E E E E (.inl ⟨E,E⟩) (.inr ⟨_,_,E,E⟩) q_ q_) E E ?_
  refine oO ?_
  refine Yw 0 1000 [4] K E E (by rw[zX];omega) (λ i hi=>?_) ?_
  ·rw[yD]at hi
   subst hi
   show SV.val (.slice (some (if cap'=0 then ⟨b,0,none⟩ else ⟨b,0 * 1,none⟩)) (K-0) (cap'-0))=_
   split<;>simp
  refine done E (.cons .tmp .nil) [(0,0),(1,1000)] _ (λ _ h=>h) E E ⟨Y,⟨.inl E,E,.inl ?_,E,Y⟩,E,E⟩
  rw[← htk]
  exact zG (Ob.row 1 Aa) (by rw[List.take_take,Nat.min_self])
def O0 (n:Net) (fw:List Bool) (at_ from_:Int) (ml:List Int):SV :=
 .agg [.sl 5 Au n.devices,.sl 7 A3 n.ports,.sl 3 Bw n.links,.sl 6 Ap n.domains,.sl 4 Az n.statics,.sl 4 Be n.floods,.sl 5 Ca n.vrfs,.sl 5 B3 n.irbs,.sl 1 Ab fw,Aa at_,Aa from_,.sl 1 Aa ml]
theorem Azr (n:Net) (fw:List Bool) (p:Int) (h0:0≤p) (hp:p<n.ports.length) (hl:(nth n.ports p).link<fw.length):Sp 329 [Al n,.sl 1 Ab fw,Aa p] (Ab (usableB n fw p)):=cT F329 Tryz.ntmps329 λ F hF=>by
 have hk:p.toNat<n.ports.length:=by omega
 have e1:nth n.ports p=n.ports[p.toNat]:=Aj hk
 have hu:=usableB.eq_1 n fw p
 generalize usableB n fw p=res at *
 rw[e1]at hu hl
 obtain ⟨q,hq⟩:∃ q,n.ports[p.toNat]'hk=q:=⟨_,rfl⟩
 rw[hq]at hu hl
 conv=>whnf
 refine⟨E,h0,hk,?_⟩
 rw[hq]
 conv=>whnf
 constructor<;>intro h
 ·rw[h,tN]at hu
  subst hu
  refine oO ?_
  exact dN
 ·rw[h,uP]at hu
  have h1:¬ q.link<0:=zT h
  have h2:q.link.toNat<fw.length:=by omega
  rw[zO h2]at hu
  refine oO ?_
  refine⟨E,by omega,h2,?_⟩
  conv=>whnf
  exact Aq E (.cons .tmp .nil) (zG Ab hu) E
theorem portsC (n:Net) (fw:List Bool) (at_ from_:Int) (ml:List Int) (p:Int) (h0:0≤p) (hp:p<n.ports.length) (hl:(nth n.ports p).link<fw.length) :
  Sp 328 [Aa p,.ref 1 (.ref 12 (O0 n fw at_ from_ ml) 0) 0] (Ab (decide (p=from_) || !(usableB n fw p))):=cT F328 Tryz.ntmps328 λ F hF=>by
 have q:=Azr n fw p h0 hp hl
 conv=>whnf
 constructor<;>intro h
 ·have h1:p=from_:=by simpa using h
  refine oD ?_
  refine kW ?_
  exact Aq E (.cons .tmp .nil) (zG Ab (by rw[zR h1,tN])) E
 ·have h1:¬ p=from_:=by simpa using h
  refine oD ?_
  refine cD q F329 ?_
  refine oD ?_
  refine kW ?_
  exact Aq E (.cons .tmp .nil) (zG Ab (by rw[zI h1,uP])) E
def Ase (n:Net) (fw:List Bool) (l:List Int):Prop:=∀ p∈l,0≤p∧p<n.ports.length∧(nth n.ports p).link<fw.length
theorem Ao7 (n:Net) (fw:List Bool) (at_ from_:Int) (ml l:List Int) (hl:Ak l) (hp:Ase n fw l) :
  Sp 272 [.ref 12 (O0 n fw at_ from_ ml) 0,.sl 1 Aa l] (.sl 1 Aa (E8 n fw from_ l)):=cT F272 Tryz.ntmps272 λ F hF=>by
 have q:=Abx l (λ p=>decide (p=from_) || !(usableB n fw p)) 328 [] [.ref 1 (.ref 12 (O0 n fw at_ from_ ml) 0) 0] rfl rfl (λ p h=>⟨⟨_,_,F328⟩,portsC n fw at_ from_ ml p (hp p h).1 (hp p h).2.1 (hp p h).2.2⟩) hl
 unfold Ak at hl
 conv=>whnf
 refine A7 2 1 (.ref 12 (O0 n fw at_ from_ ml) 0) E E E ?_
 refine oO ?_
 refine Af (Ad [(0,55)] E F144 (Ajq l hl) E Y E ⟨.inr E,Y⟩) E E ?_
 refine oO ?_
 refine Af (Ad [(0,55),(1,56)] E F330 q E ⟨E,Y⟩ E ⟨.inl E,.inr E,Y⟩) E E ?_
 refine oO ?_
 refine Ag 56 E ?_
 exact dN
theorem Arl (n:Net) (hn:n.Fin) (fw:List Bool) (dom from_:Int) (ml:List Int) (hd:An dom n.domains.length=true) :
  Sp 273 [.ref 12 (O0 n fw dom from_ ml) 0] (.sl 1 Aa (peersOut n dom from_)):=cT F273 Tryz.ntmps273 λ F hF=>by
 have hdi:=Cn hd
 have hd0:0≤dom:=hdi.1
 have hkd:dom.toNat<n.domains.length:=by omega
 have e2:nth n.domains dom=n.domains[dom.toNat]:=Aj hkd
 have hpe:=hn.peers _ (zJ hkd)
 have hres:=peersOut.eq_1 n dom from_
 generalize peersOut n dom from_=res at *
 rw[e2]at hres
 obtain ⟨d,hdd⟩:∃ d,n.domains[dom.toNat]'hkd=d:=⟨_,rfl⟩
 rw[hdd]at hres hpe
 have qc:=Ec d.peers hpe
 conv=>whnf
 constructor<;>intro h
 ·rw[zE (by simpa using h)]at hres
  subst hres
  refine oO ?_
  refine Am 2 1 Aa E ?_
  exact dN
 ·rw[zD (by simpa using h)]at hres
  subst hres
  refine oO ?_
  refine⟨E,hd0,hkd,?_⟩
  rw[hdd]
  conv=>whnf
  refine cD qc F144 ?_
  refine oD ?_
  refine kW ?_
  exact dN
def To (n:Net) (fw:List Bool) (dom:Int):Bool:=An dom n.domains.length && decide (fw.length=n.links.length) && Ac n
theorem Arf (n:Net) (hn:n.Fin) (fw:List Bool) (dom from_:Int) (h:To n fw dom=false) :
  Sp 271 [Al n,.sl 1 Ab fw,Aa dom,Aa from_] (.tup [.val (.pointer none),Ab false]):=cT F271 Tryz.ntmps271 λ F hF=>by
 have qr:=Ax n hn
 conv=>whnf
 constructor<;>intro h1
 ·(refine oT ?_;refine bT ?_;refine bT ?_)
  exact dN
 refine oO ?_
 constructor<;>intro h2
 ·(refine oT ?_;refine bT ?_)
  exact dN
 refine oO ?_
 constructor<;>intro h3
 ·refine oT ?_
  exact dN
 refine oO ?_
 refine c0 qr F24 ?_
 cases hbn:Ac n
 ·refine oT ?_
  exact dN
 ·exfalso
  have h4:An dom n.domains.length=true:=Mb ⟨by simp at h1;omega,by simp at h2;omega⟩
  have h5:fw.length=n.links.length:=by simp at h3;omega
  simp[To,h4,h5,hbn]at h
theorem Awl (n:Net) (hn:n.Fin) (fw:List Bool) (dom from_:Int) (h:To n fw dom=true) :
  Sp 271 [Al n,.sl 1 Ab fw,Aa dom,Aa from_] (.tup [.ref 12 (O0 n fw dom from_ (Bg n dom)) 0,Ab (decide (from_=-1) || decide (from_=-2) || inB (Bg n dom) from_)]):=cT F271 Tryz.ntmps271 λ F hF=>by
 have qr:=Ax n hn
 simp only[To,zH,zQ]at h
 obtain ⟨⟨hd,hfw⟩,hbn⟩:=h
 rw[hbn]at qr
 have hdi:=Cn hd
 have qm:=Mq n hn dom
 have qc:=Do (Cu n dom) from_ (Jf n hn dom)
 have hmt:Cu n dom=Bg n dom:=by rw[Cu,zE ⟨⟨hdi.1,hdi.2⟩,hbn⟩]
 rw[hmt]at qm qc
 generalize Bg n dom=ml at *
 conv=>whnf
 refine⟨λ h1=>yB h1 (by simp;omega),λ _=>?_⟩
 refine oO ?_
 refine⟨λ h1=>yB h1 (by simp;omega),λ _=>?_⟩
 refine oO ?_
 refine⟨λ h1=>yB h1 (by simp;omega),λ _=>?_⟩
 refine oO ?_
 refine c0 qr F24 ?_
 refine oF ?_
 refine cD qm F74 ?_
 refine oD ?_
 refine kW ?_
 constructor<;>intro h1
 ·have h2:from_=-1:=by simpa using h1
  refine A7 41 12 (O0 n fw dom from_ ml) E E E ?_
  refine oT ?_
  exact Aq E (.cons .tmp (.cons .tmp .nil)) (zG (λ z=>SV.tup [_,Ab z]) (by simp[h2])) E
 have h2:¬ from_=-1:=by simpa using h1
 refine A7 41 12 (O0 n fw dom from_ ml) E E E ?_
 refine oO ?_
 constructor<;>intro h3
 ·have h4:from_=-2:=by simpa using h3
  refine oO ?_
  exact Aq E (.cons .tmp (.cons .tmp .nil)) (zG (λ z=>SV.tup [_,Ab z]) (by simp[h4])) E
 have h4:¬ from_=-2:=by simpa using h3
 refine oO ?_
 refine c0 qc F73 ?_
 refine oO ?_
 exact Aq E (.cons .tmp (.cons .tmp .nil)) (zG (λ z=>SV.tup [_,Ab z]) (by simp[h2,h4])) E
theorem Aip {n:Net} (hb:Ac n=true) {p:Int} (h0:0≤p) (hp:p<n.ports.length):(nth n.ports p).link<n.links.length:=by
 have hk:p.toNat<n.ports.length:=by omega
 have e1:nth n.ports p=n.ports[p.toNat]:=Aj hk
 rw[e1]
 by_cases hl:0≤n.ports[p.toNat].link
 ·have:=Km hb hk hl
  omega
 ·omega
theorem Ade {n:Net} {fw:List Bool} (hb:Ac n=true) (hf:fw.length=n.links.length) {l:List Int} (h:∀ p∈l,0≤p∧p<n.ports.length):Ase n fw l:=λ p hp =>
 ⟨(h p hp).1,(h p hp).2,by rw[hf];exact Aip hb (h p hp).1 (h p hp).2⟩
theorem Hg {n:Net} {dom:Int}:∀ p∈Bg n dom,0≤p∧p<n.ports.length:=λ p hp=>by
 rw[Bg,Uf]at hp
 exact⟨hp.1,hp.2.1⟩
theorem Mr {n:Net} (hn:n.Fin) (dom:Int):Ak (Bg n dom):=by
 have h1:=H2 (Vc n (nth n.domains dom)) n.ports.length
 have h2:=hn.ports
 unfold Ak at *
 rw[Bg]
 omega
theorem Sl (n:Net) (fw:List Bool) (dom from_:Int):Qv n fw dom from_=(To n fw dom && (decide (from_=-1) || decide (from_=-2) || inB (Bg n dom) from_)):=rfl
theorem floodS (n:Net) (hn:n.Fin) (fw:List Bool) (dom from_:Int) :
  Sp 198 [Al n,.sl 1 Ab fw,Aa dom,Aa from_] (.tup [.sl 1 Aa (floodT n fw dom from_).1,.sl 1 Aa (floodT n fw dom from_).2.1,Aa (floodT n fw dom from_).2.2]):=cT F198 Tryz.ntmps198 λ F hF=>by
 have hres:=floodT.eq_1 n fw dom from_
 generalize floodT n fw dom from_=res at *
 rw[Sl]at hres
 cases hbase:To n fw dom
 ·rw[hbase,yA,zE rfl]at hres
  subst hres
  have q:=Arf n hn fw dom from_ hbase
  conv=>whnf
  refine c0 q F271 ?_
  refine oT ?_
  refine Am 8 1 Aa E ?_
  refine Am 9 1 Aa E ?_
  exact dN
 rw[hbase,zZ]at hres
 have q:=Awl n hn fw dom from_ hbase
 have hb2:=hbase
 simp only[To,zH,zQ]at hb2
 obtain ⟨⟨hd,hfw⟩,hbn⟩:=hb2
 have qp:=Ao7 n fw dom from_ (Bg n dom) (Bg n dom) (Mr hn dom) (Ade hbn hfw Hg)
 have qe:=Arl n hn fw dom from_ (Bg n dom) hd
 generalize (decide (from_=-1) || decide (from_=-2) || inB (Bg n dom) from_)=ok at *
 generalize Bg n dom=ml at *
 conv=>whnf
 refine c0 q F271 ?_
 cases ok
 ·rw[zE rfl]at hres
  subst hres
  refine oT ?_
  refine Am 8 1 Aa E ?_
  refine Am 9 1 Aa E ?_
  exact dN
 rw[zD j_]at hres
 subst hres
 refine oF ?_
 refine c0 qp F272 ?_
 refine oO ?_
 refine c0 qe F273 ?_
 refine oO ?_
 exact dN
theorem Xy (l:List Static) (p:Static→Bool) (f:FuncId) (first cap:List SV) (hc:(SV.clo (.func f) first cap).inn []=true) (hf:∀ x∈l,D9 Tryz.prog f (first++[Az x]++cap) (Ab (p x))) (hl:Ak l) :
  Sp 369 [.sl 4 Az l,.clo (.func f) first cap] (Aa (Co p l)):=cT F369 Tryz.ntmps369 λ F hF=>by
 unfold Ak at hl
 have hin:∀ x:Static,By [] (first++[Az x]++cap)=true:=λ x=>Cs hc rfl
 conv=>whnf
 refine A5 l.length (λ j=>Hc (λ _ x=>!(p x)) l j) (λ j=>[(0,.sl 4 Az l),(1,.clo (.func f) first cap),(7,Aa l.length),(8,Aa j)]) (λ _=>[]) [] (Bj _ _) ⟨⟨E,E,A8 _,hc,E,E,E,E,Y⟩,Y,E,E⟩ ?_
 intro j hj hI
 refine oO ?_
 constructor<;>intro h
 ·have h:=zK h
  have hj2:j<l.length:=by omega
  refine oO ?_
  refine⟨E,by omega,by omega,?_⟩
  conv=>whnf
  refine Dj (hf l[j] (zJ hj2)) E E E (by simp only[hin];rfl) E E ?_
  refine oO ?_
  constructor<;>intro h2
  ·refine oO ?_
   refine Aq E (.cons .tmp .nil) (zG Aa ?_) E
   exact Cr hj2 (λ i hi hij=>by simpa using hI i hi hij) h2
  ·refine oO ?_
   refine iW ?_
   exact A4 [] hI hj2 (Bh hI hj2 (by simp[h2])) ⟨⟨E,E,A8 _,hc,E,E,E,E,Y⟩,Y,E,E⟩
 ·have h:=zT h
  refine oO ?_
  refine Aq E (.cons .tmp .nil) (zG Aa ?_) E
  exact C7 (λ i hi=>by simpa using hI i hi q_)
theorem entryC (dom:Int) (m:Nat) (s:Static):Sp 370 [Az s,.ref 1 (Aa dom) 0,.ref 1 (Bf m) 0] (Ab (decide (s.domain=dom) && decide (s.mac=(m:Int)))):=cT F370 Tryz.ntmps370 λ F hF=>by
 conv=>whnf
 constructor<;>intro h
 ·refine oO ?_
  refine Aq E (.cons .tmp .nil) (zG Ab ?_) E
  have h1:s.domain=dom:=by simpa using h
  rw[zR h1,zZ,wA]
  simp
 ·refine oO ?_
  refine Aq E (.cons .tmp .nil) (zG Ab ?_) E
  have h1:¬ s.domain=dom:=by simpa using h
  rw[zI h1,yA]
theorem entryI (n:Net) (hn:n.Fin) (dom:Int) (m:Nat):Sp 306 [Al n,Aa dom,Bf m] (Aa (En n dom m)):=cT F306 Tryz.ntmps306 λ F hF=>by
 have q:=Xy n.statics (λ s:Static=>decide (s.domain=dom) && decide (s.mac=(m:Int))) 370 [] [.ref 1 (Aa dom) 0,.ref 1 (Bf m) 0] rfl (λ x _=>⟨⟨_,_,F370⟩,entryC dom m x⟩) hn.statics
 conv=>whnf
 refine A7 4 1 (Aa dom) E E E ?_
 refine A7 5 1 (Bf m) E E E ?_
 refine oO ?_
 refine c0 q F369 ?_
 refine oO ?_
 exact dN
def staticP (n:Net) (dom:Int) (m:Nat):Int:=if 0≤En n dom m then (nth n.statics (En n dom m)).port else -1
theorem Aqj (n:Net) (hn:n.Fin) (hb:Ac n=true) (dom:Int) (m:Nat):Sp 343 [Al n,Aa dom,Bf m] (Aa (staticP n dom m)):=cT F343 Tryz.ntmps343 λ F hF=>by
 have q:=entryI n hn dom m
 have qr:=Ax n hn
 rw[hb]at qr
 have hlt:En n dom m<n.statics.length:=Hk _ _
 have hres:=staticP.eq_1 n dom m
 generalize staticP n dom m=res at *
 generalize En n dom m=i at *
 conv=>whnf
 refine c0 q F306 ?_
 refine oO ?_
 constructor<;>intro h
 ·rw[zD (by simp at h;omega)]at hres
  subst hres
  refine oT ?_
  exact dN
 ·have h0:0≤i:=by simp at h;omega
  have hk:i.toNat<n.statics.length:=by omega
  have e1:nth n.statics i=n.statics[i.toNat]:=Aj hk
  rw[zE h0,e1]at hres
  refine oO ?_
  refine c0 qr F24 ?_
  refine oF ?_
  refine⟨E,h0,hk,?_⟩
  conv=>whnf
  exact Aq E (.cons .tmp .nil) (zG Aa hres) E
def knownT (n:Net) (fw:List Bool) (t:List EntryM) (dom from_:Int) (m:Nat):List Int × List Int × Bool :=
 if 0≤staticP n dom m then (E8 n fw from_ [staticP n dom m],[],true)
 else if (findE t m).2=false then ([],[],false)
 else if 0≤(findE t m).1∧inB (Bg n dom) (findE t m).1=true then (E8 n fw from_ [(findE t m).1],[],true)
 else if (findE t m).1<0∧inB (nth n.domains dom).peers (-1-(findE t m).1)=true then (if from_=-1 then ([],[],true) else ([],[-1-(findE t m).1],true))
 else ([],[],false)
theorem Z7 {n:Net} (hb:Ac n=true) (dom:Int) (m:Nat) (h:0≤staticP n dom m):staticP n dom m<n.ports.length:=by
 unfold staticP at h ⊢
 split at h
 ·rename_i h0
  rw[zE h0]
  have hlt:En n dom m<n.statics.length:=Hk _ _
  have hk:(En n dom m).toNat<n.statics.length:=by omega
  simp only[Ac,zH]at hb
  have:=allB_iff.1 hb.1.1.1.2 _ hk
  simp only[T0,zH,An,zQ]at this
  rw[Aj hk]
  exact this.1.1.2.2
 ·omega
theorem knownS (n:Net) (hn:n.Fin) (fw:List Bool) (t:List EntryM) (dom from_:Int) (m:Nat) (hl:Ak t) (hw:I64 (-1-(findE t m).1)) (hbase:To n fw dom=true) :
  Sp 280 [.ref 12 (O0 n fw dom from_ (Bg n dom)) 0,.sl 3 Bc t,Bf m] (.tup [.sl 1 Aa (knownT n fw t dom from_ m).1,.sl 1 Aa (knownT n fw t dom from_ m).2.1,Ab (knownT n fw t dom from_ m).2.2]):=cT F280 Tryz.ntmps280 λ F hF=>by
 simp only[To,zH,zQ]at hbase
 obtain ⟨⟨hd,hfw⟩,hbn⟩:=hbase
 have hdi:=Cn hd
 have hd0:0≤dom:=hdi.1
 have hkd:dom.toNat<n.domains.length:=by omega
 have e2:nth n.domains dom=n.domains[dom.toNat]:=Aj hkd
 have hpe:=hn.peers _ (zJ hkd)
 have hres:=knownT.eq_1 n fw t dom from_ m
 have qs:=Aqj n hn hbn dom m
 have hsp:=Z7 hbn dom m
 have qf:=Av1 t m hl
 have qp:∀ p:Int,0≤p→p<n.ports.length→_:=λ p h0 h1=>Ao7 n fw dom from_ (Bg n dom) [p] (by unfold Ak;simp) (Ade hbn hfw (l:=[p]) (λ x hx=>by rw[yD]at hx;subst hx;exact⟨h0,h1⟩))
 have hmem:∀ p,inB (Bg n dom) p=true→0≤p∧p<n.ports.length:=λ p hp=>Hg p (inB_mem.1 hp)
 have qc:=λ x=>Do (Bg n dom) x (Mr hn dom)
 rw[e2]at hres
 obtain ⟨d,hdd⟩:∃ d,n.domains[dom.toNat]'hkd=d:=⟨_,rfl⟩
 rw[hdd]at hres hpe
 have qc2:=λ x=>Do d.peers x hpe
 generalize knownT n fw t dom from_ m=res at *
 generalize staticP n dom m=sp at *
 generalize findE t m=fe at *
 obtain ⟨w,ok⟩:=fe
 dsimp only at hres hw qf
 generalize Bg n dom=ml at *
 conv=>whnf
 refine cD qs F343 ?_
 refine oD ?_
 refine kW ?_
 constructor<;>intro h1
 ·have h2:0≤sp:=by simpa using h1
  rw[zE h2]at hres
  subst hres
  refine oO ?_
  refine Iw 25 Aa [sp] E E ?_
  refine Ag 25 E ?_
  refine c0 (qp sp h2 (hsp h2)) F272 ?_
  refine oO ?_
  refine Am 7 1 Aa E ?_
  exact dN
 have h2:¬ 0≤sp:=by simp at h1;omega
 rw[zD h2]at hres
 refine oO ?_
 refine c0 qf F344 ?_
 cases ok
 ·rw[zE rfl]at hres
  subst hres
  refine oT ?_
  refine Am 6 1 Aa E ?_
  refine Am 7 1 Aa E ?_
  exact dN
 rw[zD j_]at hres
 refine oF ?_
 constructor<;>intro h3
 ·have h4:0≤w:=by simpa using h3
  refine oO ?_
  refine c0 (qc w) F73 ?_
  cases hin:inB ml w
  ·rw[zD (by simp[hin]),zD q_]at hres
   subst hres
   refine oF ?_
   refine⟨λ h5=>yB h5 (by simp;omega),λ _=>?_⟩
   refine oD ?_
   refine⟨z_,?_⟩
   ((conv=>whnf);refine aF ?_;refine rg ?_;conv=>whnf)
   refine Am 6 1 Aa E ?_
   refine Am 7 1 Aa E ?_
   exact dN
  ·rw[zE ⟨h4,hin⟩]at hres
   subst hres
   refine oT ?_
   refine Iw 49 Aa [w] E E ?_
   refine Ag 49 E ?_
   refine c0 (qp w h4 (hmem w hin).2) F272 ?_
   refine oO ?_
   refine Am 7 1 Aa E ?_
   exact dN
 have h4:¬ 0≤w:=by simp at h3;omega
 rw[zD q_]at hres
 refine oF ?_
 refine⟨λ h5=>?_,λ h5=>yB h5 (by simp;omega)⟩
 refine oD ?_
 refine⟨E,hd0,hkd,?_⟩
 rw[hdd]
 conv=>whnf
 refine⟨hw,?_⟩
 conv=>whnf
 refine cD (qc2 (-1-w)) F73 ?_
 cases hin:inB d.peers (-1-w)
 ·rw[zD (by simp[hin])]at hres
  subst hres
  refine oD ?_
  refine⟨z_,?_⟩
  ((conv=>whnf);refine aF ?_;refine rg ?_;conv=>whnf)
  refine Am 6 1 Aa E ?_
  refine Am 7 1 Aa E ?_
  exact dN
 rw[zE ⟨by omega,hin⟩]at hres
 refine oD ?_
 refine⟨z_,?_⟩
 ((conv=>whnf);refine aT ?_;refine rg ?_;conv=>whnf)
 constructor<;>intro h6
 ·rw[zE (by simpa using h6)]at hres
  subst hres
  refine oO ?_
  refine Am 6 1 Aa E ?_
  refine Am 7 1 Aa E ?_
  exact dN
 ·rw[zD (by simpa using h6)]at hres
  subst hres
  refine oO ?_
  refine⟨hw,?_⟩
  conv=>whnf
  refine Am 6 1 Aa E ?_
  refine Iw 78 Aa [-1-w] E E ?_
  refine Ag 78 E ?_
  exact dN
theorem Wv {n:Net} (hb:Ac n=true) (dom:Int) (m:Nat):(0≤staticP n dom m↔0≤En n dom m)∧(0≤En n dom m→staticP n dom m=(nth n.statics (En n dom m)).port):=by
 refine⟨⟨λ h=>?_,λ h=>?_⟩,λ h=>by rw[staticP,zE h]⟩
 ·unfold staticP at h
  split at h
  ·assumption
  ·omega
 ·rw[staticP,zE h]
  have hlt:En n dom m<n.statics.length:=Hk _ _
  have hk:(En n dom m).toNat<n.statics.length:=by omega
  simp only[Ac,zH]at hb
  have:=allB_iff.1 hb.1.1.1.2 _ hk
  simp only[T0,zH,An,zQ]at this
  rw[Aj hk]
  exact this.1.1.2.1
theorem A02 {n:Net} {fw:List Bool} {t:List EntryM} {dom from_:Int} {m:Nat} (hb:Ac n=true) (hr:Qv n fw dom from_=true) (hg:Iu m=false) :
  Dn n fw t dom from_ m=if (knownT n fw t dom from_ m).2.2=true then ((knownT n fw t dom from_ m).1,(knownT n fw t dom from_ m).2.1,0) else (E8 n fw from_ (Bg n dom),peersOut n dom from_,0):=by
 obtain ⟨h1,h2⟩:=Wv hb dom m
 rw[Dn,zD (by rw[hr];decide),zD (by rw[hg];decide)]
 unfold knownT
 by_cases hs:0≤En n dom m
 ·rw[zE hs,zE (h1.2 hs),h2 hs];rfl
 rw[zD hs,zD (λ h=>hs (h1.1 h))]
 generalize findE t m=fe
 obtain ⟨w,ok⟩:=fe
 cases ok
 ·simp
 simp only[Bool.true_eq_false,if_false,true_and]
 by_cases ha:0≤w∧inB (Bg n dom) w=true
 ·rw[zE ha,zE ha];rfl
 rw[zD ha,zD ha]
 by_cases hc:w<0∧inB (nth n.domains dom).peers (-1-w)=true
 ·rw[zE hc,zE hc]
  split<;>rfl
 ·rw[zD hc,zD hc];rfl
theorem A03 (n:Net) (hn:n.Fin) (fw:List Bool) (t:List EntryM) (dom from_:Int) (m:Nat) (hl:Ak t) (hw:I64 (-1-(findE t m).1)) (hm64:m<18446744073709551616) :
  Sp 204 [Al n,.sl 1 Ab fw,.sl 3 Bc t,Aa dom,Aa from_,Bf m] (.tup [.sl 1 Aa (Dn n fw t dom from_ m).1,.sl 1 Aa (Dn n fw t dom from_ m).2.1,Aa (Dn n fw t dom from_ m).2.2]):=cT F204 Tryz.ntmps204 λ F hF=>by
 cases hbase:To n fw dom
 ·have hres:Dn n fw t dom from_ m=([],[],2):=by
   rw[Dn,zE (by rw[Sl,hbase];rfl)]
  rw[hres]
  have q:=Arf n hn fw dom from_ hbase
  refine fW ?_
  refine c0 q F271 ?_
  refine fU ?_
  refine Am 12 1 Aa E ?_
  refine Am 13 1 Aa E ?_
  exact dN
 have q:=Awl n hn fw dom from_ hbase
 have qk:=knownS n hn fw t dom from_ m hl hw hbase
 have qg:=Lo m hm64
 have hb2:=hbase
 simp only[To,zH,zQ]at hb2
 obtain ⟨⟨hd,hfw⟩,hbn⟩:=hb2
 have qp:=Ao7 n fw dom from_ (Bg n dom) (Bg n dom) (Mr hn dom) (Ade hbn hfw Hg)
 have qe:=Arl n hn fw dom from_ (Bg n dom) hd
 have hroom:=Sl n fw dom from_
 rw[hbase,zZ]at hroom
 have hbad:Qv n fw dom from_=false→Dn n fw t dom from_ m=([],[],2):=λ h=>by rw[Dn,zE h]
 have hgrp:Qv n fw dom from_=true→Iu m=true→Dn n fw t dom from_ m=(E8 n fw from_ (Bg n dom),peersOut n dom from_,0):=λ h h2=>by
  rw[Dn,zD (by rw[h];decide),zE h2]
 have hkn:=λ h h2=>@A02 n fw t dom from_ m hbn h h2
 generalize Dn n fw t dom from_ m=res at *
 generalize knownT n fw t dom from_ m=kn at *
 obtain ⟨kp,ke,ko⟩:=kn
 generalize Qv n fw dom from_=rm at *
 generalize (decide (from_=-1) || decide (from_=-2) || inB (Bg n dom) from_)=ok at *
 subst hroom
 generalize Bg n dom=ml at *
 dsimp only at hkn qk
 refine fW ?_
 refine c0 q F271 ?_
 cases rm
 ·rw[hbad rfl]
  refine fU ?_
  refine Am 12 1 Aa E ?_
  refine Am 13 1 Aa E ?_
  exact dN
 refine fU ?_
 refine c0 qg F195 ?_
 cases hg:Iu m
 ·have hkn:=hkn rfl hg
  refine fU ?_
  refine c0 qk F280 ?_
  cases ko
  ·rw[zD j_]at hkn
   subst hkn
   refine fU ?_
   refine c0 qp F272 ?_
   refine fU ?_
   refine c0 qe F273 ?_
   refine fU ?_
   exact dN
  ·rw[zE rfl]at hkn
   subst hkn
   refine fU ?_
   exact dN
 ·rw[hgrp rfl hg]
  refine fU ?_
  refine c0 qp F272 ?_
  refine fU ?_
  refine c0 qe F273 ?_
  refine fU ?_
  exact dN
theorem Ajt (t:List EntryM) (q:QueuedM) (now:Int) (ht:TabOK t) (hq:QueuedOK q):Sp 200 [.sl 3 Bc t,B1 q,Aa now] (.sl 3 Bc (learnQ t q now)):=cT F200 Tryz.ntmps200 λ F hF=>by
 have hres:=learnQ.eq_1 t q now
 generalize learnQ t q now=res at *
 have hl:=ht.short
 have hl2:=hl
 unfold Ak at hl2
 have hs:=hq.frame.src
 have h1:=hq.peer
 conv=>whnf
 constructor<;>intro h
 ·rw[zE (by simpa using h)]at hres
  subst hres
  refine oO ?_
  refine Af (Ad [(0,55)] E F211 (Tn res hl2) E Y E ⟨.inr E,Y⟩) E E ?_
  refine Ag 55 E ?_
  refine oO ?_
  exact dN
 rw[zD (by simpa using h)]at hres
 clear h
 refine oO ?_
 constructor<;>intro h
 ·rw[zE (by simpa using h)]at hres
  subst hres
  refine oO ?_
  refine iW ?_
  refine c0 (Agh t q.frame.src (-1-q.peer) now hl ht.mac q_) F276 ?_
  refine oO ?_
  exact dN
 rw[zD (by simpa using h)]at hres
 subst hres
 refine oO ?_
 refine c0 (Agh t q.frame.src q.from_ now hl ht.mac q_) F276 ?_
 refine oO ?_
 exact dN
def Atr (k p d:Int):OutM:=⟨k,p,d,[],noF,0⟩
theorem A0j (k p d:Int) (b:List UInt8) (e:Int):Xr (Atr k p d) (b,e)=if e≠0 then ⟨5,p,d,[],noF,e⟩ else ⟨k,p,d,b,noF,0⟩:=rfl
theorem Wg (l:List OutM) (k p d:Int) (b:List UInt8) (e:Int) (hl:l.length<100000000000) :
  Sq 203 [Ha (Atr k p d),.sl 1 Ah b,Aa e,.ptr 0 0] [(0,.box [.osl 1]),(1,.row 9 Ha l)] (.tup []) [(0,.box [.osl 2]),(1,.non),(2,.row 9 Ha (l++[Xr (Atr k p d) (b,e)]))]:=cT F203 Tryz.ntmps203 λ F hF=>by
 have hres:=A0j k p d b e
 generalize Xr (Atr k p d) (b,e)=res at *
 conv=>whnf
 constructor<;>intro h
 ·rw[zE (by simpa using h)]at hres
  refine oO ?_
  refine Azi 17 [Ha ⟨5,p,d,[],noF,e⟩] E (.cons (.agg vL) .nil) E ?_
  refine Af (Ae Γ.toTy 18 E E E E E (.row E) (.lit (e:=Ha) (l:=[res]) E (by rw[hres];rfl)) j_ (by simp;omega) (by simp;omega)) E E ?_
  refine oO ?_
  exact A1 E .nil [(2,18)] [(0,.box [.osl 2]),(1,.non),(2,.row 9 Ha (l++[res]))] (λ _ h=>h) E E ⟨Y,⟨.inl E,E,.inl E,E,.inl E,E,Y⟩,E,E⟩
 ·rw[zD (by simpa using h)]at hres
  refine oO ?_
  refine Af (Ae Γ.toTy 18 E E E E E (.row E) (.lit (e:=Ha) (l:=[res]) E (by rw[hres];rfl)) j_ (by simp;omega) (by simp;omega)) E E ?_
  refine oO ?_
  exact A1 E .nil [(2,18)] [(0,.box [.osl 2]),(1,.non),(2,.row 9 Ha (l++[res]))] (λ _ h=>h) E E ⟨Y,⟨.inl E,E,.inl E,E,.inl E,E,Y⟩,E,E⟩
theorem A0v {t:List EntryM} (ht:TabOK t) (m:Nat):I64 (findE t m).1:=by
 unfold findE
 split
 ·unfold I64;dsimp only;omega
 ·rename_i h
  have hlt:Hu t m<t.length:=Hk _ _
  have hk:(Hu t m).toNat<t.length:=by omega
  dsimp only
  rw[zO hk]
  exact ht.wh _ (zJ hk)
theorem K4 {n:Net} {fw:List Bool} {fr:Int} {l:List Int} {p:Int} (h:p∈E8 n fw fr l):p∈l:=(List.mem_filter.1 h).1
theorem Ajn {n:Net} (hb:Ac n=true) (fw:List Bool) (t:List EntryM) (dom fr:Int) (m:Nat):∀ p∈(Dn n fw t dom fr m).1,0≤p∧p<n.ports.length:=by
 intro p hp
 unfold Dn at hp
 split at hp
 ·cases hp
 split at hp
 ·exact Hg p (K4 hp)
 split at hp
 ·rename_i h1
  obtain ⟨hs1,hs2⟩:=Wv hb dom m
  have h2:=hs1.2 h1
  have h3:=Z7 hb dom m h2
  have h4:=yD.1 (K4 hp)
  rw[h4,← hs2 h1]
  exact⟨h2,h3⟩
 split at hp
 ·rename_i h1
  rw[yD.1 (K4 hp)]
  exact Hg _ (inB_mem.1 h1.2.2)
 split at hp
 ·cases hp
 ·exact Hg p (K4 hp)
theorem Aio (n:Net) (fw:List Bool) (fr:Int) (l:List Int):(E8 n fw fr l).length≤l.length:=List.length_filter_le _ _
theorem Air {n:Net} (hn:n.Fin) (dom fr:Int) (hd:An dom n.domains.length=true):(peersOut n dom fr).length<2147483648:=by
 unfold peersOut
 split
 ·decide
 ·have h:=Lm hd
  rw[Aj h.2]
  exact hn.peers _ (zJ h.2)
theorem Aeu {n:Net} (hn:n.Fin) (fw:List Bool) (t:List EntryM) (dom fr:Int) (m:Nat):(Dn n fw t dom fr m).1.length<2147483648∧(Dn n fw t dom fr m).2.1.length<2147483648:=by
 have h1:=Alu n dom
 have h2:=hn.ports
 unfold Ak at h2
 have h3:=λ l=>Aio n fw fr l
 unfold Dn
 split
 ·decide
 rename_i h
 have hd:An dom n.domains.length=true:=by
  cases hx:An dom n.domains.length
  ·exact yB (by rw[Qv,hx];rfl) h
  ·rfl
 have h4:=Air hn dom fr hd
 split
 ·have:=h3 (Bg n dom);exact⟨by dsimp only;omega,h4⟩
 split
 ·have:=h3 [(nth n.statics (En n dom m)).port];simp only[yN,xB]at this;exact⟨by dsimp only;omega,by show (0:Nat)<2147483648;decide⟩
 split
 ·have:=h3 [(findE t m).1];simp only[yN,xB]at this;exact⟨by dsimp only;omega,by show (0:Nat)<2147483648;decide⟩
 split
 ·refine⟨by show (0:Nat)<2147483648;decide,?_⟩
  dsimp only
  split<;>simp
 ·have:=h3 (Bg n dom);exact⟨by dsimp only;omega,h4⟩
theorem Am5 (n:Net) (hn:n.Fin) (hm0:n.Num) (fw:List Bool) (t:List EntryM) (dom:Int) (q:QueuedM) (now:Int) (ht:TabOK t) (hq:QueuedOK q) :
  Sp 148 [Al n,.sl 1 Ab fw,.sl 3 Bc t,Aa dom,B1 q,Aa now] (.tup [.sl 3 Bc (bridgeT n fw t dom q now).1,.sl 9 Ha (bridgeT n fw t dom q now).2.1,Aa (bridgeT n fw t dom q now).2.2]):=cT F148 Tryz.ntmps148 λ F hF=>by
 have hres:=bridgeT.eq_1 n fw t dom q now
 generalize bridgeT n fw t dom q now=res at *
 have qf:=floodS n hn fw dom q.from_
 have qr:=Y9 t ht.short ht.mac
 conv=>whnf
 refine A7 6 8 (Al n) E E E ?_
 refine A7 10 7 (B1 q) E E E ?_
 refine oO ?_
 cases hroom:Qv n fw dom q.from_
 ·rw[zE (.inl hroom)]at hres
  subst hres
  rw[floodT,zE hroom]at qf
  refine c0 qf F198 ?_
  (refine oT ?_;refine bT ?_)
  refine Ai 13 [.sl 9 Ha []] E (.cons .nil .nil) ?_
  refine Am 12 3 Bc E ?_
  exact dN
 rw[floodT,zD (by rw[hroom];decide)]at qf
 refine c0 qf F198 ?_
 refine oF ?_
 refine c0 qr F199 ?_
 cases htb:tableB t
 ·rw[zE (.inr htb)]at hres
  subst hres
  refine oT ?_
  refine Ai 13 [.sl 9 Ha []] E (.cons .nil .nil) ?_
  refine Am 12 3 Bc E ?_
  exact dN
 rw[zD (by simp[hroom,htb])]at hres
 have ql:=Ajt t q now ht hq
 have hu:=T8 ht hq now
 generalize learnQ t q now=u at *
 have qro:=Aj4 n hn hm0 dom q.frame.dst
 generalize routerT n dom q.frame.dst=ro at *
 obtain ⟨irb,ok⟩:=ro
 dsimp only at hres qro
 have hbn:Ac n=true:=by
  simp only[Qv,zH]at hroom
  exact hroom.1.2
 refine oF ?_
 refine c0 ql F200 ?_
 refine oO ?_
 refine c0 qro F201 ?_
 cases ok
 rotate_left
 ·rw[zE rfl]at hres
  have qh:=Atf n hn hm0 irb q.frame hq.frame
  generalize hopT n irb q.frame=hp at *
  obtain ⟨to,g,e⟩:=hp
  dsimp only at hres qh
  refine oT ?_
  refine c0 qh F202 ?_
  refine oO ?_
  constructor<;>intro h
  ·rw[zE (by simpa using h)]at hres
   subst hres
   refine oO ?_
   refine Ai 13 [.sl 9 Ha []] E (.cons .nil .nil) ?_
   exact dN
  ·rw[zD (by simpa using h)]at hres
   subst hres
   refine oO ?_
   refine kW ?_
   refine Azi 84 [Ha ⟨4,0,to,[],g,0⟩] E (.cons (.agg vL) .nil) E ?_
   refine Iw 84 Ha [⟨4,0,to,[],g,0⟩] E E ?_
   refine Ag 84 E ?_
   exact dN
 rw[zD j_]at hres
 have hs:=hq.frame.src
 have hd2:=hq.frame.dst
 have hfw:=A0v hu q.frame.dst
 have qd:=A03 n hn fw u dom q.from_ q.frame.dst hu.short (by unfold I64 at *;omega) q_
 have hports:=Ajn hbn fw u dom q.from_ q.frame.dst
 have hfew:=Aeu hn fw u dom q.from_ q.frame.dst
 generalize Dn n fw u dom q.from_ q.frame.dst=dc at *
 obtain ⟨ports,peers,e0⟩:=dc
 dsimp only at hres qd hports hfew
 obtain ⟨hf1,hf2⟩:=hfew
 refine oF ?_
 refine c0 qd F204 ?_
 refine oO ?_
 refine On 13 0 1000 9 Ha E E E E ?_
 refine A9 ports.length (λ j=>[(3,Aa dom),(6,.ref 8 (Al n) 0),(10,.ref 7 (B1 q) 0),(12,.sl 3 Bc u),(13,.ptr 13 0),(23,.clo (.func 203) [] [.ptr 13 0]),(25,.sl 1 Aa peers),(100,.sl 1 Aa ports),(101,Aa ports.length),(102,Aa j)])
  (λ j=>[(13,.box [.osl 1000]),(1000,.row 9 Ha ((ports.take j).map (Aft n dom q.frame)))]) [(13,13),(1000,1000)] ⟨⟨rfl,rfl,rfl,rfl,rfl,rfl,rfl,rfl,rfl,rfl,rfl,rfl,rfl,rfl,rfl,rfl,rfl,rfl,rfl,rfl,trivial⟩,⟨.inl rfl,rfl,.inl rfl,rfl,trivial⟩,rfl,rfl⟩ ?_
 intro j hj
 refine oO ?_
 constructor<;>intro h
 ·have hlt:j<ports.length:=qA h
  have hj0:((j:Nat):Int).toNat<ports.length:=by simpa using hlt
  obtain ⟨p,hp⟩:∃ p,ports[j]=p:=⟨_,rfl⟩
  have e1:ports[((j:Nat):Int).toNat]'hj0=p:=hp
  have hs:(ports.take (j+1)).map (Aft n dom q.frame)=(ports.take j).map (Aft n dom q.frame)++[Aft n dom q.frame p]:=by
   rw[zW hlt,vI,hp];rfl
  have hal:((ports.take j).map (Aft n dom q.frame)).length=j:=by rw[xJ,zX];omega
  have hpi:=hports p (by rw[← hp];exact zJ hlt)
  have hpk:p.toNat<n.ports.length:=by omega
  have ql:=Ax0 n hn p dom q.frame hq.frame
  have hop:Aft n dom q.frame p=Xr (Atr (if (nth n.ports p).link<0 then 1 else 2) p 0) ((leaveT n p dom q.frame).1,(leaveT n p dom q.frame).2):=rfl
  rw[hop,Aj hpk]at hs
  clear hop
  obtain ⟨acc,hacc⟩:∃ acc,(ports.take j).map (Aft n dom q.frame)=acc:=⟨_,rfl⟩
  rw[hacc]at hs hal ⊢
  obtain ⟨x,hx⟩:∃ x,n.ports[p.toNat]'hpk=x:=⟨_,rfl⟩
  rw[hx]at hs
  clear h
  refine oO ?_
  refine⟨E,by omega,hj0,?_⟩
  rw[e1]
  conv=>whnf
  refine⟨E,hpi.1,hpk,?_⟩
  rw[hx]
  conv=>whnf
  constructor<;>intro h
  ·rw[zD (qA h)]at hs
   refine oO ?_
   refine c0 ql F205 ?_
   refine oO ?_
   refine Af (Ki [(0,13),(1,1000),(2,1001)] [] (At E E F203) (Wg acc 2 p 0 (leaveT n p dom q.frame).1 (leaveT n p dom q.frame).2 q_) (.cons (.agg vL) vL) ⟨E,E,Y⟩ E ⟨.inl E,.inl E,.inr E,Y⟩ E) E E ?_
   refine oO ?_
   refine iW ?_
   exact A2 [(13,13),(1000,1001)] hlt ⟨⟨E,E,E,E,E,E,E,E,E,E,E,E,E,E,E,E,E,E,E,E,Y⟩,⟨.inl E,E,.inl (zG (Ob.row 9 Ha) hs),E,Y⟩,E,E⟩
  ·rw[zE (qB h)]at hs
   refine oO ?_
   refine c0 ql F205 ?_
   refine oO ?_
   refine Af (Ki [(0,13),(1,1000),(2,1001)] [] (At E E F203) (Wg acc 1 p 0 (leaveT n p dom q.frame).1 (leaveT n p dom q.frame).2 q_) (.cons (.agg vL) vL) ⟨E,E,Y⟩ E ⟨.inl E,.inl E,.inr E,Y⟩ E) E E ?_
   refine oO ?_
   refine iW ?_
   exact A2 [(13,13),(1000,1001)] hlt ⟨⟨E,E,E,E,E,E,E,E,E,E,E,E,E,E,E,E,E,E,E,E,Y⟩,⟨.inl E,E,.inl (zG (Ob.row 9 Ha) hs),E,Y⟩,E,E⟩
 have hjj:j=ports.length:=qB h
 subst hjj
 clear h
 rw[yG]
 obtain ⟨acc0,hacc0⟩:∃ acc0,ports.map (Aft n dom q.frame)=acc0:=⟨_,rfl⟩
 have hal0:acc0.length=ports.length:=by rw[← hacc0,xJ]
 rw[hacc0]at hres ⊢
 refine oO ?_
 refine A9 peers.length (λ j=>[(3,Aa dom),(6,.ref 8 (Al n) 0),(10,.ref 7 (B1 q) 0),(12,.sl 3 Bc u),(13,.ptr 13 0),(23,.clo (.func 203) [] [.ptr 13 0]),(130,.sl 1 Aa peers),(131,Aa peers.length),(132,Aa j)])
  (λ j=>[(13,.box [.osl 1000]),(1000,.row 9 Ha (acc0++(peers.take j).map (Aiv n dom q.frame)))]) [(13,13),(1000,1000)] ⟨⟨rfl,rfl,rfl,rfl,rfl,rfl,rfl,rfl,rfl,rfl,rfl,rfl,rfl,rfl,rfl,rfl,rfl,rfl,trivial⟩,⟨.inl rfl,rfl,.inl (zG (Ob.row 9 Ha) y_),rfl,trivial⟩,rfl,rfl⟩ ?_
 intro j hj
 refine oO ?_
 constructor<;>intro h
 ·have hlt:j<peers.length:=qA h
  have hj0:((j:Nat):Int).toNat<peers.length:=by simpa using hlt
  obtain ⟨p,hp⟩:∃ p,peers[j]=p:=⟨_,rfl⟩
  have e1:peers[((j:Nat):Int).toNat]'hj0=p:=hp
  have hs:acc0++(peers.take (j+1)).map (Aiv n dom q.frame)=(acc0++(peers.take j).map (Aiv n dom q.frame))++[Aiv n dom q.frame p]:=by
   rw[zW hlt,vI,hp,xQ];rfl
  have hal:(acc0++(peers.take j).map (Aiv n dom q.frame)).length≤ports.length+j:=by rw[yE,xJ,zX];omega
  have ql:=Apo n hn hm0 dom p q.frame hq.frame
  have hop:Aiv n dom q.frame p=Xr (Atr 3 0 p) ((meshT n dom p q.frame).1,(meshT n dom p q.frame).2):=rfl
  rw[hop]at hs
  clear hop
  obtain ⟨acc,hacc⟩:∃ acc,acc0++(peers.take j).map (Aiv n dom q.frame)=acc:=⟨_,rfl⟩
  rw[hacc]at hs hal ⊢
  clear h
  refine oO ?_
  refine⟨E,by omega,hj0,?_⟩
  rw[e1]
  conv=>whnf
  refine c0 ql F206 ?_
  refine oO ?_
  refine Af (Ki [(0,13),(1,1000),(2,1001)] [] (At E E F203) (Wg acc 3 0 p (meshT n dom p q.frame).1 (meshT n dom p q.frame).2 q_) (.cons (.agg vL) vL) ⟨E,E,Y⟩ E ⟨.inl E,.inl E,.inr E,Y⟩ E) E E ?_
  refine oO ?_
  refine iW ?_
  exact A2 [(13,13),(1000,1001)] hlt ⟨⟨E,E,E,E,E,E,E,E,E,E,E,E,E,E,E,E,E,E,Y⟩,⟨.inl E,E,.inl (zG (Ob.row 9 Ha) hs),E,Y⟩,E,E⟩
 have hjj:j=peers.length:=qB h
 subst hjj
 clear h
 rw[yG]
 subst hres
 refine oO ?_
 refine kW ?_
 refine Ag 1000 E ?_
 exact dN
theorem O5 {l:List QueuedM} (h:Is l):l.length<1000000∧Tw l:=⟨by have:=h.1;omega,λ q hq=>by have:=(h.2 q hq).frame.body;omega⟩
theorem Ab5 {α:Type} {l:List α} {i:Nat} (h:i<l.length) (d:α):(l[i]?).getD d=l[i]:=by
 rw[zO h];rfl
theorem placeB_iff {d:Int} {k:Nat}:An d k=true↔0≤d∧d.toNat<k:=by
 simp only[An,zH,zQ];omega
theorem As6 (n:Net) (m:MacM) (d:Bool) (dom:Int) (hl:Is (queueL m dom)) :
  Sq 38 [.ptr 0 0,Aa dom] (Dw n m d) (.sl 7 B1 (if An dom m.queues.length then queueL m dom else [])) (Dw n m d):=cT F38 Tryz.ntmps38 λ F hF=>by
 have h1:=Aq9 n m d dom
 have hpl:=placeB_iff (d:=dom) (k:=m.queues.length)
 generalize An dom m.queues.length=b at *
 have hb:=O5 hl
 have h2:=Adb _ (-1) hb.1 hb.2
 have h3:takeT (queueL m dom) (-1)=(noQ,queueL m dom,false):=by rw[takeT];exact zE (.inl j_)
 rw[h3]at h2
 clear h3 hb hl
 have hres:=queueL.eq_1 m dom
 generalize queueL m dom=res at *
 conv=>whnf
 refine Af (Ad [] E F85 h1 E ⟨E,E,E,E,Y⟩ E ⟨.inl E,.inl E,.inl E,.inl E,Y⟩) E E ?_
 refine oO ?_
 cases b
 ·(refine⟨λ _=>?_,λ h=>False.elim (yB h j_)⟩;refine rg ?_;conv=>whnf)
  refine Am 4 7 B1 E ?_
  exact done E (.cons .tmp .nil) [] (Dw n m d) (λ _ h=>h) E E ⟨Y,⟨.inl E,E,.inl E,E,.inl E,E,.inl E,E,Y⟩,E,E⟩
 have hd:=hpl.1 rfl
 have hlt:dom.toNat<m.queues.length:=hd.2
 rw[Ab5 hlt]at hres
 subst hres
 (refine⟨λ h=>False.elim (yB h j_),λ _=>?_⟩;refine rg ?_;conv=>whnf)
 refine⟨hd.1,by omega,?_⟩
 conv=>whnf
 refine⟨E,hlt,?_⟩
 conv=>whnf
 refine c0 h2 F86 ?_
 refine oO ?_
 exact done E (.cons .tmp .nil) [] (Dw n m d) (λ _ h=>h) E E ⟨Y,⟨.inl E,E,.inl E,E,.inl E,E,.inl E,E,Y⟩,E,E⟩
def Ui (m:MacM):Prop:=∀ i,0≤m.drops i∧m.drops i≤1000000000000
theorem Wz (n:Net) (m:MacM) (d:Bool) (dom:Int) (q:QueuedM) (e:Int) (he:0≤e∧e<64) (hd:e=0→0≤dom∧dom.toNat<m.queues.length) (hb:Ui m) (hl:Is (queueL m dom)) (hq:QueuedOK q) :
  Sq 147 [.ptr 0 0,Aa dom,B1 q,Aa e] (Dw n m d) (.tup []) (Dw n (comeM m dom q e) d):=cT F147 Tryz.ntmps147 λ F hF=>by
 have hqb:=O5 hl
 have hp:=Ak6 _ q hqb.1 hqb.2 (by have:=hq.frame.body;omega)
 have h1:=Amu n m d e he.1 he.2 (hb _)
 have h3:=Amu n m d 3 j_ j_ (hb _)
 have hres:=comeM.eq_1 m dom q e
 generalize comeM m dom q e=res at *
 conv=>whnf
 constructor<;>intro h
 ·rw[zE (by simpa using h)]at hres
  subst hres
  refine oO ?_
  refine Af (Ad [] E F150 h1 E ⟨E,E,E,E,Y⟩ E ⟨.inl E,.inl E,.inl E,.inl E,Y⟩) E E ?_
  refine oO ?_
  exact done E .nil [] (Dw n (C0 m e) d) (λ _ h=>h) E E ⟨Y,⟨.inl E,E,.inl E,E,.inl E,E,.inl E,E,Y⟩,E,E⟩
 have h0:e=0:=by simpa using h
 have hd:=hd h0
 rw[zD (by rw[h0];decide)]at hres
 clear h hqb h1 hl he
 have hq0:=queueL.eq_1 m dom
 rw[Ab5 hd.2]at hq0
 generalize queueL m dom=l at *
 generalize pushT l q=r at *
 obtain ⟨l2,ok⟩:=r
 subst hq0
 refine oO ?_
 refine⟨hd.1,hd.2,?_⟩
 conv=>whnf
 refine⟨E,hd.2,?_⟩
 conv=>whnf
 refine cD hp F197 ?_
 refine oD ?_
 refine kW ?_
 cases ok
 ·rw[zD y_]at hres
  subst hres
  (refine⟨λ _=>?_,λ h=>False.elim (by simp at h)⟩;refine rg ?_;conv=>whnf)
  refine Af (Ad [] E F150 h3 E ⟨E,E,E,E,Y⟩ E ⟨.inl E,.inl E,.inl E,.inl E,Y⟩) E E ?_
  refine oO ?_
  exact done E .nil [] (Dw n (C0 m 3) d) (λ _ h=>h) E E ⟨Y,⟨.inl E,E,.inl E,E,.inl E,E,.inl E,E,Y⟩,E,E⟩
 ·rw[zE rfl]at hres
  subst hres
  (refine⟨λ h=>False.elim (by simp at h),λ _=>?_⟩;refine rg ?_;conv=>whnf)
  refine⟨hd.1,hd.2,?_⟩
  conv=>whnf
  refine⟨E,hd.2,l2,E,E,?_⟩
  conv=>whnf
  exact A1 E .nil [] (Dw n (As9 m dom l2) d) (λ _ h=>h) E E ⟨Y,⟨.inl E,E,.inl E,E,.inl E,E,.inl E,E,Y⟩,E,E⟩
theorem Akp (n:Net) (m:MacM) (d:Bool) (dom at_:Int) (hl:Is (queueL m dom)) :
  Sq 82 [.ptr 0 0,Aa dom,Aa at_] (Dw n m d) (.tup [B1 (takeM m dom at_).2.1,Ab (takeM m dom at_).2.2]) (Dw n (takeM m dom at_).1 d):=cT F82 Tryz.ntmps82 λ F hF=>by
 have hqb:=O5 hl
 have hp:=Adb _ at_ hqb.1 hqb.2
 have h1:=Aq9 n m d dom
 have hpl:=placeB_iff (d:=dom) (k:=m.queues.length)
 have hres:=takeM.eq_1 m dom at_
 generalize takeM m dom at_=res at *
 generalize An dom m.queues.length=b at *
 have hq0:=queueL.eq_1 m dom
 clear hl hqb
 generalize queueL m dom=l at *
 generalize takeT l at_=r at *
 obtain ⟨q,l2,ok⟩:=r
 conv=>whnf
 refine Af (Ad [] E F85 h1 E ⟨E,E,E,E,Y⟩ E ⟨.inl E,.inl E,.inl E,.inl E,Y⟩) E E ?_
 refine oO ?_
 cases b
 ·rw[zE rfl]at hres
  subst hres
  (refine⟨λ _=>?_,λ h=>False.elim (yB h j_)⟩;refine rg ?_;conv=>whnf)
  refine Ai 6 [Aa 0,Aa 0,Aa 0,Bf 0,Bf 0,Aa 0,.sl 1 Ah []] E vL ?_
  exact done E (.cons (.cell E E E E) (.cons .tmp .nil)) [] (Dw n m d) (λ _ h=>h) E E ⟨Y,⟨.inl E,E,.inl E,E,.inl E,E,.inl E,E,Y⟩,E,E⟩
 have hd:=hpl.1 rfl
 rw[Ab5 hd.2]at hq0
 subst hq0
 rw[zD y_]at hres
 subst hres
 (refine⟨λ h=>False.elim (yB h j_),λ _=>?_⟩;refine rg ?_;conv=>whnf)
 refine⟨hd.1,hd.2,?_⟩
 conv=>whnf
 refine⟨E,hd.2,?_⟩
 conv=>whnf
 refine c0 hp F86 ?_
 refine oO ?_
 refine⟨hd.1,hd.2,?_⟩
 conv=>whnf
 refine⟨E,hd.2,l2,E,E,?_⟩
 conv=>whnf
 exact done E (.cons (.cell E E E E) (.cons .tmp .nil)) [] (Dw n (As9 m dom l2) d) (λ _ h=>h) E E ⟨Y,⟨.inl E,E,.inl E,E,.inl E,E,.inl E,E,Y⟩,E,E⟩
theorem Aom (n:Net) (hn:n.Fin) (m:MacM) (d:Bool) (J D:Int) (hm0:MacOK n m J D) (hJ:J<1000000000000) (hD:D≤1000000000000) (port:Int) (b:List UInt8) (hb:b.length<100000) :
  Sq 80 [.ptr 0 0,Aa port,.sl 1 Ah b] (Dw n m d) (.tup []) (Dw n (injectT n m port b) d):=cT F80 Tryz.ntmps80 λ F hF=>by
 have hres:=injectT.eq_1 n m port b
 generalize injectT n m port b=res at *
 have hpl:=placeB_iff (d:=port) (k:=n.ports.length)
 have hinj:=hm0.inj
 have hok:MacOK n ⟨m.up,m.tables,m.queues,m.now,m.injected+1,m.drops⟩ (J+1) D:=⟨hm0.up,hm0.tabs,hm0.ques,hm0.tab,hm0.que,hm0.now,⟨by dsimp only;omega,by dsimp only;omega⟩,hm0.drp⟩
 have hdr:Ui ⟨m.up,m.tables,m.queues,m.now,m.injected+1,m.drops⟩:=λ i=>⟨(hm0.drp i).1,by have:=(hm0.drp i).2;dsimp only at *;omega⟩
 have he:=Aem n port b
 have hdom:=Aen (n:=n) (port:=port) (b:=b)
 have q1:=Amp n hn port b hb
 have hfr:=Zw n port b
 generalize enterT n port b=r at *
 have q2:=λ (hp:0≤port∧port.toNat<n.ports.length)=>Wz n ⟨m.up,m.tables,m.queues,m.now,m.injected+1,m.drops⟩ d r.1 ⟨port,0,m.injected+1,r.2.1⟩ r.2.2 ⟨he.1,by have:=he.2;omega⟩ (λ h=>by
  have:=hdom h
  exact⟨this.1,by show r.1.toNat<m.queues.length;rw[hm0.ques];exact this.2⟩) hdr (Hy hok _) (I0 hfr _ ⟨by omega,by have:=hn.ports;unfold Ak at this;omega⟩ j_)
 conv=>whnf
 constructor<;>intro h
 ·have h:=zK h
  rw[zE (.inl (by cases hx:An port n.ports.length;rfl;exact yB (hpl.1 hx) q_))]at hres
  subst hres
  (refine oT ?_;refine bT ?_)
  (skip)
  exact done E .nil [] (Dw n res d) (λ _ h=>h) E E ⟨Y,⟨.inl E,E,.inl E,E,.inl E,E,.inl E,E,Y⟩,E,E⟩
 have h0:=zT h
 clear h
 refine oO ?_
 constructor<;>intro h
 ·have h:=zK h
  rw[zE (.inl (by cases hx:An port n.ports.length;rfl;exact yB (hpl.1 hx) q_))]at hres
  subst hres
  refine oT ?_
  (skip)
  exact done E .nil [] (Dw n res d) (λ _ h=>h) E E ⟨Y,⟨.inl E,E,.inl E,E,.inl E,E,.inl E,E,Y⟩,E,E⟩
 have h1:=zT h
 clear h
 have hp:0≤port∧port.toNat<n.ports.length:=by omega
 rw[hpl.2 hp,Aj hp.2]at hres
 obtain ⟨p,hpp⟩:∃ p,n.ports[port.toNat]'hp.2=p:=⟨_,rfl⟩
 rw[hpp]at hres
 refine oO ?_
 refine⟨E,hp.1,hp.2,?_⟩
 rw[hpp]
 conv=>whnf
 constructor<;>intro h
 ·have h:=zK h
  rw[zE (.inr h)]at hres
  subst hres
  refine oO ?_
  exact done E .nil [] (Dw n res d) (λ _ h=>h) E E ⟨Y,⟨.inl E,E,.inl E,E,.inl E,E,.inl E,E,Y⟩,E,E⟩
 have h2:=zT h
 clear h
 rw[zD (by simp;omega)]at hres
 subst hres
 refine oO ?_
 refine iW ?_
 refine c0 q1 F146 ?_
 refine oO ?_
 refine Br (Ad [] E F147 (q2 hp) E ⟨E,E,E,E,Y⟩ E ⟨.inl E,.inl E,.inl E,.inl E,Y⟩) z_ E ?_
 refine oD ?_
 refine kW ?_
 refine A1 E .nil [] (Dw n (comeM _ _ _ _) d) (λ _ h=>h) E E ⟨Y,⟨.inl E,E,.inl E,E,.inl E,E,.inl E,E,Y⟩,E,E⟩
theorem Acs (n:Net) (hn:n.Fin) (m:MacM) (d:Bool) (J D:Int) (hm0:MacOK n m J D) (hD:D≤1000000000000) (o:OutM) (ho:OutOK n o) (origin:Int) :
  Sq 151 [.ptr 0 0,Ha o,Aa origin] (Dw n m d) (.sl 3 E2 (goesM n m o origin).2) (Dw n (goesM n m o origin).1 d):=cT F151 Tryz.ntmps151 λ F hF=>by
 have hres:=goesM.eq_1 n m o origin
 generalize goesM n m o origin=res at *
 have hdr:Ui m:=λ i=>⟨(hm0.drp i).1,by have:=(hm0.drp i).2;omega⟩
 have hbl:o.bytes.length<100000:=by have:=ho.bytes;omega
 have hin:∀ {x:Int},DomIn n x→0≤x∧x.toNat<m.queues.length:=λ h=>by rw[hm0.ques];exact h
 conv=>whnf
 constructor<;>intro h
 ·have h1:o.kind=1:=by simpa using h
  rw[zE h1]at hres
  subst hres
  refine oO ?_
  refine Iw 34 E2 [⟨o.port,origin,o.bytes⟩] E E ?_
  refine Ag 34 E ?_
  exact done E (.cons .tmp .nil) [] (Dw n m d) (λ _ h=>h) E E ⟨Y,⟨.inl E,E,.inl E,E,.inl E,E,.inl E,E,Y⟩,E,E⟩
 have h1:¬ o.kind=1:=by simpa using h
 rw[zD h1]at hres
 clear h
 refine oO ?_
 constructor<;>intro h
 ·have h2:o.kind=2:=by simpa using h
  rw[zE h2]at hres
  have q1:=App n hn o.port o.bytes hbl
  have he:=At7 n o.port o.bytes
  have hd:=λ h=>hin (At8 (n:=n) (port:=o.port) (b:=o.bytes) h)
  have hf:=Al2 n o.port o.bytes
  have ht:=Al1 hn o.port o.bytes
  generalize linkT n o.port o.bytes=r at *
  have q2:=Wz n m d r.2.1 ⟨r.1,0,origin,r.2.2.1⟩ r.2.2.2 he hd hdr (Hy hm0 _) (I0 hf _ q_ j_)
  subst hres
  refine oO ?_
  refine cD q1 F209 ?_
  refine oD ?_
  refine kW ?_
  refine kW ?_
  refine Af (Ad [] E F147 q2 E ⟨E,E,E,E,Y⟩ E ⟨.inl E,.inl E,.inl E,.inl E,Y⟩) E E ?_
  refine oO ?_
  refine Am 6 3 E2 E ?_
  exact done E (.cons .tmp .nil) [] (Dw n (comeM _ _ _ _) d) (λ _ h=>h) E E ⟨Y,⟨.inl E,E,.inl E,E,.inl E,E,.inl E,E,Y⟩,E,E⟩
 have h2:¬ o.kind=2:=by simpa using h
 rw[zD h2]at hres
 clear h
 refine oO ?_
 constructor<;>intro h
 ·have h2:o.kind=3:=by simpa using h
  rw[zE h2]at hres
  have q1:=Apq n hn o.bytes hbl
  have he:=Auw n o.bytes
  have hd:=λ h=>hin (Ahu (n:=n) (b:=o.bytes) h).2
  have hf:=Amz n o.bytes
  have ht:=Aew hn o.bytes
  generalize comeT n o.bytes=r at *
  have q2:=Wz n m d r.2.1 ⟨-1,r.1,origin,r.2.2.1⟩ r.2.2.2 he hd hdr (Hy hm0 _) (I0 hf _ j_ ht)
  subst hres
  refine oO ?_
  refine cD q1 F210 ?_
  refine oD ?_
  refine kW ?_
  refine kW ?_
  refine Af (Ad [] E F147 q2 E ⟨E,E,E,E,Y⟩ E ⟨.inl E,.inl E,.inl E,.inl E,Y⟩) E E ?_
  refine oO ?_
  refine Am 6 3 E2 E ?_
  exact done E (.cons .tmp .nil) [] (Dw n (comeM _ _ _ _) d) (λ _ h=>h) E E ⟨Y,⟨.inl E,E,.inl E,E,.inl E,E,.inl E,E,Y⟩,E,E⟩
 have h3:¬ o.kind=3:=by simpa using h
 rw[zD h3]at hres
 clear h
 refine oO ?_
 constructor<;>intro h
 ·have h4:o.kind=4:=by simpa using h
  rw[zE h4]at hres
  have hf:=ho.frame h4
  have q2:=Wz n m d o.domain ⟨-2,0,origin,o.frame⟩ 0 j_ (λ _=>hin hf.2) hdr (Hy hm0 _) (I0 hf.1 _ j_ j_)
  subst hres
  refine oO ?_
  refine Af (Ad [] E F147 q2 E ⟨E,E,E,E,Y⟩ E ⟨.inl E,.inl E,.inl E,.inl E,Y⟩) E E ?_
  refine oO ?_
  refine Am 6 3 E2 E ?_
  exact done E (.cons .tmp .nil) [] (Dw n (comeM _ _ _ _) d) (λ _ h=>h) E E ⟨Y,⟨.inl E,E,.inl E,E,.inl E,E,.inl E,E,Y⟩,E,E⟩
 have h4:¬ o.kind=4:=by simpa using h
 rw[zD h4]at hres
 have h5:o.kind=5:=by have:=ho.kind;omega
 have he:=ho.err h5
 have q2:=Amu n m d o.error he.1 he.2 (hdr _)
 subst hres
 clear h
 refine oO ?_
 refine Af (Ad [] E F150 q2 E ⟨E,E,E,E,Y⟩ E ⟨.inl E,.inl E,.inl E,.inl E,Y⟩) E E ?_
 refine oO ?_
 refine Am 6 3 E2 E ?_
 exact done E (.cons .tmp .nil) [] (Dw n (C0 m o.error) d) (λ _ h=>h) E E ⟨Y,⟨.inl E,E,.inl E,E,.inl E,E,.inl E,E,Y⟩,E,E⟩
def Alj (up:List Bool) (dn lk:Int) (fw:List Bool):List SV:=[.sl 1 Ab up,.val (.int .u32 dn),.val (.int .i32 lk),.val (.int .u32 0),.sl 1 Ab fw]
def Ur (n:Net) (up:List Bool) (dn lk:Int) (fw:List Bool):Obs:=[(1,.box (Alj up dn lk fw)),(2,.box [.ptr 1 0]),(3,.box (Cw n))]
theorem Atu (n:Net) (hn:n.Fin) (up fw:List Bool) (dn lk:Int) :
  Sq 207 [.ptr 3 0,.ptr 2 0] (Ur n up dn lk fw) (.tup []) (Ur n up dn lk (Of n up)):=cT F207 Tryz.ntmps207 λ F hF=>by
 have hf:∃ e,Sp 78 [Al n,.sl 1 Ab up] (.tup [.sl 1 Ab (Of n up),Aa e]):=by
  unfold Of
  split
  ·rename_i h;exact⟨0,Ahi n up hn h⟩
  ·rename_i h;exact⟨2,Aee n up hn (by simpa using h)⟩
 obtain ⟨e,hf⟩:=hf
 generalize Of n up=r at *
 conv=>whnf
 refine cD hf F78 ?_
 refine oD ?_
 refine kW ?_
 exact A1 E .nil [] (Ur n up dn lk r) (λ _ h=>h) E E ⟨Y,⟨.inl E,E,.inl E,E,.inl E,E,Y⟩,E,E⟩
theorem Axu (a:Addr) (x:Int) (w:World) (hc:w.cell? a=some (.int .u32 x)):(callFunc 229 #[.pointer (some a)]).run Tryz.prog w=.ok (.value (.int .u32 x)) w :=
 run_call_load Tryz.func229 z_ z_ z_ .u32 z_ hc
theorem Agt (n:Net) (up fw:List Bool) (dn lk:Int):Sq 172 [.ptr 1 1] (Ur n up dn lk fw) (Ab (dn != 0)) (Ur n up dn lk fw):=cT F172 Tryz.ntmps172 λ F hF=>by
 conv=>whnf
 refine Af (Ve Axu E E E E) E E ?_
 refine oO ?_
 exact done E (.cons .tmp .nil) [] (Ur n up dn lk fw) (λ _ h=>h) E E ⟨Y,⟨.inl E,E,.inl E,E,.inl E,E,Y⟩,E,E⟩
theorem Xb (w:World):(callFunc 357 #[]).run Tryz.prog w=.ok (.value (.tuple #[])) w:=run_call_mark0 Tryz.func357 z_ z_ z_ .disable z_ w
theorem Aag (w:World):(callFunc 359 #[]).run Tryz.prog w=.ok (.value (.tuple #[])) w:=run_call_mark0 Tryz.func359 z_ z_ z_ .enable z_ w
theorem Ail (a:Addr) (w:World):(callFunc 360 #[.pointer (some a)]).run Tryz.prog w=.ok (.value (.tuple #[])) w:=run_call_marked Tryz.func360 z_ z_ z_ .acquire z_ a w
theorem Aik (a:Addr) (w:World):(callFunc 362 #[.pointer (some a)]).run Tryz.prog w=.ok (.value (.tuple #[])) w:=run_call_marked Tryz.func362 z_ z_ z_ .releaseMerge z_ a w
theorem Aco (a:Addr) (x:Value) (u:FrameMode) (w:World) (hc:w.cell? a=some x) (hz:w.frozen? a=false) :
  CallsD Tryz.prog 232 #[.pointer (some a),.bool true] u w λ e u' w'=>u'=u∧(e=.returned (.tuple #[])∧w'=w.drew.setCell a (.int .u32 1)):=by
 have hc':w.drew.cell? a=some x:=by go_simp
 have hz':w.drew.frozen? a=false:=by go_simp
 have hst:=run_call_store (P:=Tryz.prog) Tryz.func298 z_ z_ z_ z_ (k:=.u32) (y:=1) hc' hz'
 go_enter_d Tryz.func232,Tryz.ntmps232
 go_wp2
 go_region_calls
 all_goals (go_end0;exact⟨rfl,rfl⟩)
theorem Abo (a:Addr) (u:FrameMode) (w:World) (hc:w.cell? a=some (.int .i32 1)) (hz:w.frozen? a=false) :
  CallsD Tryz.prog 231 #[.pointer (some a)] u w λ e u' w'=>u'=u∧(e=.returned (.tuple #[])∧w'=w.setCell a (.int .i32 0)):=by
 have hd:=Xb
 have he:=Aag
 have hr:=Aik
 have hadd:=run_call_add (P:=Tryz.prog) Tryz.func363 z_ z_ z_ .i32 z_ (y:=-1) (s:=0) hc hz (by simp[go_sem];rfl)
 have hcv:=run_convert_to_unsafe (P:=Tryz.prog) (src:=485) (dst:=489) Tryz.underlying485 Tryz.underlying489 z_ hc
 go_enter_d Tryz.func231,Tryz.ntmps231
 go_wp2
 go_end0
 go_wp2
 go_end0
 exact⟨E,E⟩
theorem At6 (a:Addr) (w:World) (hc:w.cell? a=some (.int .i32 0)) (hz:w.frozen? a=false) :
  Calls Tryz.prog 230 #[.pointer (some a)] w λ e w'=>e=.returned (.tuple #[])∧w'=w.setCell a (.int .i32 1):=by
 have hd:=Xb
 have he:=Aag
 have ha:=Ail
 have hcas:=run_call_cas_hit (P:=Tryz.prog) Tryz.func358 z_ z_ z_ .i32 z_ (y:=1) hc hz
 have hc':(w.setCell a (.int .i32 1)).cell? a=some (.int .i32 1):=World.cell?_setCell_same w a _ hc
 have hcv:=run_convert_to_unsafe (P:=Tryz.prog) (src:=485) (dst:=489) Tryz.underlying485 Tryz.underlying489 z_ hc'
 go_enter Tryz.func230,Tryz.ntmps230
 go_wp2
 first | go_end0 | (simp only[Exit.inBlock,Exit.then];refine bodyPost_ret (results_none rfl _ _ _) rfl ?_) | refine bodyPost_ret (results_none rfl _ _ _) rfl ?_
 go_wp2
 go_end0
 exact⟨E,E⟩
end Go.Sy.YtiijbikecbjdaaaGreatDoor
namespace Go.Sy.YtiijbikecbjdaaaGreatDoor
open Go.Proofs
set_option maxRecDepth 100000
set_option maxHeartbeats 4000000
theorem Ctx.behind {K:Nat→Prop} {κ κ2:Ka} {w w1 w2:World} (s:Step K κ w κ w1) (c:Ctx ⟨w1,κ,[]⟩ κ2 w2):Ctx ⟨w,κ,[]⟩ κ2 w2 where
 size:=wJ s.size c.size
 os:=c.os.trans s.os
 tape:=c.tape.trans s.tape
 output:=c.output.trans s.output
 M:=c.M
 old:=λ b hb h=>by
  refine(c.old b (yS hb s.size) h).trans ?_
  by_cases hm:κ.M b
  ·exact s.mkeep b hm
  ·exact s.blk b hb (λ ho=>by
    rcases ho with ⟨k,hk⟩ | ho
    ·exact h k hk
    ·exact hm ho)
 own:=λ k b hk=>by
  rcases c.own k b hk with h | h
  ·exact .inl (wJ s.size h)
  ·exact .inr h
 nam:=c.nam
theorem Aur {κ:Ka} {w:World} (hi:Inv κ w):Step (λ _=>False) κ w κ w.drew∧Inv κ w.drew:=by
 have g:=Grew.drew w
 exact⟨⟨g.size,g.os,g.tape,g.output,E,λ b _=>rfl,λ b _ _=>rfl,λ _ _ _ _=>rfl,λ _ _=>rfl,λ _ h=>h.elim,λ _ h=>.inl h⟩,⟨hi.inj,hi.bnd,hi.apart,hi.mbnd⟩⟩
theorem Att (n:Net) (hn:n.Fin) (up fw:List Bool) :
  Sq 173 [.ptr 1 1,.clo (.func 207) [] [.ptr 3 0,.ptr 2 0]] (Ur n up 0 0 fw) (.tup []) (Ur n up 1 0 (Of n up)):=by
 intro κ w vs hi hnew hvs hok
 have o1:=hok (1,.box (Alj up 0 0 fw)) (by simp[Ur])
 have o2:=hok (2,.box [.ptr 1 0]) (by simp[Ur])
 have o3:=hok (3,.box (Cw n)) (by simp[Ur])
 obtain ⟨b,e1,c1,c2,st1,inv1,ob1⟩:=Dk (off:=2) (x:=.val (.int .i32 1)) (v:=.int .i32 1) hi o1 rfl (λ _ _=>by simp only[Rd]) rfl
 obtain ⟨b2,_,_,_,e2,_⟩:=id o2
 obtain ⟨b3,_,_,_,e3,_⟩:=id o3
 simp only[RdL,Rd,e1,e2,e3]at hvs
 obtain ⟨v0,r0,rfl,rfl,v1,r1,rfl,⟨fs,cs,rfl,hfs,hcs⟩,rfl⟩:=hvs
 subst hfs
 obtain ⟨p3,q3,rfl,rfl,p2,q2,rfl,rfl,rfl⟩:=hcs
 have hcl:=Atu n hn up fw 0 1 κ (w.setCell ⟨b,2,none⟩ (.int .i32 1)) [.pointer (some ⟨b3,0,none⟩),.pointer (some ⟨b2,0,none⟩)] inv1 hnew (by simp only[RdL,Rd,e2,e3];exact⟨_,_,rfl,rfl,_,_,rfl,rfl,rfl⟩) (λ p hp=>by
  simp only[Ur,yI,xG,vM]at hp
  rcases hp with rfl | rfl | rfl
  ·exact ob1
  ·exact ObOK.step st1 (show ¬ (2:Nat)=1 by decide) _ o2
  ·exact ObOK.step st1 (show ¬ (3:Nat)=1 by decide) _ o3)
 obtain ⟨u1,hu1,hr1⟩:=c1 1 (.val (.int .u32 0)) rfl
 obtain ⟨u2,hu2,hr2⟩:=c1 2 (.val (.int .i32 0)) rfl
 rw[hr1.val]at hu1
 rw[hr2.val]at hu2
 have f1:=c2 1 (show 1<5 by decide)
 have f2:=c2 2 (show 2<5 by decide)
 have hl:=Axu ⟨b,1,none⟩ 0 (w.setCell ⟨b,2,none⟩ (.int .i32 1)) ((World.cell?_setCell_other _ ⟨b,2,none⟩ ⟨b,1,none⟩ _ y_).trans hu1)
 have hnot:∀ (x:Bool) (w:World),(Op.unary .not (.bool x)).run Tryz.prog w=.ok (.bool (!x)) w:=λ _ _=>rfl
 go_enter_defers Tryz.func173,Tryz.ntmps173
 go_wp2_with (first | (go_at_call 230;refine(At6 ⟨b,2,none⟩ _ (by assumption) (by assumption)).mono ?_;rintro e w' ⟨rfl,rfl⟩) | (go_at_call 207;refine hcl.mono ?_;rintro e w' ⟨v,κ2,rfl,hc2,hi2,hv2,ok2⟩) | (go_at_call 172;go_in))
 have p1:=ok2 (1,.box (Alj up 0 1 (Of n up))) (by simp[Ur])
 have k1:κ2 1=.blk b:=by
  obtain ⟨bb,_,_,_,q1,_⟩:=id p1
  rcases hc2.nam 1 (by rw[e1];intro h;cases h) with h | h
  ·rw[h];exact e1
  ·rw[h]at q1;cases q1
 obtain ⟨ba,a1,a2,a3,_,_,_⟩:=Dk (off:=1) (x:=.val (.int .u32 1)) (v:=.int .u32 1) hi2 p1 rfl (λ _ _=>by simp only[Rd]) rfl
 rw[k1]at a1
 cases a1
 obtain ⟨std,invd⟩:=Aur hi2
 have p2:=ObOK.step std (k:=1) (λ h=>h) _ p1
 obtain ⟨ba,a1,_,_,st3,inv3,ob3⟩:=Dk (off:=1) (x:=.val (.int .u32 1)) (v:=.int .u32 1) invd p2 rfl (λ _ _=>by simp only[Rd]) rfl
 rw[k1]at a1
 cases a1
 have ob3:ObOK κ2 (w'.drew.setCell ⟨b,1,none⟩ (.int .u32 1)) 1 (.box (Alj up 1 1 (Of n up))):=ob3
 obtain ⟨ba,a1,a4,a5,st4,inv4,ob4⟩:=Dk (off:=2) (x:=.val (.int .i32 0)) (v:=.int .i32 0) inv3 ob3 rfl (λ _ _=>by simp only[Rd]) rfl
 rw[k1]at a1
 cases a1
 have ob4:ObOK κ2 ((w'.drew.setCell ⟨b,1,none⟩ (.int .u32 1)).setCell ⟨b,2,none⟩ (.int .i32 0)) 1 (.box (Alj up 1 0 (Of n up))):=ob4
 obtain ⟨v1,hv1,hr1⟩:=a2 1 (.val (.int .u32 0)) rfl
 rw[hr1.val]at hv1
 obtain ⟨v2,hv2,hr2⟩:=a4 2 (.val (.int .i32 1)) rfl
 rw[hr2.val]at hv2
 refine leaves_cons (f:=232) (args:=#[.pointer (some ⟨b,1,none⟩),.bool true]) y_ (by simp[go_sem]) ?_
 refine(Aco ⟨b,1,none⟩ (.int .u32 0) .returning _ hv1 (a3 1 (show 1<5 by decide))).mono ?_
 rintro e u' w'' ⟨rfl,rfl,rfl⟩
 refine leaves_cons (f:=231) (args:=#[.pointer (some ⟨b,2,none⟩)]) (by simp[settle]) (by simp[go_sem]) ?_
 refine(Abo ⟨b,2,none⟩ _ _ hv2 (a5 2 (show 2<5 by decide))).mono ?_
 rintro e u' w'' ⟨rfl,rfl,rfl⟩
 have hst:Step (·=1) κ2 w' κ2 ((w'.drew.setCell ⟨b,1,none⟩ (.int .u32 1)).setCell ⟨b,2,none⟩ (.int .i32 0)):=(std.weaken (λ _ h=>h.elim)).trans (st3.trans st4)
 refine⟨.tuple #[],by simp[results,Tryz.results173],.tuple #[],κ2,E,Ctx.behind st1 (hc2.step inv4 hst),inv4,⟨[],E,E⟩,λ p hp=>?_⟩
 simp only[Ur,yI,xG,vM]at hp
 rcases hp with rfl | rfl | rfl
 ·exact ob4
 ·exact ObOK.step hst (show ¬ (2:Nat)=1 by decide) _ (ok2 (2,.box [.ptr 1 0]) (by simp[Ur]))
 ·exact ObOK.step hst (show ¬ (3:Nat)=1 by decide) _ (ok2 (3,.box (Cw n)) (by simp[Ur]))
end Go.Sy.YtiijbikecbjdaaaGreatDoor
namespace Go.Sy.YtiijbikecbjdaaaGreatDoor
open Go.Proofs
attribute [local irreducible] Go.Sy.G Go.Sy.DR
set_option maxRecDepth 100000
set_option maxHeartbeats 4000000
def Yn (n:Net) (up:List Bool) (d:Bool):Obs:=[(1,.box (Kc n up d)),(2,.box [.ptr 1 0]),(3,.box (Cw n))]
theorem A0g (n:Net) (hn:n.Fin) (up:List Bool) :
  Sq 106 [.ptr 1 1,.clo (.func 207) [] [.ptr 3 0,.ptr 2 0]] (Yn n up false) (.tup []) (Yn n up true):=cT F106 Tryz.ntmps106 λ F hF=>by
 have q1:Sq 172 [.ptr 1 1] (Yn n up false) (Ab false) (Yn n up false):=Agt n up [] 0 0
 have q2:Sq 173 [.ptr 1 1,.clo (.func 207) [] [.ptr 3 0,.ptr 2 0]] (Yn n up false) (.tup []) (Yn n up true):=Att n hn up []
 conv=>whnf
 refine Af (Ad [] E F172 q1 E ⟨E,E,E,Y⟩ E ⟨.inl E,.inl E,.inl E,Y⟩) E E ?_
 refine oT ?_
 refine Af (Ad [] E F173 q2 E ⟨E,E,E,Y⟩ E ⟨.inl E,.inl E,.inl E,Y⟩) E E ?_
 refine oO ?_
 exact A1 E .nil [] (Yn n up true) (λ _ h=>h) E E ⟨Y,⟨.inl E,E,.inl E,E,.inl E,E,Y⟩,E,E⟩
theorem A0f (n:Net) (up:List Bool) :
  Sq 106 [.ptr 1 1,.clo (.func 207) [] [.ptr 3 0,.ptr 2 0]] (Yn n up true) (.tup []) (Yn n up true):=cT F106 Tryz.ntmps106 λ F hF=>by
 have q1:Sq 172 [.ptr 1 1] (Yn n up true) (Ab true) (Yn n up true):=Agt n up (Of n up) 1 0
 conv=>whnf
 refine Af (Ad [] E F172 q1 E ⟨E,E,E,Y⟩ E ⟨.inl E,.inl E,.inl E,Y⟩) E E ?_
 refine oF ?_
 exact A1 E .nil [] (Yn n up true) (λ _ h=>h) E E ⟨Y,⟨.inl E,E,.inl E,E,.inl E,E,Y⟩,E,E⟩
theorem A0e (n:Net) (hn:n.Fin) (up:List Bool) (d:Bool) :
  Sq 106 [.ptr 1 1,.clo (.func 207) [] [.ptr 3 0,.ptr 2 0]] (Yn n up d) (.tup []) (Yn n up true):=by
 cases d
 ·exact A0g n hn up
 ·exact A0f n up
theorem As7 (n:Net) (hn:n.Fin) (up:List Bool) (d:Bool) :
  Sq 149 [.ptr 1 0,Al n] [(1,.box (Kc n up d))] (.sl 1 Ab (Of n up)) [(1,.box (Kc n up true))]:=cT F149 Tryz.ntmps149 λ F hF=>by
 conv=>whnf
 refine Af (Ad [] E F106 (A0e n hn up d) E ⟨E,E,E,Y⟩ E ⟨.inl E,.inl E,.inl E,Y⟩) E E ?_
 refine oO ?_
 exact done E (.cons .tmp .nil) [] [(1,.box (Kc n up true))] (λ _ h=>h) E E ⟨Y,⟨.inl E,E,Y⟩,E,E⟩
end Go.Sy.YtiijbikecbjdaaaGreatDoor
namespace Go.Sy.YtiijbikecbjdaaaGreatDoor
open Go.Proofs
theorem Aa8 {n:Net} {fw:List Bool} {t:List EntryM} {dom:Int} {q:QueuedM} {now:Int} (ht:TabOK t) (hq:QueuedOK q):TabOK (bridgeT n fw t dom q now).1:=by
 unfold bridgeT
 split
 ·exact Zn
 split
 ·split
  ·exact T8 ht hq now
  ·exact T8 ht hq now
 ·exact T8 ht hq now
theorem Aa9 {n:Net} (_hn:n.Fin) (hm0:n.Num) {fw:List Bool} {t:List EntryM} {dom:Int} {q:QueuedM} {now:Int} (hq:QueuedOK q):∀ o∈(bridgeT n fw t dom q now).2.1,OutOK n o:=by
 intro o ho
 unfold bridgeT at ho
 split at ho
 ·cases ho
 rename_i h0
 have hb:Ac n=true:=by
  cases hx:Ac n
  ·exact yB (.inl (by unfold Qv;rw[hx];simp)) h0
  ·rfl
 split at ho
 ·split at ho
  ·cases ho
  ·rename_i h1
   have h1:=Decidable.not_not.1 h1
   have hin:∀ (d:Int),(lookT n (routerT n dom q.frame.dst).1 d).2=true→0≤(lookT n (routerT n dom q.frame.dst).1 d).1∧(lookT n (routerT n dom q.frame.dst).1 d).1.toNat<n.irbs.length:=λ d h=>S5 h
   rw[yD.1 ho]
   exact⟨by dsimp only;omega,by simp,λ _=>⟨A0r n hm0 _ _ hin,Ax9 hin h1⟩,λ h=>by dsimp only at h;omega⟩
 ·rcases yP.1 ho with h | h
  ·obtain ⟨p,_,rfl⟩:=yV.1 h
   unfold Aft
   exact Aly (by dsimp only;split<;>omega) (Afy _ _ _ _ hq.frame) (Apn _ _ _ _)
  ·obtain ⟨p,_,rfl⟩:=yV.1 h
   unfold Aiv
   exact Aly (by dsimp only;omega) (by have:=Ai3 n dom p q.frame;omega) (At3 _ _ _ _)
theorem Aba {n:Net} (hn:n.Fin) (fw:List Bool) (t:List EntryM) (dom:Int) (q:QueuedM) (now:Int):(bridgeT n fw t dom q now).2.1.length<4294967296:=by
 unfold bridgeT
 split
 ·show (0:Nat)<4294967296;decide
 split
 ·split
  ·show (0:Nat)<4294967296;decide
  ·show (1:Nat)<4294967296;decide
 ·have:=Aeu hn fw (learnQ t q now) dom q.from_ q.frame.dst
  simp only[yE,xJ]
  omega
theorem X9 (n:Net) (origin:Int):∀ (a b:List OutM) (m:MacM),Cc n m origin (a++b)=((Cc n (Cc n m origin a).1 origin b).1,(Cc n m origin a).2++(Cc n (Cc n m origin a).1 origin b).2)
 | [],b,m=>by simp[Cc]
 | o::a,b,m=>by
  rw[wF,Cc,Cc,X9 n origin a b]
  simp
theorem V9 (n:Net) (m:MacM) (origin:Int) (l:List OutM) (j:Nat) (hj:j<l.length) :
  Cc n m origin (l.take (j+1))=((goesM n (Cc n m origin (l.take j)).1 l[j] origin).1,(Cc n m origin (l.take j)).2++(goesM n (Cc n m origin (l.take j)).1 l[j] origin).2):=by
 rw[zW hj,X9]
 simp[Cc]
theorem Ub (n:Net) (m:MacM) (o:OutM) (origin:Int):(goesM n m o origin).2.length≤1:=by
 unfold goesM
 split
 ·simp
 split
 ·simp
 split
 ·simp
 split<;>simp
theorem Uc (n:Net) (origin:Int):∀ (l:List OutM) (m:MacM),(Cc n m origin l).2.length≤l.length
 | [],m=>by simp[Cc]
 | o::l,m=>by
  rw[Cc]
  have h1:=Uc n origin l (goesM n m o origin).1
  have h2:=Ub n m o origin
  simp only[yE,yN]
  omega
end Go.Sy.YtiijbikecbjdaaaGreatDoor
namespace Go.Sy.YtiijbikecbjdaaaGreatDoor
open Go.Proofs
attribute [local irreducible] Go.Sy.G Go.Sy.DR
set_option maxRecDepth 100000
set_option maxHeartbeats 4000000
theorem Alc {n:Net} {m:MacM} {J D:Int} (h:MacOK n m J D) (hD:0≤D) (dom:Int) {r:List EntryM × List OutM × Int} (hr:TabOK r.1):MacOK n (Xh m dom r) J (D+1):=by
 unfold Xh
 split
 ·exact Tl h hD 2
 split
 ·exact Tl (Arc h dom hr) hD _
 ·exact(Arc h dom hr).mono (wE _) q_
def queL (q:QueuedM):List SV:=[Aa q.from_,Aa q.peer,Aa q.origin,Bf q.frame.dst,Bf q.frame.src,Aa q.frame.typ,.sl 1 Ah q.frame.body]
def Aw0 (n:Net) (m:MacM) (q:QueuedM) (l:List SeenM):Obs:=[(0,.box (Sg n 1 m.now m.injected m.drops)),(1,.box (Kc n m.up true)),(2,.row 1 Mz m.tables),(3,.row 1 Qw m.queues),(7,.box (queL q)),(1000,.row 3 E2 l)]
theorem Awe (n:Net) (hn:n.Fin) (hm1:n.Num) (m:MacM) (d:Bool) (J D:Int) (hm0:MacOK n m J D) (hD0:0≤D) (hD:D≤900000000000) (dom at_:Int) :
  Sq 81 [.ptr 0 0,Aa dom,Aa at_] (Dw n m d) (.sl 3 E2 (pickT n m dom at_).2) (Dw n (pickT n m dom at_).1 (if (takeM m dom at_).2.2 then true else d)):=cT F81 Tryz.ntmps81 λ F hF=>by
 have hres:=pickT.eq_1 n m dom at_
 generalize pickT n m dom at_=res at *
 have q1:=Akp n m d dom at_ (Hy hm0 dom)
 have hok:=Acl hm0 dom at_
 have hpl:(takeM m dom at_).2.2=true→0≤dom∧dom.toNat<m.queues.length:=λ h=>by
  unfold takeM at h
  split at h
  ·cases h
  ·rename_i h2
   exact placeB_iff.1 (by cases hx:An dom m.queues.length;exact yB hx h2;rfl)
 have htl:(takeM m dom at_).1.tables=m.tables:=by unfold takeM;split<;>rfl
 generalize takeM m dom at_=r at *
 obtain ⟨m1,q,ok⟩:=r
 have htq:m.queues.length=m.tables.length:=by rw[hm0.ques,hm0.tabs]
 conv=>whnf
 refine Af (Ad [] E F82 q1 E ⟨E,E,E,E,Y⟩ E ⟨.inl E,.inl E,.inl E,.inl E,Y⟩) E E ?_
 refine oO ?_
 cases ok
 ·rw[zE rfl]at hres
  subst hres
  (refine⟨λ _=>?_,λ h=>False.elim (by simp at h)⟩;refine rg ?_;conv=>whnf)
  refine Am 6 3 E2 E ?_
  exact done E (.cons .tmp .nil) [] (Dw n m1 d) (λ _ h=>h) E E ⟨Y,⟨.inl E,E,.inl E,E,.inl E,E,.inl E,E,Y⟩,E,E⟩
 rw[zD y_]at hres
 have hd:=hpl rfl
 have hd2:0≤dom∧dom.toNat<m1.tables.length:=by rw[htl,← htq];exact hd
 dsimp only at hres hok
 have q2:=As7 n hn m1.up d
 have q3:=Am5 n hn hm1 (Of n m1.up) (tableL m1 dom) dom q m1.now (Y8 hok.1 dom) hok.2
 have hb1:=Aa8 (n:=n) (fw:=Of n m1.up) (dom:=dom) (now:=m1.now) (Y8 hok.1 dom) hok.2
 have hb2:=Aa9 (fw:=Of n m1.up) (t:=tableL m1 dom) (dom:=dom) (now:=m1.now) hn hm1 hok.2
 have hb3:=Aba hn (Of n m1.up) (tableL m1 dom) dom q m1.now
 have hb4:=Am4 n (Of n m1.up) (tableL m1 dom) dom q m1.now
 rw[Ald]at hres
 have hz:=Alc hok.1 hD0 dom hb1
 generalize bridgeT n (Of n m1.up) (tableL m1 dom) dom q m1.now=b at *
 obtain ⟨t,out,e⟩:=b
 have hb2:∀ o∈out,OutOK n o:=hb2
 have hb3:out.length<4294967296:=hb3
 have hb4:B5 e:=hb4
 have ht0:=tableL.eq_1 m1 dom
 rw[Ab5 hd2.2]at ht0
 generalize tableL m1 dom=t0 at *
 subst ht0
 (refine⟨λ h=>False.elim (by simp at h),λ _=>?_⟩;refine rg ?_;conv=>whnf)
 refine Br (Ad [] E F149 q2 E ⟨E,Y⟩ E ⟨.inl E,Y⟩) z_ E ?_
 refine oD ?_
 refine⟨hd2.1,hd2.2,?_⟩
 conv=>whnf
 refine⟨E,hd2.2,?_⟩
 conv=>whnf
 refine cD q3 F148 ?_
 refine oD ?_
 refine kW ?_
 constructor<;>intro h
 ·have h2:¬ e=2:=by simpa using h
  clear h
  refine oO ?_
  refine⟨hd2.1,hd2.2,?_⟩
  conv=>whnf
  refine⟨E,hd2.2,t,E,E,?_⟩
  conv=>whnf
  constructor<;>intro h
  ·have h3:¬ e=0:=by simpa using h
   clear h
   have hpd:Xh m1 dom (t,out,e)=C0 (H6 m1 dom t) e:=by
    unfold Xh
    rw[zD h2,zE h3]
   rw[hpd]at hres hz
   subst hres
   have q4:=Amu n (H6 m1 dom t) true e hb4.1 hb4.2 ⟨(hok.1.drp _).1,by have:=(hok.1.drp e.toNat).2;show m1.drops e.toNat≤1000000000000;omega⟩
   refine oO ?_
   refine Af (Ad [] E F150 q4 E ⟨E,E,E,E,Y⟩ E ⟨.inl E,.inl E,.inl E,.inl E,Y⟩) E E ?_
   refine oO ?_
   have hdr:Ui (C0 (H6 m1 dom t) e):=λ i=>⟨(hz.drp i).1,by have:=(hz.drp i).2;omega⟩
   refine B9 12 1000 3 E2 E E ?_
   refine A9 out.length (λ j=>[(0,.ptr 0 0),(7,.ptr 7 0),(12,.osl 1000),(69,.sl 9 Ha out),(70,Aa out.length),(71,Aa j)]) (λ j=>Aw0 n (Cc n (C0 (H6 m1 dom t) e) q.origin (out.take j)).1 q (Cc n (C0 (H6 m1 dom t) e) q.origin (out.take j)).2) [] ⟨⟨E,E,E,E,E,E,E,E,E,E,E,E,Y⟩,⟨.inl E,E,.inl E,E,.inl E,E,.inl E,E,.inl E,E,.inl E,E,Y⟩,E,E⟩ ?_
   intro j hj
   refine oO ?_
   constructor<;>intro h
   ·have hlt:j<out.length:=qA h
    have hj0:((j:Nat):Int).toNat<out.length:=by simpa using hlt
    obtain ⟨o,hoo⟩:∃ o,out[j]=o:=⟨_,rfl⟩
    have e1:out[((j:Nat):Int).toNat]'hj0=o:=hoo
    have hs:=V9 n (C0 (H6 m1 dom t) e) q.origin out j hlt
    rw[hoo]at hs
    have hjo:=Th hn q.origin (out.take j) hz q_ (λ x hx=>hb2 x (wK hx))
    have hlen:(out.take j).length=j:=by rw[zX];omega
    rw[hlen]at hjo
    have hsl:=Uc n q.origin (out.take j) (C0 (H6 m1 dom t) e)
    rw[hlen]at hsl
    have q5:=Acs n hn (Cc n (C0 (H6 m1 dom t) e) q.origin (out.take j)).1 true J _ hjo q_ o (hb2 o (by rw[← hoo];exact zJ hlt)) q.origin
    have hfw:=Ub n (Cc n (C0 (H6 m1 dom t) e) q.origin (out.take j)).1 o q.origin
    clear h
    refine oO ?_
    refine⟨E,by omega,hj0,?_⟩
    rw[e1]
    conv=>whnf
    refine Af (Ad [] E F151 q5 E ⟨E,E,E,E,Y⟩ E ⟨.inl E,.inl E,.inl E,.inl E,Y⟩) E E ?_
    refine oO ?_
    refine Af (Ae Γ.toTy 81 E E E E E (.row E) .sl y_ q_ q_) E E ?_
    refine oO ?_
    refine iW ?_
    have g1:(Cc n (C0 (H6 m1 dom t) e) q.origin (out.take (j+1))).1=(goesM n (Cc n (C0 (H6 m1 dom t) e) q.origin (out.take j)).1 o q.origin).1:=by rw[hs]
    have g2:(Cc n (C0 (H6 m1 dom t) e) q.origin (out.take (j+1))).2=(Cc n (C0 (H6 m1 dom t) e) q.origin (out.take j)).2++(goesM n (Cc n (C0 (H6 m1 dom t) e) q.origin (out.take j)).1 o q.origin).2:=by rw[hs]
    refine A2 [(1000,81)] hlt ⟨⟨E,E,E,E,E,E,E,E,E,E,E,E,Y⟩,?_,E,E⟩
    dsimp only
    rw[g1,g2]
    exact⟨.inl E,E,.inl E,E,.inl E,E,.inl E,E,.inl E,E,.inl E,E,Y⟩
   ·have hjj:j=out.length:=qB h
    subst hjj
    rw[yG]
    clear h
    refine oO ?_
    refine Ag 1000 E ?_
    exact done E (.cons .tmp .nil) [] (Dw n (Cc n (C0 (H6 m1 dom t) e) q.origin out).1 true) (λ _ h=>h) E E ⟨Y,⟨.inl E,E,.inl E,E,.inl E,E,.inl E,E,Y⟩,E,E⟩
  ·have h3:e=0:=by simpa using h
   clear h
   have hpd:Xh m1 dom (t,out,e)=H6 m1 dom t:=by
    unfold Xh
    rw[zD h2,zD (λ h=>h h3)]
   rw[hpd]at hres hz
   subst hres
   refine oO ?_
   have hdr:Ui (H6 m1 dom t):=λ i=>⟨(hz.drp i).1,by have:=(hz.drp i).2;omega⟩
   refine B9 12 1000 3 E2 E E ?_
   refine A9 out.length (λ j=>[(0,.ptr 0 0),(7,.ptr 7 0),(12,.osl 1000),(69,.sl 9 Ha out),(70,Aa out.length),(71,Aa j)]) (λ j=>Aw0 n (Cc n (H6 m1 dom t) q.origin (out.take j)).1 q (Cc n (H6 m1 dom t) q.origin (out.take j)).2) [] ⟨⟨E,E,E,E,E,E,E,E,E,E,E,E,Y⟩,⟨.inl E,E,.inl E,E,.inl E,E,.inl E,E,.inl E,E,.inl E,E,Y⟩,E,E⟩ ?_
   intro j hj
   refine oO ?_
   constructor<;>intro h
   ·have hlt:j<out.length:=qA h
    have hj0:((j:Nat):Int).toNat<out.length:=by simpa using hlt
    obtain ⟨o,hoo⟩:∃ o,out[j]=o:=⟨_,rfl⟩
    have e1:out[((j:Nat):Int).toNat]'hj0=o:=hoo
    have hs:=V9 n (H6 m1 dom t) q.origin out j hlt
    rw[hoo]at hs
    have hjo:=Th hn q.origin (out.take j) hz q_ (λ x hx=>hb2 x (wK hx))
    have hlen:(out.take j).length=j:=by rw[zX];omega
    rw[hlen]at hjo
    have hsl:=Uc n q.origin (out.take j) (H6 m1 dom t)
    rw[hlen]at hsl
    have q5:=Acs n hn (Cc n (H6 m1 dom t) q.origin (out.take j)).1 true J _ hjo q_ o (hb2 o (by rw[← hoo];exact zJ hlt)) q.origin
    have hfw:=Ub n (Cc n (H6 m1 dom t) q.origin (out.take j)).1 o q.origin
    clear h
    refine oO ?_
    refine⟨E,by omega,hj0,?_⟩
    rw[e1]
    conv=>whnf
    refine Af (Ad [] E F151 q5 E ⟨E,E,E,E,Y⟩ E ⟨.inl E,.inl E,.inl E,.inl E,Y⟩) E E ?_
    refine oO ?_
    refine Af (Ae Γ.toTy 81 E E E E E (.row E) .sl y_ q_ q_) E E ?_
    refine oO ?_
    refine iW ?_
    have g1:(Cc n (H6 m1 dom t) q.origin (out.take (j+1))).1=(goesM n (Cc n (H6 m1 dom t) q.origin (out.take j)).1 o q.origin).1:=by rw[hs]
    have g2:(Cc n (H6 m1 dom t) q.origin (out.take (j+1))).2=(Cc n (H6 m1 dom t) q.origin (out.take j)).2++(goesM n (Cc n (H6 m1 dom t) q.origin (out.take j)).1 o q.origin).2:=by rw[hs]
    refine A2 [(1000,81)] hlt ⟨⟨E,E,E,E,E,E,E,E,E,E,E,E,Y⟩,?_,E,E⟩
    dsimp only
    rw[g1,g2]
    exact⟨.inl E,E,.inl E,E,.inl E,E,.inl E,E,.inl E,E,.inl E,E,Y⟩
   ·have hjj:j=out.length:=qB h
    subst hjj
    rw[yG]
    clear h
    refine oO ?_
    refine Ag 1000 E ?_
    exact done E (.cons .tmp .nil) [] (Dw n (Cc n (H6 m1 dom t) q.origin out).1 true) (λ _ h=>h) E E ⟨Y,⟨.inl E,E,.inl E,E,.inl E,E,.inl E,E,Y⟩,E,E⟩
 ·have h2:e=2:=by simpa using h
  clear h
  subst h2
  have hpd:Xh m1 dom (t,out,2)=C0 m1 2:=by
   unfold Xh
   rw[zE rfl]
  rw[hpd]at hres hz
  subst hres
  have q4:=Amu n m1 true 2 j_ j_ ⟨(hok.1.drp _).1,by have:=(hok.1.drp (Int.toNat 2)).2;omega⟩
  refine oT ?_
  refine Af (Ad [] E F150 q4 E ⟨E,E,E,E,Y⟩ E ⟨.inl E,.inl E,.inl E,.inl E,Y⟩) E E ?_
  refine oO ?_
  have hdr:Ui (C0 m1 2):=λ i=>⟨(hz.drp i).1,by have:=(hz.drp i).2;omega⟩
  refine B9 12 1000 3 E2 E E ?_
  refine A9 out.length (λ j=>[(0,.ptr 0 0),(7,.ptr 7 0),(12,.osl 1000),(69,.sl 9 Ha out),(70,Aa out.length),(71,Aa j)]) (λ j=>Aw0 n (Cc n (C0 m1 2) q.origin (out.take j)).1 q (Cc n (C0 m1 2) q.origin (out.take j)).2) [] ⟨⟨E,E,E,E,E,E,E,E,E,E,E,E,Y⟩,⟨.inl E,E,.inl E,E,.inl E,E,.inl E,E,.inl E,E,.inl E,E,Y⟩,E,E⟩ ?_
  intro j hj
  refine oO ?_
  constructor<;>intro h
  ·have hlt:j<out.length:=qA h
   have hj0:((j:Nat):Int).toNat<out.length:=by simpa using hlt
   obtain ⟨o,hoo⟩:∃ o,out[j]=o:=⟨_,rfl⟩
   have e1:out[((j:Nat):Int).toNat]'hj0=o:=hoo
   have hs:=V9 n (C0 m1 2) q.origin out j hlt
   rw[hoo]at hs
   have hjo:=Th hn q.origin (out.take j) hz q_ (λ x hx=>hb2 x (wK hx))
   have hlen:(out.take j).length=j:=by rw[zX];omega
   rw[hlen]at hjo
   have hsl:=Uc n q.origin (out.take j) (C0 m1 2)
   rw[hlen]at hsl
   have q5:=Acs n hn (Cc n (C0 m1 2) q.origin (out.take j)).1 true J _ hjo q_ o (hb2 o (by rw[← hoo];exact zJ hlt)) q.origin
   have hfw:=Ub n (Cc n (C0 m1 2) q.origin (out.take j)).1 o q.origin
   clear h
   refine oO ?_
   refine⟨E,by omega,hj0,?_⟩
   rw[e1]
   conv=>whnf
   refine Af (Ad [] E F151 q5 E ⟨E,E,E,E,Y⟩ E ⟨.inl E,.inl E,.inl E,.inl E,Y⟩) E E ?_
   refine oO ?_
   refine Af (Ae Γ.toTy 81 E E E E E (.row E) .sl y_ q_ q_) E E ?_
   refine oO ?_
   refine iW ?_
   have g1:(Cc n (C0 m1 2) q.origin (out.take (j+1))).1=(goesM n (Cc n (C0 m1 2) q.origin (out.take j)).1 o q.origin).1:=by rw[hs]
   have g2:(Cc n (C0 m1 2) q.origin (out.take (j+1))).2=(Cc n (C0 m1 2) q.origin (out.take j)).2++(goesM n (Cc n (C0 m1 2) q.origin (out.take j)).1 o q.origin).2:=by rw[hs]
   refine A2 [(1000,81)] hlt ⟨⟨E,E,E,E,E,E,E,E,E,E,E,E,Y⟩,?_,E,E⟩
   dsimp only
   rw[g1,g2]
   exact⟨.inl E,E,.inl E,E,.inl E,E,.inl E,E,.inl E,E,.inl E,E,Y⟩
  ·have hjj:j=out.length:=qB h
   subst hjj
   rw[yG]
   clear h
   refine oO ?_
   refine Ag 1000 E ?_
   exact done E (.cons .tmp .nil) [] (Dw n (Cc n (C0 m1 2) q.origin out).1 true) (λ _ h=>h) E E ⟨Y,⟨.inl E,E,.inl E,E,.inl E,E,.inl E,E,Y⟩,E,E⟩
theorem Asn (l:List (List EntryM)) (now:Int) (j:Nat) (hj:j<l.length) :
  ((l.take j).map (λ t=>ageT t now)++l.drop j).set j (ageT l[j] now)=(l.take (j+1)).map (λ t=>ageT t now)++l.drop (j+1):=by
 apply uW
 ·simp only[yW,yE,xJ,zX,yM];omega
 intro i h1 h2
 simp only[yW,yE,xJ,zX,yM]at h1
 rw[tM]
 by_cases hi:j=i
 ·subst hi
  rw[zE rfl,xI (by simp;omega)]
  simp
 ·rw[zD hi]
  by_cases hlt:i<j
  ·rw[xI (by simp;omega),xI (by simp;omega)]
   simp
  ·rw[xX (by simp;omega),xX (by simp;omega)]
   simp only[vC,xJ,zX]
   congr 1
   omega
theorem Auf {P:Program} {o:Oper} {s:SS} {x y:Operand} {at_:Array TypeId} {k k':IntKind} {m n r:Int} (hr:(if n<m then n else m)=r) (h:o.op=.call ⟨.builtin .min,#[x,y],at_⟩)
  (hx:ev s x=.val (.int k m)) (hy:ev s y=.val (.int k' n)):Good P o s ⟨.val (.int k r),[],[]⟩:=by
 have:=X4 (P:=P) h hx hy
 rwa [hr]at this
def Abz (l:List (List EntryM)) (now:Int) (j:Nat):List (List EntryM):=(l.take j).map (λ t=>ageT t now)++l.drop j
theorem Azc (l:List (List EntryM)) (now:Int) (j:Nat) (hj:j<l.length) (h2:j<(Abz l now j).length):(Abz l now j)[j]=l[j]:=by
 have h:(Abz l now j)[j]? = l[j]?:=by
  unfold Abz
  have hm:min j l.length=j:=by omega
  rw[wB (by simp;omega),tU,xJ,zX,hm,tO,tL]
 rw[zO hj,zO h2]at h
 exact Option.some.inj h
theorem Ang (l:List (List EntryM)) (now:Int) (j:Nat):(Abz l now j).length=l.length:=by
 unfold Abz
 simp only[yE,xJ,zX,yM]
 omega
def tickO (n:Net) (m:MacM) (d:Bool) (now:Int) (j:Nat):Obs:=[(0,.box (Sg n 1 now m.injected m.drops)),(1,.box (Kc n m.up d)),(2,.row 1 Mz (Abz m.tables now j)),(3,.row 1 Qw m.queues)]
theorem Awd (n:Net) (m:MacM) (d:Bool) (J D:Int) (hm0:MacOK n m J D) (hs:Ak n.domains) :
  Sq 83 [.ptr 0 0] (Dw n m d) (.tup []) (Dw n (Uv m) d):=cT F83 Tryz.ntmps83 λ F hF=>by
 unfold Ak at hs
 have hnow:=hm0.now
 have htl:m.tables.length<2147483648:=by rw[hm0.tabs];exact hs
 have hto:=hm0.tab
 obtain ⟨nw,hnw⟩:∃ nw,(if 1099511627776<m.now+1 then 1099511627776 else m.now+1)=nw:=⟨_,rfl⟩
 have hti:Uv m=⟨m.up,Abz m.tables nw m.tables.length,m.queues,nw,m.injected,m.drops⟩:=by
  have:min (m.now+1) 1099511627776=nw:=by rw[← hnw];split<;>omega
  unfold Uv Abz
  rw[this,yG,wH,xK]
 rw[hti]
 conv=>whnf
 refine iW ?_
 refine Af (Auf hnw E E E) E E ?_
 refine oO ?_
 refine A9 m.tables.length (λ j=>[(0,.ptr 0 0),(16,.osl 2),(17,Aa m.tables.length),(18,Aa j)]) (λ j=>tickO n m d nw j) [] ⟨⟨E,E,E,E,E,E,E,E,Y⟩,⟨.inl E,E,.inl E,E,.inl E,E,.inl E,E,Y⟩,E,E⟩ ?_
 intro j hj
 refine oO ?_
 constructor<;>intro h
 ·have hlt:j<m.tables.length:=qA h
  have hal:=Ang m.tables nw j
  have hj0:((j:Nat):Int).toNat<(Abz m.tables nw j).length:=by rw[hal];simpa using hlt
  obtain ⟨t,hoo⟩:∃ t,m.tables[j]=t:=⟨_,rfl⟩
  have e1:(Abz m.tables nw j)[((j:Nat):Int).toNat]'hj0=t:=(Azc m.tables nw j hlt (by rw[hal];exact hlt)).trans hoo
  have hs:=Asn m.tables nw j hlt
  rw[hoo]at hs
  have ht:=hto t (by rw[← hoo];exact zJ hlt)
  clear h
  refine oO ?_
  refine⟨by omega,hj0,?_⟩
  conv=>whnf
  refine⟨E,hj0,?_⟩
  rw[e1]
  conv=>whnf
  refine cD (Azz t nw ht.short ht.mac) F152 ?_
  refine oD ?_
  refine⟨by omega,hj0,?_⟩
  conv=>whnf
  refine⟨E,hj0,ageT t nw,E,E,?_⟩
  conv=>whnf
  refine kW ?_
  refine iW ?_
  exact A2 [] hlt ⟨⟨E,E,E,E,E,E,E,E,Y⟩,⟨.inl E,E,.inl E,E,.inl (zG (Ob.row 1 Mz) hs.symm),E,.inl E,E,Y⟩,E,E⟩
 ·have hjj:j=m.tables.length:=qB h
  subst hjj
  clear h
  refine oO ?_
  exact A1 E .nil [] (Dw n ⟨m.up,Abz m.tables nw m.tables.length,m.queues,nw,m.injected,m.drops⟩ d) (λ _ h=>h) E E ⟨Y,⟨.inl E,E,.inl E,E,.inl E,E,.inl E,E,Y⟩,E,E⟩
def Akq (n:Net) (m:MacM) (d:Bool):Obs:=[(0,.box (Sg n 4 m.now m.injected m.drops)),(1,.non),(2,.row 1 Mz m.tables),(3,.row 1 Qw m.queues),(4,.box (Kc n m.up d))]
def upT (m:MacM) (up:List Bool):MacM:=⟨up,m.tables,m.queues,m.now,m.injected,m.drops⟩
def doD (n:Net) (m:MacM) (d:Bool) (x:StepM):Bool :=
 if x.kind=1 then d else if x.kind=2 then (if (takeM m x.domain x.at_).2.2 then true else d) else if x.kind=3 then d else if x.kind=4 then d else if x.kind=5 then (if x.up.length=n.links.length then false else d) else d
theorem Awh (n:Net) (hn:n.Fin) (hm1:n.Num) (m:MacM) (d:Bool) (J D:Int) (hm0:MacOK n m J D) (hJ:J<900000000000) (hD0:0≤D) (hD:D≤900000000000) (x:StepM) (hb:x.bytes.length<100000) :
  Sq 36 [.ptr 0 0,B0 x] (Dw n m d) (.tup [.sl 3 E2 (doT n m x).2,Aa 0]) (Akq n (doT n m x).1 (doD n m d x)):=cT F36 Tryz.ntmps36 λ F hF=>by
 have hres:=doT.eq_1 n m x
 generalize doT n m x=res at *
 have hdd:=doD.eq_1 n m d x
 generalize doD n m d x=dd at *
 conv=>whnf
 refine Af (X8 (d:=900) E E E) E E ?_
 refine oF ?_
 constructor<;>intro h
 ·have h1:x.kind=1:=by simpa using h
  rw[zE h1]at hres hdd
  subst hres
  subst hdd
  have q1:=Aom n hn m dd J D hm0 q_ q_ x.port x.bytes hb
  refine oO ?_
  refine Af (Ad [] E F80 q1 E ⟨E,E,E,E,Y⟩ E ⟨.inl E,.inl E,.inl E,.inl E,Y⟩) E E ?_
  refine oO ?_
  refine Am 4 3 E2 E ?_
  refine K9 1 4 E E j_ ?_
  exact done E (.cons .tmp (.cons .tmp .nil)) [] (Akq n (injectT n m x.port x.bytes) dd) (λ _ h=>h) E E ⟨Y,⟨.inl E,E,.inl E,E,.inl E,E,.inl E,E,.inl E,E,Y⟩,E,E⟩
 have h1:¬ x.kind=1:=by simpa using h
 rw[zD h1]at hres hdd
 clear h
 refine oO ?_
 constructor<;>intro h
 ·have h1:x.kind=2:=by simpa using h
  rw[zE h1]at hres hdd
  subst hres
  have q1:=Awe n hn hm1 m d J D hm0 hD0 hD x.domain x.at_
  rw[← hdd]at q1
  refine oO ?_
  refine Af (Ad [] E F81 q1 E ⟨E,E,E,E,Y⟩ E ⟨.inl E,.inl E,.inl E,.inl E,Y⟩) E E ?_
  refine oO ?_
  refine K9 1 4 E E j_ ?_
  exact done E (.cons .tmp (.cons .tmp .nil)) [] (Akq n (pickT n m x.domain x.at_).1 dd) (λ _ h=>h) E E ⟨Y,⟨.inl E,E,.inl E,E,.inl E,E,.inl E,E,.inl E,E,Y⟩,E,E⟩
 have h1:¬ x.kind=2:=by simpa using h
 rw[zD h1]at hres hdd
 clear h
 refine oO ?_
 constructor<;>intro h
 ·have h1:x.kind=3:=by simpa using h
  rw[zE h1]at hres hdd
  subst hres
  subst hdd
  have q1:=Akp n m dd x.domain x.at_ (Hy hm0 _)
  refine oO ?_
  refine Af (Ad [] E F82 q1 E ⟨E,E,E,E,Y⟩ E ⟨.inl E,.inl E,.inl E,.inl E,Y⟩) E E ?_
  refine oO ?_
  refine Am 4 3 E2 E ?_
  refine K9 1 4 E E j_ ?_
  exact done E (.cons .tmp (.cons .tmp .nil)) [] (Akq n (takeM m x.domain x.at_).1 dd) (λ _ h=>h) E E ⟨Y,⟨.inl E,E,.inl E,E,.inl E,E,.inl E,E,.inl E,E,Y⟩,E,E⟩
 have h1:¬ x.kind=3:=by simpa using h
 rw[zD h1]at hres hdd
 clear h
 refine oO ?_
 constructor<;>intro h
 ·have h1:x.kind=4:=by simpa using h
  rw[zE h1]at hres hdd
  subst hres
  subst hdd
  have q1:=Awd n m dd J D hm0 hn.domains
  refine oO ?_
  refine Af (Ad [] E F83 q1 E ⟨E,E,E,E,Y⟩ E ⟨.inl E,.inl E,.inl E,.inl E,Y⟩) E E ?_
  refine oO ?_
  refine Am 4 3 E2 E ?_
  refine K9 1 4 E E j_ ?_
  exact done E (.cons .tmp (.cons .tmp .nil)) [] (Akq n (Uv m) dd) (λ _ h=>h) E E ⟨Y,⟨.inl E,E,.inl E,E,.inl E,E,.inl E,E,.inl E,E,Y⟩,E,E⟩
 have h1:¬ x.kind=4:=by simpa using h
 rw[zD h1]at hres hdd
 clear h
 refine oO ?_
 constructor<;>intro h
 ·have h1:x.kind=5:=by simpa using h
  rw[zE h1]at hres hdd
  clear h
  refine oO ?_
  refine kW ?_
  constructor<;>intro h
  ·have h2:x.up.length=n.links.length:=qA h
   rw[zE h2]at hres hdd
   subst hres
   subst hdd
   clear h
   have hls:=hn.links
   unfold Ak at hls
   refine oO ?_
   refine c0 (Aqp x.up q_) F84 ?_
   refine oO ?_
   refine Am 4 3 E2 E ?_
   refine Ai 55 (Kc n x.up false) E vL ?_
   exact done E (.cons .tmp (.cons .tmp .nil)) [(4,55)] (Akq n (upT m x.up) false) (λ _ h=>h) E E ⟨Y,⟨.inl E,E,.inr E,E,.inl E,E,.inl E,E,.inl E,E,Y⟩,E,E⟩
  ·have h2:¬ x.up.length=n.links.length:=qB h
   rw[zD h2]at hres hdd
   subst hres
   subst hdd
   clear h
   refine oO ?_
   refine Am 4 3 E2 E ?_
   refine K9 1 4 E E j_ ?_
   exact done E (.cons .tmp (.cons .tmp .nil)) [] (Akq n m dd) (λ _ h=>h) E E ⟨Y,⟨.inl E,E,.inl E,E,.inl E,E,.inl E,E,.inl E,E,Y⟩,E,E⟩
 have h1:¬ x.kind=5:=by simpa using h
 rw[zD h1]at hres hdd
 subst hres
 subst hdd
 clear h
 refine oO ?_
 refine Am 4 3 E2 E ?_
 refine K9 1 4 E E j_ ?_
 exact done E (.cons .tmp (.cons .tmp .nil)) [] (Akq n m dd) (λ _ h=>h) E E ⟨Y,⟨.inl E,E,.inl E,E,.inl E,E,.inl E,E,.inl E,E,Y⟩,E,E⟩
theorem Aol (n:Net) (hn:n.Fin) (hb:okB n (List.replicate n.links.length true)=false) :
  Sp 34 [Al n] (.tup [.val (.pointer none),Aa 2]):=cT F34 Tryz.ntmps34 λ F hF=>by
 have hls:=hn.links
 unfold Ak at hls
 have q1:=Arh n.links.length q_
 have q2:=Aee n (List.replicate n.links.length true) hn hb
 generalize List.replicate n.links.length true=up at *
 conv=>whnf
 refine Iw 7 Ab [true] E E ?_
 refine Ag 7 E ?_
 refine oO ?_
 refine c0 q1 F77 ?_
 refine oO ?_
 refine c0 q2 F78 ?_
 refine oT ?_
 exact dN
theorem Az3 (n:Net) (hn:n.Fin) (hb:okB n (List.replicate n.links.length true)=true) :
  Sq 34 [Al n] [] (.tup [.ptr 0 0,Aa 0]) (Dw n (newT n) false):=cT F34 Tryz.ntmps34 λ F hF=>by
 have hls:=hn.links
 have hds:=hn.domains
 unfold Ak at hls hds
 have q1:=Arh n.links.length q_
 have q2:=Ahi n (List.replicate n.links.length true) hn hb
 have hnt:=newT.eq_1 n
 generalize newT n=m at *
 generalize List.replicate n.links.length true=up at *
 conv=>whnf
 refine Iw 7 Ab [true] E E ?_
 refine Ag 7 E ?_
 refine oO ?_
 refine c0 q1 F77 ?_
 refine oO ?_
 refine c0 q2 F78 ?_
 refine oF ?_
 refine cD (copyS n hn) F79 ?_
 refine oD ?_
 refine Br (Bv Γ.toTy (d:=28) (n:=n.domains.length) (λ _:Unit=>.val (.slice none 0 0)) () E E E E E E E E q_ q_ E E E) z_ E ?_
 refine oD ?_
 refine Br (Bv Γ.toTy (d:=32) (n:=n.domains.length) (λ _:Unit=>.val (.slice none 0 0)) () E E E E E E E E q_ q_ E E E) z_ E ?_
 refine oD ?_
 refine⟨z_,?_⟩
 refine Ank 28 (e':=Mz) (l':=List.replicate n.domains.length []) E y_ (λ M w i h1 h2 v hv=>?_) ?_
 ·rw[tV]
  simp only[RdD]at hv
  exact Afe hv
 refine Ank 32 (e':=Qw) (l':=List.replicate n.domains.length []) E y_ (λ M w i h1 h2 v hv=>?_) ?_
 ·rw[tV]
  simp only[RdD]at hv
  exact Afe hv
 refine Ai 24 (Kc n up false) E vL ?_
 refine oO ?_
 subst hnt
 exact done E (.cons .tmp (.cons .tmp .nil)) [(0,34),(1,24),(2,28),(3,32)] (Dw n ⟨up,List.replicate n.domains.length [],List.replicate n.domains.length [],0,0,λ _=>0⟩ false) (λ _ h=>h) E E ⟨Y,⟨.inl E,E,.inl E,E,.inl E,E,.inl E,E,Y⟩,E,E⟩
end Go.Sy.YtiijbikecbjdaaaGreatDoor
namespace Go.Sy.YtiijbikecbjdaaaGreatDoor
open Go.Proofs
def runF (n:Net) (s:MacM × Bool) (l:List StepM):MacM × Bool:=l.foldl (λ s x=>((doT n s.1 x).1,doD n s.1 s.2 x)) s
def runD (n:Net) (m:MacM) (d:Bool) (l:List StepM):Bool:=(runF n (m,d) l).2
theorem doT_ok {n:Net} (hn:n.Fin) (hm1:n.Num) {m:MacM} {J D:Int} (h:MacOK n m J D) (hJ:0≤J) (hD:0≤D) (x:StepM):MacOK n (doT n m x).1 (J+1) (D+4294967298):=by
 unfold doT
 split
 ·exact(Apz hn h hJ hD _ _).mono q_ q_
 split
 ·have hok:=Acl h x.domain x.at_
  unfold pickT
  split
  ·exact hok.1.mono q_ q_
  ·have hb:=Aba hn (Of n (takeM m x.domain x.at_).1.up) (tableL (takeM m x.domain x.at_).1 x.domain) x.domain (takeM m x.domain x.at_).2.1 (takeM m x.domain x.at_).1.now
   have h1:=Alc hok.1 hD x.domain (Aa8 (n:=n) (fw:=Of n (takeM m x.domain x.at_).1.up) (dom:=x.domain) (now:=(takeM m x.domain x.at_).1.now) (Y8 hok.1 x.domain) hok.2)
   have h2:=Th hn (takeM m x.domain x.at_).2.1.origin (Ald n (takeM m x.domain x.at_).1 x.domain (takeM m x.domain x.at_).2.1).2.1 h1 q_ (Aa9 hn hm1 hok.2)
   refine h2.mono q_ ?_
   unfold Ald
   omega
 split
 ·exact(Acl h x.domain x.at_).1.mono q_ q_
 split
 ·have h1:=h.now
  refine⟨h.up,by unfold Uv;simp only[xJ];exact h.tabs,h.ques,λ t ht=>?_,h.que,?_,?_,λ i=>?_⟩
  ·unfold Uv at ht
   obtain ⟨t0,ht0,rfl⟩:=yV.1 ht
   exact A1d (h.tab t0 ht0) _
  ·unfold Uv
   dsimp only
   omega
  ·have:=h.inj
   unfold Uv
   dsimp only
   omega
  ·have:=h.drp i
   unfold Uv
   dsimp only
   omega
 split
 ·split
  ·rename_i h2
   exact MacOK.mono (n:=n) (m:=⟨x.up,m.tables,m.queues,m.now,m.injected,m.drops⟩) ⟨h2,h.tabs,h.ques,h.tab,h.que,h.now,h.inj,h.drp⟩ q_ q_
  ·exact h.mono q_ q_
 ·exact h.mono q_ q_
theorem Arp (n:Net):MacOK n (newT n) 0 0:=by
 refine⟨by simp[newT],by simp[newT],by simp[newT],λ t ht=>?_,λ l hl=>?_,by simp[newT],by simp[newT],λ i=>by simp[newT]⟩
 ·have:t=[]:=(List.mem_replicate.1 ht).2
  rw[this];exact Zn
 ·have:l=[]:=(List.mem_replicate.1 hl).2
  rw[this];exact Aam
def upsT (n:Net):List Bool:=List.replicate n.links.length true
attribute [local irreducible] Go.Sy.G Go.Sy.DR
set_option maxRecDepth 100000
set_option maxHeartbeats 4000000
end Go.Sy.YtiijbikecbjdaaaGreatDoor
namespace Go.Sy.YtiijbikecbjdaaaGreatDoor
open Go.Proofs
theorem Ae8 {P:Hop→Prop} {S:Srch} (h:∀ f∈S.list,P f.hop) (d k:Int) {x:Hop} (hx:P x) (a:Int):∀ f∈(meetT S d k x a).list,P f.hop:=by
 rw[meetT]
 split
 ·exact h
 ·rw[Aao]
  split<;>(intro f hf;rcases yP.1 hf with hf | hf;exact h f hf;rw[yD]at hf;subst hf;exact hx)
theorem Ae9 {P:Hop→Prop} {k i:Int}:∀ {l:List Hop} {S:Srch},(∀ f∈S.list,P f.hop)→(∀ h∈l,P h)→∀ f∈(ext1 S k i l).list,P f.hop
 | [],S,h,_=>h
 | x::l,S,h,hl=>Ae9 (l:=l) (Ae8 h x.domain k (hl x y_) i) (λ y hy=>hl y (by simp[hy]))
theorem Anc {P:Hop→Prop} {i:Int}:∀ {l:List Lead} {S:Srch},(∀ f∈S.list,P f.hop)→(∀ q∈l,P ⟨3,0,q.domain,q.addr⟩)→∀ f∈(ext2 S i l).list,P f.hop
 | [],S,h,_=>h
 | x::l,S,h,hl=>Anc (l:=l) (Ae8 h x.domain 1 (hl x y_) i) (λ y hy=>hl y (by simp[hy]))
theorem A09 {P:Hop→Prop} {n:Net} (h1:∀ d,∀ x∈Kg n d,P x) (h2:∀ d,∀ q∈routesT n d,P ⟨3,0,q.domain,q.addr⟩) {S:Srch} (h:∀ f∈S.list,P f.hop) (i:Int):∀ f∈(extT n S i).list,P f.hop:=by
 rw[extT]
 split
 ·exact Anc (Ae9 h (h1 _)) (h2 _)
 ·exact Ae9 h (h1 _)
theorem Au4 {P:Hop→Prop} {n:Net} {dev:Int} (h:∀ d,P ⟨0,0,d,0⟩) (l:List Int):∀ f∈(L1 n dev l).list,P f.hop:=by
 suffices hs:∀ (l:List Int) (S:Srch),(∀ f∈S.list,P f.hop)→∀ f∈(l.foldl (L2 n dev) S).list,P f.hop from hs l _ (λ f hf=>by simp[Wx]at hf)
 intro l
 induction l with
 | nil=>exact λ S h=>h
 | cons x l ih =>
  intro S hS
  refine ih _ ?_
  rw[L2]
  split
  ·exact hS
  ·exact Ae8 hS _ _ (h _) _
theorem Ae7 {P:Hop→Prop} {n:Net} (h1:∀ d,∀ x∈Kg n d,P x) (h2:∀ d,∀ q∈routesT n d,P ⟨3,0,q.domain,q.addr⟩) {to:Int}:∀ (k:Nat) (S:Srch) (i:Nat),S.OK n→Backs S.list→(∀ f∈S.list,P f.hop)→i≤S.list.length→(Ik n to k S i).2=true →
  ∀ h∈(Ik n to k S i).1,P h
 | 0,S,i,_,_,_,_,h=>by cases h
 | k+1,S,i,ok,bk,hk,hi,h=>by
  rw[Ik]at h ⊢
  split at h
  ·rename_i hlt
   rw[zE hlt]
   split at h
   ·rename_i hm2
    rw[zE hm2]
    exact(Abb bk hk hlt).1
   ·rename_i hm2
    rw[zD hm2]
    have bk':=bk.ext (n:=n) (i:=i) ⟨by omega,by omega⟩
    exact Ae7 h1 h2 k _ _ (ok.ext i) bk'.1 (A09 h1 h2 hk i) q_ h
  ·cases h
theorem A08 {P:Hop→Prop} {n:Net} (h1:∀ d,∀ x∈Kg n d,P x) (h2:∀ d,∀ q∈routesT n d,P ⟨3,0,q.domain,q.addr⟩) (h3:∀ d,P ⟨0,0,d,0⟩) {from_ to:Int} (h:(wayT n from_ to).2=true):∀ x∈(wayT n from_ to).1,P x:=by
 rw[wayT]at h ⊢
 split at h
 ·rename_i hc
  rw[zE hc]
  have hp:=X0 hc.1
  have ok0:(beginT n from_).OK n:=by
   rw[beginT,Aj hp.2]
   exact Uh λ v hv h0=>Kl hc.2.2.2 hp.2 hv h0
  have bk0:Backs (beginT n from_).list:=by rw[beginT];exact Qp _ _ _
  exact Ae7 h1 h2 _ _ _ ok0 bk0 (by rw[beginT];exact Au4 h3 _) (xZ _) h
 ·cases h
def LinkOK (n:Net) (h:Hop):Prop:=h.kind=1→(0≤h.port∧h.port.toNat<n.ports.length)∧0≤(nth n.ports h.port).link∧(nth n.ports h.port).link.toNat<n.links.length
theorem Alh {n:Net} {i:Int} (h:0≤D3 n i):(0≤i∧i.toNat<n.ports.length)∧0≤(nth n.ports i).link∧(nth n.ports i).link.toNat<n.links.length:=by
 have ht:=K6 h
 unfold D3 at h
 split at h
 ·rename_i hc
  have e1:nth n.ports i=n.ports[i.toNat]:=Aj ht.1.2
  rw[e1]at hc ⊢
  exact⟨ht.1,hc.2.1,(Km hc.2.2 ht.1.2 hc.2.1).1⟩
 ·omega
theorem way_links {n:Net} {from_ to:Int} (h:(wayT n from_ to).2=true):∀ x∈(wayT n from_ to).1,LinkOK n x:=by
 refine A08 (λ d x hx=>?_) (λ d q _ e=>?_) (λ d e=>?_) h
 ·rw[Kg]at hx
  split at hx
  ·rcases yP.1 hx with hx | hx
   ·obtain ⟨p,_,hp⟩:=vV.1 hx
    rw[linkHop]at hp
    split at hp
    ·rename_i hc
     simp only[Option.some.injEq]at hp
     subst hp
     intro _
     refine Alh ?_
     rw[linkDomT]at hc
     split at hc
     ·rename_i hd
      rw[crossT]at hd
      split at hd
      ·rename_i hc2;exact hc2.1
      ·cases hd
     ·cases hc
    ·cases hp
   ·obtain ⟨p,hp,rfl⟩:=yV.1 hx
    intro e
    simp[Mc]at e
  ·cases hx
 ·simp at e
 ·simp at e
def Aie:Nat:=2203318222849
def stepB (n:Net) (l:List Hop) (i:Nat) (h:Hop):Bool:=An h.domain n.domains.length && !(decide (h.kind=3) && (decide (i=0) || decide ((nth n.domains (nth l ((i:Int)-1)).domain).irb<0)))
def Zg (l:List Hop):Int:=Co (λ h=>decide (h.kind=3)) l
def Abh (a:Nat):PacketM:=⟨0,0,64,17,1,a,[]⟩
def irbOf (n:Net) (l:List Hop):Irb:=nth n.irbs (nth n.domains (nth l (Zg l-1)).domain).irb
def frameW (n:Net) (l:List Hop):FrameM:=if 0<Zg l then ⟨Kf (irbOf n l).addr,Aie,2048,(ipPutT (Abh (nth l (Zg l)).addr.toNat)).1⟩ else ⟨281474976710655,Aie,34997,[]⟩
def wayBytes (n:Net) (l:List Hop):List UInt8 × Int:=if Ac n=true∧l≠[]∧Ho (stepB n l) l=true then (Xc (frameW n l),0) else ([],2)
def injectW (n:Net) (from_:Int) (l:List Hop):StepM :=
 ⟨1,from_,0,0,if (nth n.domains (nth l 0).domain).vlan≠(nth n.ports from_).native then Xc (tagT (takeF (wayBytes n l).1).1 (nth n.domains (nth l 0).domain).vlan).1 else (wayBytes n l).1,[]⟩
structure GoM where
 m:MacM
 d:Bool
 out:List StepM
def doW (n:Net) (s:GoM) (x:StepM):GoM:=⟨(doT n s.m x).1,doD n s.m s.d x,s.out++[x]⟩
def pickX (m:MacM) (d:Int):StepM:=⟨2,0,d,if (((if An d m.queues.length then queueL m d else []).length:Int)-1)<0 then 0 else ((if An d m.queues.length then queueL m d else []).length:Int)-1,[],[]⟩
def Xg (n:Net) (s:GoM) (d:Int):GoM:=doW n s (pickX s.m d)
def upW (n:Net) (h:Hop):List Bool:=(List.replicate n.links.length false).set (nth n.ports h.port).link.toNat true
def linkW (n:Net) (s:GoM) (h:Hop):GoM:=if h.kind=1 then doW n s ⟨5,0,0,0,[],upW n h⟩ else s
def goW (n:Net) (from_:Int) (l:List Hop):Nat→GoM
 | 0=>doW n ⟨newT n,false,[]⟩ (injectW n from_ l)
 | k+1=>Xg n (linkW n (goW n from_ l k) (nth l ((k+1:Nat):Int))) (nth l ((k:Nat):Int)).domain
def Aup (n:Net) (from_:Int) (l:List Hop):GoM:=Xg n (goW n from_ l (l.length-1)) (nth l ((l.length:Int)-1)).domain
def wscriptT (n:Net) (from_ to:Int):List StepM × Int :=
 if Mf n from_=true∧Mf n to=true∧from_≠to∧okB n (upsT n)=true then
  (if (wayT n from_ to).2=true then ((Aup n from_ (wayT n from_ to).1).out,0) else ([],31))
 else ([],2)
end Go.Sy.YtiijbikecbjdaaaGreatDoor
namespace Go.Sy.YtiijbikecbjdaaaGreatDoor
section
variable {n:Net} {up:List Bool} {ranks roots costs:List Int}
end
end Go.Sy.YtiijbikecbjdaaaGreatDoor
namespace Go.Sy.YtiijbikecbjdaaaGreatDoor
instance:Inhabited Vec:=⟨⟨0,0,0,0,0⟩⟩
section
variable {n:Net} {up:List Bool} {ranks roots costs:List Int}
end
end Go.Sy.YtiijbikecbjdaaaGreatDoor
