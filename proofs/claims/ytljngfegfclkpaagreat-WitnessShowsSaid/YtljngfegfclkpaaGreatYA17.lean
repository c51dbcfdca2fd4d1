/-
  H2: parts of a proof, joined by program.
-/
import Derived.Test.YtljngfegfclkpaaGreatYA16
import Derived.Test.YtljngfegfclkpaaGreatYA7
set_option linter.all false
set_option linter.unusedVariables false
set_option linter.unusedSimpArgs false
set_option linter.deprecated false
namespace Go.Sy.YtljngfegfclkpaaGreat
open Go.Proofs
attribute [local irreducible] Go.Sy.G Go.Sy.DR
set_option maxRecDepth 100000
set_option maxHeartbeats 4000000
theorem Acu (l:List Hop) (p:Hop→Bool) (f:FuncId) (first cap:List SV) (hc:(SV.clo (.func f) first cap).inn []=true) (hf:∀ x∈l,Hh Tryz.prog f (first++[Cy x]++cap) (Ac (p x))) (hl:Ak l) :
  Sp 25 [.sl 4 Cy l,.clo (.func f) first cap] (Aa (Bg p l)):=cT F25 Tryz.ntmps25 λ F hF=>by
 unfold Ak at hl
 have hin:∀ x:Hop,B7 [] (first++[Cy x]++cap)=true:=λ x=>C2 hc rfl
 refine fW ?_
 refine Bi l.length (λ j=>Ir (λ _ x=>!(p x)) l j) (λ j=>[(0,.sl 4 Cy l),(1,.clo (.func f) first cap),(7,Aa l.length),(8,Aa j)]) (λ _=>[]) [] (Bp _ _) ⟨⟨E,E,A9 _,hc,E,E,E,E,Y⟩,Y,E,E⟩ ?_
 intro j hj hI
 refine fU ?_
 constructor<;>intro h
 ·have h:=zK h
  have hj2:j<l.length:=by omega
  refine fU ?_
  refine⟨E,by omega,by omega,?_⟩
  refine fW ?_
  refine Eg (hf l[j] (zE hj2)) E E E (by simp only[hin];rfl) E E ?_
  refine fU ?_
  constructor<;>intro h2
  ·refine fU ?_
   refine Ap E (.cons .tmp .nil) (zD Aa ?_) E
   exact Cj hj2 (λ i hi hij=>by simpa using hI i hi hij) h2
  ·refine fU ?_
   refine iL ?_
   refine fW ?_
   exact Be [] hI hj2 (Bj hI hj2 (by simp[h2])) ⟨⟨E,E,A9 _,hc,E,E,E,E,Y⟩,Y,E,E⟩
 ·have h:=zN h
  refine fU ?_
  refine Ap E (.cons .tmp .nil) (zD Aa ?_) E
  exact Dg λ i hi=>by simpa using hI i hi q_
theorem Anu (h:Hop):Sp 26 [Cy h] (Ac (decide (h.kind=3))):=cT F26 Tryz.ntmps26 λ F hF=>by
 refine T ?_
 exact D
theorem A0p {α:Type} {p:α→Bool} {l:List α} {i:Int} (h:Bg p l=i) (h0:0≤i):∃ hi:i.toNat<l.length,p l[i.toNat]=true:=by
 rcases Lx p l with ⟨h1,_⟩ | ⟨k,hk,h1,h2,_⟩
 ·omega
 ·have e:i.toNat=k:=by omega
  subst e
  exact⟨hk,h2⟩
theorem Ay9 (a:Nat) (h:a<4294967296):PacketOK (K0 a):=⟨by show 0≤255;decide,by show 0≤65535;decide,by show 64≤255;decide,by show 17≤255;decide,by show 1<4294967296;decide,h⟩
theorem Ava (a:Nat):(ipPutT (K0 a)).1.length=20:=by
 rw[ipPutT,zA (by show ¬ 1480<0;decide)]
 show (Er (K0 a) _++[]).length=20
 rw[xJ]
 rfl
theorem Akm {n:Net} (hu:Dd n) (d:Int):0≤(nth n.irbs d).addr∧(nth n.irbs d).addr<4294967296:=by
 rw[nth]
 cases h:n.irbs[d.toNat]? with
 | none=>exact⟨by decide,by decide⟩
 | some x=>exact hu x (List.mem_of_getElem? h)
theorem Aga {n:Net} (hu:Dd n) (l:List Hop):FrameOK (frameW n l):=by
 unfold frameW
 split
 ·have:=Akm hu (nth n.domains (nth l (Ve l-1)).domain).irb
  refine⟨?_,by show 2203318222849<281474976710656;decide,by show 2048≤65535;decide,?_⟩
  ·show 2199023255552+(irbOf n l).addr.toNat<281474976710656
   unfold irbOf
   omega
  ·show (ipPutT _).1.length≤1504
   rw[Ava];decide
 ·exact⟨by decide,by decide,by decide,by decide⟩
theorem Ae3 (n:Net) (hn:n.Fin) (hu:Dd n) (l:List Hop) (hl:Ak l) (hla:∀ h∈l,0≤h.addr∧h.addr<4294967296) :
  Sp 10 [Aj n,.sl 4 Cy l] (.tup [.sl 1 Al (wayBytes n l).1,Aa (wayBytes n l).2]):=cT F10 Tryz.ntmps10 λ F hF=>by
 have hres:=wayBytes.eq_1 n l
 generalize wayBytes n l=res at *
 have hr:=Av n hn
 have hl2:=hl
 unfold Ak at hl2
 refine fW ?_
 constructor<;>intro h
 ·have h0:l=[]:=zQ (qA h)
  rw[zA (λ x=>x.2.1 h0)]at hres
  subst hres
  refine T ?_
  refine Ao 4 1 Al E ?_
  exact D
 have h0:0<l.length:=qB h
 clear h
 have hne:l≠[]:=λ e=>by rw[e]at h0;simp at h0
 refine Az 2 8 (Aj n) E E E ?_
 refine T ?_
 refine C hr F19 ?_
 cases hb:Ab n
 ·rw[zA (λ x=>by rw[hb]at x;cases x.1)]at hres
  subst hres
  refine T ?_
  refine Ao 4 1 Al E ?_
  exact D
 refine T ?_
 refine Bi l.length (λ j=>Ir (stepB n l) l j) (λ j=>[(1,.sl 4 Cy l),(2,.ref 8 (Aj n) 0),(6,.ptr 6 0),(22,.sl 4 Cy l),(23,Aa l.length),(24,Aa j)]) (λ _=>[(6,.box [Bb 281474976710655,Bb 2203318222849,Aa 34997,.val (.slice none 0 0)])]) [] (Bp _ _) U ?_
 intro j hj hI
 refine T ?_
 constructor<;>intro h
 ·have hlt:j<l.length:=qA h
  have hj0:((j:Nat):Int).toNat<l.length:=by simpa using hlt
  obtain ⟨x,hoo⟩:∃ x,l[j]=x:=⟨_,rfl⟩
  have e1:l[((j:Nat):Int).toNat]'hj0=x:=hoo
  have hst:=stepB.eq_1 n l j x
  have hbad:stepB n l j x=false→res=([],2):=λ h2=>by
   rw[zA (λ y=>by have:=allB_iff.1 y.2.2 j hlt;rw[hoo,h2]at this;cases this)]at hres
   exact hres
  clear h
  refine S ?_
  refine⟨E,by omega,hj0,?_⟩
  rw[e1]
  by_cases hd1:x.domain<0
  ·have hres:=hbad (by rw[hst,Wk q_,zT])
   subst hres
   refine T ?_
   refine Ao 4 1 Al E ?_
   exact D
  by_cases hd2:(n.domains.length:Int)≤x.domain
  ·have hres:=hbad (by rw[hst,Wk q_,zT])
   subst hres
   refine T ?_
   refine Ao 4 1 Al E ?_
   exact D
  have hpl:=Mc (n:=n.domains.length) (i:=x.domain) q_
  rw[hpl,zS]at hst
  by_cases hk:x.kind=3
  rotate_left
  ·rw[zJ hk,zT]at hst
   refine T ?_
   exact Be [] hI hlt (Bj hI hlt (by rw[hoo];exact hst)) U
  rw[zL hk,zS]at hst
  by_cases hj1:j=0
  ·have hres:=hbad (by rw[hst,zL hj1];rfl)
   subst hres
   refine T ?_
   refine Ao 4 1 Al E ?_
   exact D
  rw[zJ hj1,vF]at hst
  have hk1:((j:Int)-1).toNat<l.length:=by omega
  have hpr:=hI (j-1) q_ q_
  have hpr2:Af (l[((j:Int)-1).toNat]'hk1).domain n.domains.length=true:=by
   have e:((j:Int)-1).toNat=j-1:=by omega
   simp only[e]
   unfold stepB at hpr
   simp only[zB]at hpr
   exact hpr.1
  have hpi:=placeB_iff.1 hpr2
  rw[Ae hk1,Ae hpi.2]at hst
  by_cases hir:(n.domains[(l[((j:Int)-1).toNat]'hk1).domain.toNat]'hpi.2).irb<0
  ·have hres:=hbad (by rw[hst,zL hir];rfl)
   subst hres
   refine T ?_
   refine⟨λ _=>?_,λ h=>zW hir (zN h)⟩
   refine T ?_
   refine Ao 4 1 Al E ?_
   exact D
  rw[zJ hir]at hst
  refine T ?_
  refine⟨λ h=>zW (zK h) hir,λ _=>?_⟩
  refine T ?_
  exact Be [] hI hlt (Bj hI hlt (by rw[hoo];exact hst)) U
 ·have hjj:j=l.length:=qB h
  subst hjj
  clear h
  have hall:Ha (stepB n l) l=true:=allB_iff.2 λ i hi=>hI i hi hi
  rw[zC ⟨hb,hne,hall⟩]at hres
  subst hres
  have qi:=Acu l (λ h=>decide (h.kind=3)) 26 [] [] rfl (λ x hx=>⟨⟨_,_,F26⟩,Anu x⟩) hl
  have hri:Bg (λ h=>decide (h.kind=3)) l=Ve l:=rfl
  rw[hri]at qi
  have hlt:=Hj (λ h:Hop=>decide (h.kind=3)) l
  have his:=λ h0=>A0p hri h0
  rw[hri]at hlt
  have q7:=Ld (frameW n l) (Aga hu l)
  have hfw:=frameW.eq_1 n l
  have hirb:=irbOf.eq_1 n l
  generalize irbOf n l=ib at *
  generalize Ve l=r at *
  refine T ?_
  refine C qi F25 ?_
  constructor<;>intro h
  ·have h1:0<r:=zK h
   rw[zC h1]at hfw
   obtain ⟨hr0,hr3⟩:=his q_
   have hst:=allB_iff.1 hall r.toNat hr0
   have hk1:(r-1).toNat<l.length:=by omega
   have hpr2:Af (l[(r-1).toNat]'hk1).domain n.domains.length=true:=by
    have hpr:=allB_iff.1 hall (r-1).toNat hk1
    unfold stepB at hpr
    simp only[zB]at hpr
    exact hpr.1
   have hpi:=placeB_iff.1 hpr2
   unfold stepB at hst
   rw[hr3,show ((r.toNat:Int)-1)=r-1 by omega,Ae hk1,Ae hpi.2]at hst
   simp only[zB,zS,yK,xU,zV]at hst
   have hin:=(Auu hb hpi.2).resolve_left q_
   have hin1:0≤(n.domains[(l[(r-1).toNat]'hk1).domain.toNat]'hpi.2).irb∧(n.domains[(l[(r-1).toNat]'hk1).domain.toNat]'hpi.2).irb.toNat<n.irbs.length:=by unfold InIrbs at hin;omega
   rw[Ae hk1,Ae hpi.2,Ae hin1.2]at hirb
   rw[Ae hr0]at hfw
   have ha:=hla _ (zE hr0)
   have hae:=yQ ha.1
   have hxa:=hu _ (zE hin1.2)
   have hxe:=yQ hxa.1
   have q5:Sp 27 [.agg [Aa 0,Aa 0,Aa 64,Aa 17,A8 1,A8 ((l[r.toNat]'hr0).addr.toNat:Nat),.sl 1 Al []]] (.tup [.sl 1 Al (ipPutT (K0 (l[r.toNat]'hr0).addr.toNat)).1,Aa (ipPutT (K0 (l[r.toNat]'hr0).addr.toNat)).2]):=Ah0 (K0 (l[r.toNat]'hr0).addr.toNat) (Ay9 _ q_) (by show 0<100000;decide)
   rw[hae]at q5
   have q6:=Af1 (n.irbs[(n.domains[(l[(r-1).toNat]'hk1).domain.toNat]'hpi.2).irb.toNat]'hin1.2).addr.toNat q_
   rw[hxe]at q6
   subst hirb
   rw[hfw]at q7 ⊢
   clear hfw
   generalize (ipPutT (K0 (l[r.toNat]'hr0).addr.toNat)).1=bo at *
   refine T ?_
   refine G_vw 74 (.agg [Aa 0,Aa 0,Aa 64,Aa 17,A8 1,A8 (l[r.toNat]'hr0).addr,.sl 1 Al []]) (.agg vL) ?_
   refine C q5 F27 ?_
   refine C q6 F28 ?_
   refine Ag (Ad [(0,999)] E F29 q7 E Y E ⟨.inr E,Y⟩) E E ?_
   refine Ai 999 E ?_
   refine T ?_
   exact D
  ·have h1:¬ 0<r:=zN h
   rw[zA h1]at hfw
   rw[hfw]at q7 ⊢
   clear hfw
   refine T ?_
   refine G_vw 99 (.agg [Bb 281474976710655,Bb J2,Aa 34997,.sl 1 Al []]) (.agg vL) ?_
   refine Ag (Ad [(0,999)] E F29 q7 E Y E ⟨.inr E,Y⟩) E E ?_
   refine Ai 999 E ?_
   refine T ?_
   exact D
end Go.Sy.YtljngfegfclkpaaGreat
