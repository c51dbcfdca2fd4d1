/-
  H2 H3 H4 H7 NB0 NB1 NB2 NB14 NB15 NB3 NB4 I26 NB5 NB6 NB7 NB8 NB9 NB10 NB11: parts of a proof, joined by program.
-/
import Derived.Test.YtcflgpijohhfbaaGreatXS8
import Derived.Test.YtcflgpijohhfbaaGreatXS4
import Derived.Test.YtcflgpijohhfbaaGreatXS5
import Derived.Test.YtcflgpijohhfbaaGreatXS7
import Derived.Test.YtcflgpijohhfbaaGreatXS6
import Derived.Test.YtcflgpijohhfbaaGreatXS3
set_option linter.all false
set_option linter.unusedVariables false
set_option linter.unusedSimpArgs false
set_option linter.deprecated false
namespace Go.Sy.YtcflgpijohhfbaaGreat
open Go.Proofs
attribute [local irreducible] Go.Sy.G Go.Sy.DR
set_option maxRecDepth 100000
set_option maxHeartbeats 4000000
theorem Zg (l:List Hop) (p:Hop→Bool) (f:FuncId) (first cap:List SV) (hc:(SV.clo (.func f) first cap).inn []=true) (hf:∀ x∈l,Ek Tryz.prog f (first++[Cf x]++cap) (Ab (p x))) (hl:Ak l) :
  Sy.Spec Tryz.prog 24 [.sl 4 Cf l,.clo (.func f) first cap] [] (Aa (B9 p l)) []:=cT F24 Tryz.ntmps24 fun F hF=>by
 unfold Ak at hl
 have hin:∀ x:Hop,By [] (first++[Cf x]++cap)=true:=fun x=>Cj hc rfl
 refine fW ?_
 refine Be l.length (fun j=>Hk (fun _ x=>!(p x)) l j) (fun j=>[(0,.sl 4 Cf l),(1,.clo (.func f) first cap),(7,Aa l.length),(8,Aa j)]) (fun _=>[]) [] (Bk _ _) ⟨⟨E,E,A5 _,hc,E,E,E,E,Y⟩,Y,E,E⟩ ?_
 intro j hj hI
 refine fU ?_
 refine⟨fun h=>?_,fun h=>?_⟩
 ·have h:=of_decide_eq_true h
  have hj2:j<l.length:=by omega
  refine fU ?_
  refine⟨E,by omega,by omega,?_⟩
  refine fW ?_
  refine Dq (hf l[j] (List.getElem_mem hj2)) E E E (by simp only[hin];rfl) E E ?_
  refine fU ?_
  refine⟨fun h2=>?_,fun h2=>?_⟩
  ·refine fU ?_
   refine Ap E (.cons .tmp .nil) (congrArg Aa ?_) E
   exact Cm hj2 (fun i hi hij=>by simpa using hI i hi hij) h2
  ·refine fU ?_
   refine iL ?_
   refine fW ?_
   exact Bb [] hI hj2 (Bf hI hj2 (by simp[h2])) ⟨⟨E,E,A5 _,hc,E,E,E,E,Y⟩,Y,E,E⟩
 ·have h:=of_decide_eq_false h
  refine fU ?_
  refine Ap E (.cons .tmp .nil) (congrArg Aa ?_) E
  exact Cy fun i hi=>by simpa using hI i hi q_
theorem Ais (h:Hop):Sy.Spec Tryz.prog 25 [Cf h] [] (Ab (decide (h.kind=3))) []:=cT F25 Tryz.ntmps25 fun F hF=>by
 refine T ?_
 exact D
theorem At8 {α:Type} {p:α→Bool} {l:List α} {i:Int} (h:B9 p l=i) (h0:0≤i):∃ hi:i.toNat<l.length,p l[i.toNat]=true:=by
 rcases Ma p l with ⟨h1,_⟩ | ⟨k,hk,h1,h2,_⟩
 ·omega
 ·have e:i.toNat=k:=by omega
  subst e
  exact⟨hk,h2⟩
theorem Asv (a:Nat) (h:a<4294967296):PacketOK (Xf a):=⟨by show 0≤255;decide,by show 0≤65535;decide,by show 64≤255;decide,by show 17≤255;decide,by show 1<4294967296;decide,h⟩
theorem Ao6 (a:Nat):(ipPutT (Xf a)).1.length=20:=by
 rw[ipPutT,if_neg (by show ¬ 1480<0;decide)]
 show (Ig (Xf a) _++[]).length=20
 rw[List.append_nil]
 rfl
theorem Af9 {n:Net} (hu:Cr n) (d:Int):0≤(nth n.irbs d).addr∧(nth n.irbs d).addr<4294967296:=by
 rw[nth]
 cases h:n.irbs[d.toNat]? with
 | none=>exact⟨by decide,by decide⟩
 | some x=>exact hu x (List.mem_of_getElem? h)
theorem Acg {n:Net} (hu:Cr n) (l:List Hop):FrameOK (frameW n l):=by
 unfold frameW
 split
 ·have:=Af9 hu (nth n.domains (nth l (Vs l-1)).domain).irb
  refine⟨?_,by show 2203318222849<281474976710656;decide,by show 2048≤65535;decide,?_⟩
  ·show 2199023255552+(irbOf n l).addr.toNat<281474976710656
   unfold irbOf
   omega
  ·show (ipPutT _).1.length≤1504
   rw[Ao6];decide
 ·exact⟨by decide,by decide,by decide,by decide⟩
theorem Abh (n:Net) (hn:n.Fin) (hu:Cr n) (l:List Hop) (hl:Ak l) (hla:∀ h∈l,0≤h.addr∧h.addr<4294967296) :
  Sy.Spec Tryz.prog 9 [Aj n,.sl 4 Cf l] [] (.tup [.sl 1 Al (wayBytes n l).1,Aa (wayBytes n l).2]) []:=cT F9 Tryz.ntmps9 fun F hF=>by
 have hres:=wayBytes.eq_1 n l
 generalize wayBytes n l=res at *
 have hr:=At n hn
 have hl2:=hl
 unfold Ak at hl2
 refine fW ?_
 refine⟨fun h=>?_,fun h=>?_⟩
 ·have h0:l=[]:=List.eq_nil_of_length_eq_zero (qA h)
  rw[if_neg (fun x=>x.2.1 h0)]at hres
  subst hres
  refine T ?_
  refine Ao 4 1 Al E ?_
  exact D
 have h0:0<l.length:=qB h
 clear h
 have hne:l≠[]:=fun e=>by rw[e]at h0;simp at h0
 refine Aw 2 8 (Aj n) E E E ?_
 refine T ?_
 refine C hr F12 ?_
 cases hb:Ac n
 ·rw[if_neg (fun x=>by rw[hb]at x;cases x.1)]at hres
  subst hres
  refine T ?_
  refine Ao 4 1 Al E ?_
  exact D
 refine T ?_
 refine Be l.length (fun j=>Hk (stepB n l) l j) (fun j=>[(1,.sl 4 Cf l),(2,.ref 8 (Aj n) 0),(6,.ptr 6 0),(22,.sl 4 Cf l),(23,Aa l.length),(24,Aa j)]) (fun _=>[(6,.box [A9 281474976710655,A9 2203318222849,Aa 34997,.val (.slice none 0 0)])]) [] (Bk _ _) U ?_
 intro j hj hI
 refine T ?_
 refine⟨fun h=>?_,fun h=>?_⟩
 ·have hlt:j<l.length:=qA h
  have hj0:((j:Nat):Int).toNat<l.length:=by simpa using hlt
  obtain ⟨x,hoo⟩:∃ x,l[j]=x:=⟨_,rfl⟩
  have e1:l[((j:Nat):Int).toNat]'hj0=x:=hoo
  have hst:=stepB.eq_1 n l j x
  have hbad:stepB n l j x=false→res=([],2):=fun h2=>by
   rw[if_neg (fun y=>by have:=allB_iff.1 y.2.2 j hlt;rw[hoo,h2]at this;cases this)]at hres
   exact hres
  clear h
  refine S ?_
  refine⟨E,by omega,hj0,?_⟩
  rw[e1]
  by_cases hd1:x.domain<0
  ·have hres:=hbad (by rw[hst,Tx q_,Bool.false_and])
   subst hres
   refine T ?_
   refine Ao 4 1 Al E ?_
   exact D
  by_cases hd2:(n.domains.length:Int)≤x.domain
  ·have hres:=hbad (by rw[hst,Tx q_,Bool.false_and])
   subst hres
   refine T ?_
   refine Ao 4 1 Al E ?_
   exact D
  have hpl:=Kg (n:=n.domains.length) (i:=x.domain) q_
  rw[hpl,Bool.true_and]at hst
  by_cases hk:x.kind=3
  rotate_left
  ·rw[decide_eq_false hk,Bool.false_and]at hst
   refine T ?_
   exact Bb [] hI hlt (Bf hI hlt (by rw[hoo];exact hst)) U
  rw[decide_eq_true hk,Bool.true_and]at hst
  by_cases hj1:j=0
  ·have hres:=hbad (by rw[hst,decide_eq_true hj1];rfl)
   subst hres
   refine T ?_
   refine Ao 4 1 Al E ?_
   exact D
  rw[decide_eq_false hj1,Bool.false_or]at hst
  have hk1:((j:Int)-1).toNat<l.length:=by omega
  have hpr:=hI (j-1) q_ q_
  have hpr2:Ai (l[((j:Int)-1).toNat]'hk1).domain n.domains.length=true:=by
   have e:((j:Int)-1).toNat=j-1:=by omega
   simp only[e]
   unfold stepB at hpr
   simp only[Bool.and_eq_true]at hpr
   exact hpr.1
  have hpi:=placeB_iff.1 hpr2
  rw[Ae hk1,Ae hpi.2]at hst
  by_cases hir:(n.domains[(l[((j:Int)-1).toNat]'hk1).domain.toNat]'hpi.2).irb<0
  ·have hres:=hbad (by rw[hst,decide_eq_true hir];rfl)
   subst hres
   refine T ?_
   refine⟨fun _=>?_,fun h=>absurd hir (of_decide_eq_false h)⟩
   refine T ?_
   refine Ao 4 1 Al E ?_
   exact D
  rw[decide_eq_false hir]at hst
  refine T ?_
  refine⟨fun h=>absurd (of_decide_eq_true h) hir,fun _=>?_⟩
  refine T ?_
  exact Bb [] hI hlt (Bf hI hlt (by rw[hoo];exact hst)) U
 ·have hjj:j=l.length:=qB h
  subst hjj
  clear h
  have hall:Er (stepB n l) l=true:=allB_iff.2 fun i hi=>hI i hi hi
  rw[if_pos ⟨hb,hne,hall⟩]at hres
  subst hres
  have qi:=Zg l (fun h=>decide (h.kind=3)) 25 [] [] rfl (fun x hx=>⟨⟨_,_,F25⟩,Ais x⟩) hl
  have hri:B9 (fun h=>decide (h.kind=3)) l=Vs l:=rfl
  rw[hri]at qi
  have hlt:=Em (fun h:Hop=>decide (h.kind=3)) l
  have his:=fun h0=>At8 hri h0
  rw[hri]at hlt
  have q7:=Jk (frameW n l) (Acg hu l)
  have hfw:=frameW.eq_1 n l
  have hirb:=irbOf.eq_1 n l
  generalize irbOf n l=ib at *
  generalize Vs l=r at *
  refine T ?_
  refine C qi F24 ?_
  refine⟨fun h=>?_,fun h=>?_⟩
  ·have h1:0<r:=of_decide_eq_true h
   rw[if_pos h1]at hfw
   obtain ⟨hr0,hr3⟩:=his q_
   have hst:=allB_iff.1 hall r.toNat hr0
   have hk1:(r-1).toNat<l.length:=by omega
   have hpr2:Ai (l[(r-1).toNat]'hk1).domain n.domains.length=true:=by
    have hpr:=allB_iff.1 hall (r-1).toNat hk1
    unfold stepB at hpr
    simp only[Bool.and_eq_true]at hpr
    exact hpr.1
   have hpi:=placeB_iff.1 hpr2
   unfold stepB at hst
   rw[hr3,show ((r.toNat:Int)-1)=r-1 by omega,Ae hk1,Ae hpi.2]at hst
   simp only[Bool.and_eq_true,Bool.true_and,Bool.not_eq_true',Bool.or_eq_false_iff,decide_eq_false_iff_not]at hst
   have hin:=(Aoq hb hpi.2).resolve_left q_
   have hin1:0≤(n.domains[(l[(r-1).toNat]'hk1).domain.toNat]'hpi.2).irb∧(n.domains[(l[(r-1).toNat]'hk1).domain.toNat]'hpi.2).irb.toNat<n.irbs.length:=by unfold InIrbs at hin;omega
   rw[Ae hk1,Ae hpi.2,Ae hin1.2]at hirb
   rw[Ae hr0]at hfw
   have ha:=hla _ (List.getElem_mem hr0)
   have hae:=Int.toNat_of_nonneg ha.1
   have hxa:=hu _ (List.getElem_mem hin1.2)
   have hxe:=Int.toNat_of_nonneg hxa.1
   have q5:Sy.Spec Tryz.prog 26 [.agg [Aa 0,Aa 0,Aa 64,Aa 17,A4 1,A4 ((l[r.toNat]'hr0).addr.toNat:Nat),.sl 1 Al []]] [] (.tup [.sl 1 Al (ipPutT (Xf (l[r.toNat]'hr0).addr.toNat)).1,Aa (ipPutT (Xf (l[r.toNat]'hr0).addr.toNat)).2]) []:=Adx (Xf (l[r.toNat]'hr0).addr.toNat) (Asv _ q_) (by show 0<100000;decide)
   rw[hae]at q5
   have q6:=Ab9 (n.irbs[(n.domains[(l[(r-1).toNat]'hk1).domain.toNat]'hpi.2).irb.toNat]'hin1.2).addr.toNat q_
   rw[hxe]at q6
   subst hirb
   rw[hfw]at q7 ⊢
   clear hfw
   generalize (ipPutT (Xf (l[r.toNat]'hr0).addr.toNat)).1=bo at *
   refine T ?_
   refine G_vw 74 (.agg [Aa 0,Aa 0,Aa 64,Aa 17,A4 1,A4 (l[r.toNat]'hr0).addr,.sl 1 Al []]) (.agg vL) ?_
   refine C q5 F26 ?_
   refine C q6 F27 ?_
   refine Af (Ad [(0,999)] E F28 q7 E Y E ⟨.inr E,Y⟩) E E ?_
   refine Ah 999 E ?_
   refine T ?_
   exact D
  ·have h1:¬ 0<r:=of_decide_eq_false h
   rw[if_neg h1]at hfw
   rw[hfw]at q7 ⊢
   clear hfw
   refine T ?_
   refine G_vw 99 (.agg [A9 281474976710655,A9 Xu,Aa 34997,.sl 1 Al []]) (.agg vL) ?_
   refine Af (Ad [(0,999)] E F28 q7 E Y E ⟨.inr E,Y⟩) E E ?_
   refine Ah 999 E ?_
   refine T ?_
   exact D
theorem Abl (b:List UInt8):FrameOK (takeF b).1:=by
 by_cases h:(takeF b).2=0
 ·exact X8 h
 ·rw[Amo h];exact Da
theorem Ae4 {f:FrameM} (hf:FrameOK f) (v:Nat) (hv:v≤4094):FrameOK (tagT f v).1:=by
 by_cases h:(tagT f v).2=0
 ·exact Apt hf v hv h
 ·unfold tagT at h ⊢
  split
  ·exact Da
  ·rename_i h1
   rw[if_neg h1]at h
   split
   ·exact Da
   ·rename_i h2
    rw[if_neg h2]at h
    exact absurd E h
theorem Te {n:Net} (hu:Cr n) (l:List Hop):(wayBytes n l).1.length≤1518:=by
 unfold wayBytes
 split
 ·show (Sp _).length≤1518
  rw[Ho]
  have:=(Acg hu l).body
  omega
 ·show 0≤1518;decide
theorem Ah3 (n:Net) (hn:n.Fin) (hu:Cr n) (hb:Ac n=true) (port:Int) (hp:0≤port∧port.toNat<n.ports.length) (l:List Hop) (hl:Ak l) (hla:∀ h∈l,Vc n h) (h0:0<l.length) :
  Sy.Spec Tryz.prog 23 [Aj n,Aa port,.sl 4 Cf l] [] (Eh (injectW n port l)) []:=cT F23 Tryz.ntmps23 fun F hF=>by
 have hk0:(0:Int).toNat<l.length:=h0
 have hd:=hla _ (List.getElem_mem hk0)
 have q1:=Abh n hn hu l hl (fun h hh=>(hla h hh).2)
 have hwl:=Te (n:=n) hu l
 have hv:=S2 hb hd.1.2
 have hres:=injectW.eq_1 n port l
 rw[Ae hk0,Ae hd.1.2,Ae hp.2]at hres
 generalize injectW n port l=res at *
 obtain ⟨ve,hve⟩:∃ v:Nat,(n.domains[(l[(0:Int).toNat]'hk0).domain.toNat]'hd.1.2).vlan=v:=⟨_,(Int.toNat_of_nonneg q_).symm⟩
 have hd1:0≤(l[(0:Int).toNat]'hk0).domain∧(l[(0:Int).toNat]'hk0).domain.toNat<n.domains.length:=hd.1
 have q3:=fun f hf=>Ae5 f ve hf q_
 have ho:=fun f hf=>Ae4 (f:=f) hf ve q_
 rw[← hve]at q3 ho
 clear hve
 generalize wayBytes n l=bb at *
 have q2:=Mb bb.1 q_
 have hf:=Abl bb.1
 generalize takeF bb.1=tk at *
 have q3:=q3 _ hf
 have q4:=Jk _ (ho _ hf)
 clear ho
 refine fW ?_
 refine Aw 3 8 (Aj n) E E E ?_
 refine T ?_
 refine C q1 F9 ?_
 refine⟨fun h=>?_,fun h=>?_⟩
 ·have hv2:(n.domains[(l[(0:Int).toNat]'hk0).domain.toNat]'hd.1.2).vlan≠(n.ports[port.toNat]'hp.2).native:=by simpa using h
  rw[if_pos hv2]at hres
  clear h hv hv2
  generalize tagT tk.1 (n.domains[(l[(0:Int).toNat]'hk0).domain.toNat]'hd.1.2).vlan=tg at *
  subst hres
  refine T ?_
  refine C q2 F67 ?_
  refine C q3 F68 ?_
  refine Af (Ad [(0,55)] E F28 q4 E Y E ⟨.inr E,Y⟩) E E ?_
  refine Ah 55 E ?_
  refine T ?_
  refine Am 6 [Aa 1,Aa port,Aa 0,Aa 0,.sl 1 Al (Sp tg.1),.sl 1 Ab []] E vL ?_
  exact D
 ·have hv2:¬ (n.domains[(l[(0:Int).toNat]'hk0).domain.toNat]'hd.1.2).vlan≠(n.ports[port.toNat]'hp.2).native:=by simpa using h
  rw[if_neg hv2]at hres
  subst hres
  refine T ?_
  refine Am 6 [Aa 1,Aa port,Aa 0,Aa 0,.sl 1 Al bb.1,.sl 1 Ab []] E vL ?_
  exact D
abbrev stO (n:Net) (s:GoM):Obs:=[(0,.box (M3 n 1 s.m.now s.m.injected s.m.drops)),(1,.box (Is n s.m.up s.d)),(2,.row 1 K4 s.m.tables),(3,.row 1 Mp s.m.queues),(5,.box [.ptr 0 0]),(6,.box [.osl 7]),(7,.row 6 Eh s.out)]
abbrev stN (n:Net) (s:GoM):Obs:=[(0,.box (M3 n 4 s.m.now s.m.injected s.m.drops)),(1,.non),(2,.row 1 K4 s.m.tables),(3,.row 1 Mp s.m.queues),(4,.box (Is n s.m.up s.d)),(5,.box [.ptr 0 0]),(6,.box [.osl 8]),(7,.non),(8,.row 6 Eh s.out)]
abbrev doSV:SV:=.clo (.func 19) [] [.ptr 5 0,.ptr 6 0]
abbrev pkO (n:Net) (s:GoM):Obs:=[(0,.box (M3 n 1 s.m.now s.m.injected s.m.drops)),(1,.box (Is n s.m.up s.d)),(2,.row 1 K4 s.m.tables),(3,.row 1 Mp s.m.queues),(5,.box [.ptr 0 0]),(6,.box [.osl 7]),(7,.row 6 Eh s.out),(9,.box [doSV])]
abbrev pkN (n:Net) (s:GoM):Obs:=[(0,.box (M3 n 4 s.m.now s.m.injected s.m.drops)),(1,.non),(2,.row 1 K4 s.m.tables),(3,.row 1 Mp s.m.queues),(4,.box (Is n s.m.up s.d)),(5,.box [.ptr 0 0]),(6,.box [.osl 8]),(7,.non),(8,.row 6 Eh s.out),(9,.box [doSV])]
theorem Apd (n:Net) (hn:n.Fin) (hm1:n.Num) (s:GoM) (J D:Int) (hm0:MacOK n s.m J D) (hJ:J<900000000000) (hD0:0≤D) (hD:D≤900000000000) (hlen:s.out.length<1000000) (x:StepM) (hb:x.bytes.length<100000) :
  Sy.Spec Tryz.prog 19 [Eh x,.ptr 5 0,.ptr 6 0] (stO n s) (.tup []) (stN n (doW n s x)):=cT F19 Tryz.ntmps19 fun F hF=>by
 have q1:=Ap6 n hn hm1 s.m s.d J D hm0 hJ hD0 hD x hb
 have hres:=doW.eq_1 n s x
 generalize doT n s.m x=r at *
 generalize doD n s.m s.d x=dd at *
 generalize doW n s x=res at *
 subst hres
 refine fW ?_
 refine X (Ur (d:=900) E E E) ?_
 refine X (Ad [] E F20 q1 E W E V) ?_
 refine X (Ag Γ.toTy 8 E E E E E (.row E) (.lit (e:=Eh) (l:=[x]) E E) y_ (by simp;omega) (by simp;omega)) ?_
 exact A1 E .nil [] (stN n ⟨r.1,dd,s.out++[x]⟩) (fun _ h=>h) E E U
theorem As0 (n:Net) (hn:n.Fin) (hm1:n.Num) (m:MacM) (d:Bool) (J D:Int) (hm0:MacOK n m J D) (hJ:J<900000000000) (hD0:0≤D) (hD:D≤900000000000) (x:StepM) (hb:x.bytes.length<100000) :
  Sy.Spec Tryz.prog 19 [Eh x,.ptr 5 0,.ptr 6 0] [(0,.box (M3 n 1 m.now m.injected m.drops)),(1,.box (Is n m.up d)),(2,.row 1 K4 m.tables),(3,.row 1 Mp m.queues),(5,.box [.ptr 0 0]),(6,.box [.val (.slice none 0 0)])] (.tup [])
   [(0,.box (M3 n 4 (doW n ⟨m,d,[]⟩ x).m.now (doW n ⟨m,d,[]⟩ x).m.injected (doW n ⟨m,d,[]⟩ x).m.drops)),(1,.non),(2,.row 1 K4 (doW n ⟨m,d,[]⟩ x).m.tables),(3,.row 1 Mp (doW n ⟨m,d,[]⟩ x).m.queues),(4,.box (Is n (doW n ⟨m,d,[]⟩ x).m.up (doW n ⟨m,d,[]⟩ x).d)),(5,.box [.ptr 0 0]),(6,.box [.osl 8]),(8,.row 6 Eh (doW n ⟨m,d,[]⟩ x).out)]:=cT F19 Tryz.ntmps19 fun F hF=>by
 have q1:=Ap6 n hn hm1 m d J D hm0 hJ hD0 hD x hb
 have hres:=doW.eq_1 n ⟨m,d,[]⟩ x
 dsimp only at hres
 generalize doT n m x=r at *
 generalize doD n m d x=dd at *
 generalize doW n ⟨m,d,[]⟩ x=res at *
 subst hres
 refine fW ?_
 refine X (Ur (d:=900) E E E) ?_
 refine X (Ad [] E F20 q1 E W E V) ?_
 refine X (Ag Γ.toTy 8 E E E E E .nil (.lit (e:=Eh) (l:=[x]) E E) y_ y_ y_) ?_
 exact A1 E .nil [] [(0,.box (M3 n 4 r.1.now r.1.injected r.1.drops)),(1,.non),(2,.row 1 K4 r.1.tables),(3,.row 1 Mp r.1.queues),(4,.box (Is n r.1.up dd)),(5,.box [.ptr 0 0]),(6,.box [.osl 8]),(8,.row 6 Eh ([]++[x]))] (fun _ h=>h) E E U
theorem Aoi {P:Program} {o:Oper} {s:SS} {x y:Operand} {at_:Array TypeId} {k k':IntKind} {m n r:Int} (hr:(if m<n then n else m)=r) (h:o.op=.call ⟨.builtin .max,#[x,y],at_⟩)
  (hx:ev s x=.val (.int k m)) (hy:ev s y=.val (.int k' n)):Good P o s ⟨.val (.int k r),[],[]⟩:=by
 subst hr
 exact Good.pure fun κ a w _ hr ho=>by
  have h1:=hr x (by simp[h,Op.operands,Call.operands])
  have h2:=hr y (by simp[h,Op.operands,Call.operands])
  rw[hx]at h1
  rw[hy]at h2
  refine⟨.int k (if m<n then n else m),?_,by simp[Rd]⟩
  simp[execOp,h,resolve,invoke,builtin,Builtin.max_,Builtin.max2,h1.val,h2.val]
theorem X2 (n:Net) (hn:n.Fin) (hm1:n.Num) (s:GoM) (J D:Int) (hm0:MacOK n s.m J D) (hJ:J<900000000000) (hD0:0≤D) (hD:D≤900000000000) (hlen:s.out.length<1000000) (dom:Int) :
  Sy.Spec Tryz.prog 21 [Aa dom,.ptr 9 0,.ptr 5 0] (pkO n s) (.tup []) (pkN n (Yu n s dom)):=cT F21 Tryz.ntmps21 fun F hF=>by
 have hqo:=Ey hm0 dom
 have q1:=Am2 n s.m s.d dom hqo
 have q2:=Apd n hn hm1 s J D hm0 hJ hD0 hD hlen (pickX s.m dom) (by show 0<100000;decide)
 rw[Yu]
 generalize doW n s (pickX s.m dom)=res at *
 have hpx:=pickX.eq_1 s.m dom
 have hql:(if Ai dom s.m.queues.length=true then queueL s.m dom else []).length<1000000:=by
  have:=hqo.1
  split
  ·omega
  ·simp
 generalize (if Ai dom s.m.queues.length=true then queueL s.m dom else [])=qs at *
 obtain ⟨v,hv⟩:∃ v:Int,(if (qs.length:Int)-1<0 then 0 else (qs.length:Int)-1)=v:=⟨_,rfl⟩
 rw[hv]at hpx
 generalize pickX s.m dom=px at *
 subst hpx
 refine T ?_
 refine Xe (Ad [] E F22 q1 E W E V) ?_
 refine Xd (Aoi hv E E E) ?_
 refine Xd (Hq [] [] (B4 E E F19) q2 (.cons (.agg vL) (.cons (.refl _) (.cons (.refl _) .nil))) W E V E) ?_
 exact A1 E .nil [] (pkN n res) (fun _ h=>h) E E U
end Go.Sy.YtcflgpijohhfbaaGreat
namespace Go.Sy.YtcflgpijohhfbaaGreat
open Go.Proofs
theorem Aea {n:Net} (hn:n.Fin) (hm1:n.Num) {s:GoM} {J D:Int} (h:MacOK n s.m J D) (hJ:0≤J) (hD:0≤D) (x:StepM):MacOK n (doW n s x).m (J+1) (D+4294967298)∧(doW n s x).out.length=s.out.length+1 :=
 ⟨doT_ok hn hm1 h hJ hD x,by simp[doW]⟩
theorem Arc {n:Net} (hn:n.Fin) (hm1:n.Num) {s:GoM} {J D:Int} (h:MacOK n s.m J D) (hJ:0≤J) (hD:0≤D) (x:Hop):MacOK n (linkW n s x).m (J+1) (D+4294967298)∧(linkW n s x).out.length≤s.out.length+1:=by
 unfold linkW
 split
 ·have:=Aea hn hm1 h hJ hD ⟨5,0,0,0,[],upW n x⟩
  exact⟨this.1,by omega⟩
 ·exact⟨h.mono q_ q_,by omega⟩
theorem Arw {n:Net} (hn:n.Fin) (hm1:n.Num) (from_:Int) (l:List Hop):∀ k:Nat,MacOK n (goW n from_ l k).m (1+2 * k) ((1+2 * k) * 4294967298)∧(goW n from_ l k).out.length≤1+2 * k
 | 0=>by
  have:=Aea hn hm1 (s:=⟨newT n,false,[]⟩) (Aln n) (Int.le_refl _) (Int.le_refl _) (injectW n from_ l)
  rw[goW]
  exact⟨this.1.mono q_ q_,by rw[this.2];simp⟩
 | k+1=>by
  obtain ⟨h1,h2⟩:=Arw hn hm1 from_ l k
  rw[goW]
  have h3:=Arc hn hm1 h1 q_ q_ (nth l ((k+1:Nat):Int))
  have h4:=Aea hn hm1 h3.1 q_ q_ (pickX (linkW n (goW n from_ l k) (nth l ((k+1:Nat):Int))).m (nth l ((k:Nat):Int)).domain)
  refine⟨h4.1.mono q_ q_,?_⟩
  have h5:=h4.2
  unfold Yu
  omega
theorem Agv {n:Net} (hu:Cr n) (hb:Ac n=true) (from_:Int) {l:List Hop} (h0:0<l.length) (hla:∀ h∈l,Vc n h):(injectW n from_ l).bytes.length<100000:=by
 have hk0:(0:Int).toNat<l.length:=h0
 have hd:=hla _ (List.getElem_mem hk0)
 have hv:=S2 hb hd.1.2
 show (if _ then _ else _:List UInt8).length<100000
 rw[Ae hk0,Ae hd.1.2]
 obtain ⟨ve,hve⟩:∃ v:Nat,(n.domains[(l[(0:Int).toNat]'hk0).domain.toNat]'hd.1.2).vlan=v:=⟨_,(Int.toNat_of_nonneg q_).symm⟩
 rw[hve]
 split
 ·rw[Ho]
  have:=(Ae4 (Abl (wayBytes n l).1) ve q_).body
  omega
 ·have:=Te (n:=n) hu l
  omega
attribute [local irreducible] Go.Sy.G Go.Sy.DR
set_option maxRecDepth 100000
set_option maxHeartbeats 8000000
theorem X1 (n:Net) (hn:n.Fin) (hm1:n.Num) (hu:Cr n) (from_ to:Int) :
  Sy.Spec Tryz.prog 8 [Aj n,Aa from_,Aa to] [] (.tup [.sl 6 Eh (wscriptT n from_ to).1,Aa (wscriptT n from_ to).2]) []:=cT F8 Tryz.ntmps8 fun F hF=>by
 have hlk:=wscriptT.eq_1 n from_ to
 generalize wscriptT n from_ to=res at *
 have h1:=Td n from_
 have h2:=Td n to
 have hls:=hn.links
 unfold Ak at hls
 refine fW ?_
 refine Aw 3 8 (Aj n) E E E ?_
 refine T ?_
 refine C h1 F11 ?_
 cases hf:H9 n from_
 ·rw[if_neg (fun x=>by rw[hf]at x;cases x.1)]at hlk
  subst hlk
  refine T ?_
  refine Ao 6 6 Eh E ?_
  exact D
 refine T ?_
 refine C h2 F11 ?_
 cases ht:H9 n to
 ·rw[if_neg (fun x=>by rw[ht]at x;cases x.2.1)]at hlk
  subst hlk
  refine T ?_
  refine Ao 6 6 Eh E ?_
  exact D
 refine T ?_
 refine⟨fun h=>?_,fun h=>?_⟩
 ·rw[if_neg (fun x=>x.2.2.1 (by simpa using h))]at hlk
  subst hlk
  refine T ?_
  refine Ao 6 6 Eh E ?_
  exact D
 have hne:from_≠to:=by simpa using h
 clear h
 refine T ?_
 cases hok:okB n (upsT n)
 ·rw[if_neg (fun x=>by rw[hok]at x;cases x.2.2.2)]at hlk
  subst hlk
  refine C (Ain n hn hok) F18 ?_
  refine Ao 6 6 Eh E ?_
  exact D
 rw[if_pos ⟨hf,ht,hne,hok⟩]at hlk
 refine X (Ad [(0,800),(1,801),(2,802),(3,803)] E F18 (Ati n hn hok) E Y E V) ?_
 have q2:=As1 n hn hu from_ to
 have hfac:=@wayT_facts n hu from_ to
 have hlnk:=@way_links n from_ to
 have hsh:Ak (wayT n from_ to).1∨True:=.inr trivial
 generalize wayT n from_ to=wr at *
 obtain ⟨l,ok⟩:=wr
 cases ok
 ·rw[if_neg y_]at hlk
  subst hlk
  refine C q2 F7 ?_
  refine Ao 6 6 Eh E ?_
  exact D
 rw[if_pos rfl]at hlk
 obtain ⟨hla,hlen,hlne,hb⟩:=hfac rfl
 have hlk2:=hlnk rfl
 clear hfac hlnk hsh
 dsimp only at *
 have hfe:=Ahb hb
 have h0:0<l.length:=List.length_pos_iff.2 hlne
 have hsl:Ak l:=by unfold Ak;omega
 have hp:=J4 hf
 have q3:=Ah3 n hn hu hb from_ hp l hsl hla h0
 have q4:=As0 n hn hm1 (newT n) false 0 0 (Aln n) q_ q_ q_ (injectW n from_ l) (Agv hu hb from_ h0 hla)
 rw[show doW n ⟨newT n,false,[]⟩ (injectW n from_ l)=goW n from_ l 0 from rfl]at q4
 refine C q2 F7 ?_
 refine C q3 F23 ?_
 refine Xd (Bs [(0,800),(1,801),(2,802),(3,803),(4,804),(5,8),(6,12),(8,805)] (B4 E E F19) q4 E W E V) ?_
 have hdl:(l.drop 1).length=l.length-1:=by simp
 refine X (Aa3 (lo:=1) (hi:=l.length) Γ.toTy (l.drop 1) E E E E (.inr ⟨_,_,E,E⟩) (.inl ⟨E,E⟩) q_ (Nat.le_refl _) (by rw[List.take_length])) ?_
 clear q2 q3 q4
 refine A3 (l.drop 1).length (fun j=>[(3,.ref 8 (Aj n) 0),(10,.sl 4 Cf l),(12,.ptr 6 0),(13,.ptr 9 0),(14,.clo (.func 21) [] [.ptr 9 0,.ptr 5 0]),(58,.sl 4 Cf (l.drop 1)),(59,Aa (l.drop 1).length),(60,Aa j)]) (fun j=>pkO n (goW n from_ l j))
  [(0,800),(1,804),(2,802),(3,803),(5,8),(6,12),(7,805),(9,13)] U ?_
 intro j hj
 obtain ⟨hm0,hol⟩:=Arw hn hm1 from_ l j
 refine T ?_
 refine⟨fun h=>?_,fun h=>?_⟩
 ·have hlt:j<(l.drop 1).length:=qA h
  have hj0:((j:Nat):Int).toNat<(l.drop 1).length:=by simpa using hlt
  have hk1:((j+1:Nat):Int).toNat<l.length:=by omega
  have hk0:((j:Nat):Int).toNat<l.length:=by omega
  have hgs:goW n from_ l (j+1)=Yu n (linkW n (goW n from_ l j) (l[((j+1:Nat):Int).toNat]'hk1)) (l[((j:Nat):Int).toNat]'hk0).domain:=by rw[goW,Ae hk1,Ae hk0]
  have e1:(l.drop 1)[((j:Nat):Int).toNat]'hj0=l[((j+1:Nat):Int).toNat]'hk1:=by
   rw[List.getElem_drop]
   congr 1
   omega
  have hxl:=hlk2 _ (List.getElem_mem hk1)
  generalize l[((j+1:Nat):Int).toNat]'hk1=x at *
  generalize goW n from_ l j=s at *
  have hgl:=linkW.eq_1 n s x
  clear h
  refine S ?_
  refine⟨E,by omega,hj0,?_⟩
  rw[e1]
  refine T ?_
  refine⟨fun h=>?_,fun h=>?_⟩
  ·have hk:x.kind=1:=by simpa using h
   rw[if_pos hk]at hgl
   obtain ⟨hp1,hl0,hl1⟩:=hxl hk
   have hup:=upW.eq_1 n x
   rw[Ae hp1.2]at hl0 hl1 hup
   have q6:=Apd n hn hm1 s _ _ hm0 q_ q_ q_ q_ ⟨5,0,0,0,[],upW n x⟩ (by show 0<100000;decide)
   obtain ⟨hm2,hol2⟩:=Aea hn hm1 hm0 q_ q_ ⟨5,0,0,0,[],upW n x⟩
   rw[← hgl]at q6 hm2 hol2
   rw[hup]at q6
   clear hgl hup
   generalize linkW n s x=s1 at *
   have q7:=X2 n hn hm1 s1 _ _ hm2 q_ q_ q_ q_ (l[((j:Nat):Int).toNat]'hk0).domain
   rw[← hgs]at q7
   clear h
   refine T ?_
   refine X (Bp Γ.toTy (d:=71) (n:=n.links.length) Ab false E E E E E E E E q_ q_ E E E) ?_
   refine⟨by rw[List.length_replicate];exact hl1,?_⟩
   refine fW ?_
   refine⟨E,(by rw[List.length_replicate];exact hl1),true,E,E,?_⟩
   refine T ?_
   refine Ah 71 E ?_
   refine X (Hq [(4,40),(8,41)] [] (B4 E E F19) q6 (.cons (.agg vL) (.cons (.refl _) (.cons (.refl _) .nil))) W E V E) ?_
   refine X (Bs [(1,40),(7,41),(4,42),(8,43)] (B4 E E F21) q7 E W E V) ?_
   exact Av [(1,42),(7,43)] hlt U
  ·have hk:¬ x.kind=1:=by simpa using h
   rw[if_neg hk]at hgl
   rw[hgl]at hgs
   have q7:=X2 n hn hm1 s _ _ hm0 q_ q_ q_ q_ (l[((j:Nat):Int).toNat]'hk0).domain
   rw[← hgs]at q7
   clear h
   refine T ?_
   refine X (Bs [(4,42),(8,43)] (B4 E E F21) q7 E W E V) ?_
   exact Av [(1,42),(7,43)] hlt U
 ·have hjj:j=(l.drop 1).length:=qB h
  subst hjj
  have hkl:((l.length:Int)-1).toNat<l.length:=by omega
  have hend:Auh n from_ l=Yu n (goW n from_ l (l.drop 1).length) (l[((l.length:Int)-1).toNat]'hkl).domain:=by rw[Auh,Ae hkl,hdl]
  have q7:=X2 n hn hm1 _ _ _ hm0 q_ q_ q_ q_ (l[((l.length:Int)-1).toNat]'hkl).domain
  rw[← hend]at q7
  clear hend
  generalize Auh n from_ l=s2 at *
  generalize goW n from_ l (l.drop 1).length=s at *
  subst hlk
  clear h
  refine T ?_
  refine X (Bs [(4,42),(8,43)] (B4 E E F21) q7 E W E V) ?_
  refine Ah 43 E ?_
  exact D
end Go.Sy.YtcflgpijohhfbaaGreat
namespace Go.Sy.YtcflgpijohhfbaaGreat
open Go.Proofs
attribute [local irreducible] Go.Sy.G Go.Sy.DR
set_option maxRecDepth 100000
set_option maxHeartbeats 8000000
def netW37:Net:=⟨[⟨0,0,⟨#[97]⟩,0,0⟩],[⟨0,0,10,1,-1,⟨#[112]⟩,[]⟩,⟨0,0,10,1,-1,⟨#[113]⟩,[]⟩,⟨0,0,20,1,-1,⟨#[114]⟩,[]⟩],[],[⟨0,10,0,-1,0,[]⟩,⟨0,20,0,-1,0,[]⟩],[],[],[],[]⟩
theorem Ad4:netW37.Fin:=by
 constructor<;>first | (unfold Ak;decide) | (intro x hx;unfold Ak;simp only[netW37,List.mem_cons,List.not_mem_nil,or_false]at hx;first | (subst hx;decide) | (rcases hx with rfl | rfl<;>decide) | (rcases hx with rfl | rfl | rfl<;>decide) | exact hx.elim)
theorem Aqu:netW37.Num:=by
 refine⟨fun x hx=>?_,fun x hx=>?_⟩
 ·simp only[netW37,List.mem_cons,List.not_mem_nil,or_false]at hx
  subst hx
  decide
 ·cases hx
theorem U7:Cr netW37:=fun x hx=>by cases hx
def bytesW37:List UInt8:=Sp ⟨281474976710655,Xu,34997,[]⟩
theorem Am7:wscriptT netW37 0 1=([⟨1,0,0,0,bytesW37,[]⟩,⟨2,0,0,0,[],[]⟩],0):=by kernel_rfl
theorem Am6:wscriptT netW37 0 2=([],31):=by kernel_rfl
theorem wayW37:wayT netW37 0 1=([⟨0,0,0,0⟩],true):=by kernel_rfl
theorem wayB37:wayBytes netW37 []=([],2):=by kernel_rfl
theorem Ash:bytesW37.length=14:=by kernel_rfl
theorem Apc:Sy.Spec Tryz.prog 4 [] [] (Ab true) []:=cT F4 Tryz.ntmps4 fun F hF=>by
 have q1:=X1 netW37 Ad4 Aqu U7 0 1
 have q2:=X1 netW37 Ad4 Aqu U7 0 2
 have q3:=As1 netW37 Ad4 U7 0 1
 have q4:=Abh netW37 Ad4 U7 [] (by unfold Ak;decide) (fun h hh=>by cases hh)
 have hbl:=Ash
 rw[Am7]at q1
 rw[Am6]at q2
 rw[wayW37]at q3
 rw[wayB37]at q4
 generalize bytesW37=bs at *
 dsimp only at q1 q2 q3 q4
 refine fW ?_
 refine I5 11 Aq netW37.devices E E ?_
 refine Ah 11 E ?_
 refine Aen 15 (netW37.ports.map Au) E (.cons (.agg vL) (.cons (.agg vL) (.cons (.agg vL) .nil))) E ?_
 refine I5 15 Au netW37.ports E E ?_
 refine Ah 15 E ?_
 refine Aen 18 (netW37.domains.map An) E (.cons (.agg vL) (.cons (.agg vL) .nil)) E ?_
 refine I5 18 An netW37.domains E E ?_
 refine Ah 18 E ?_
 refine Am 1 (Cn netW37) E vL ?_
 refine G_vw 21 (Aj netW37) (.agg vL) ?_
 refine C q1 F8 ?_
 refine C q2 F8 ?_
 refine C q3 F7 ?_
 refine X (Ajx [] [] E F9 q4 (.cons (.refl _) (.cons .nil .nil)) Y E Y E) ?_
 refine⟨Nat.zero_lt_two,?_⟩
 refine T ?_
 refine⟨Nat.zero_lt_two,?_⟩
 refine T ?_
 refine⟨Nat.one_lt_two,?_⟩
 refine T ?_
 exact D
end Go.Sy.YtcflgpijohhfbaaGreat
namespace Go.Sy.YtcflgpijohhfbaaGreat
open Go.Proofs
attribute [local irreducible] Go.Sy.G Go.Sy.DR
set_option maxRecDepth 100000
set_option maxHeartbeats 4000000
theorem Abe (l:List Device) (hl:l.length<2147483648):Sy.Spec Tryz.prog 95 [.sl 5 Aq l] [] (.osl 0) [(0,.row 5 Aq l)]:=cT F95 Tryz.ntmps95 fun F hF=>by
 refine fW ?_
 refine C3 E (.inl E) E E E .sl E E ?_
 intro b hb
 cases b
 ·refine fU ?_
  refine Af (Ag Γ.toTy 7 E E E E E (.lit (e:=Aq) (l:=[]) E E) .sl y_ (by simp;omega) (by simp;omega)) E E ?_
  refine fU ?_
  exact done E (.cons .tmp .nil) [(0,7)] [(0,.row 5 Aq l)] (fun _ h=>h) E E ⟨Y,⟨.inl E,E,Y⟩,E,E⟩
 ·have h0:l=[]:=List.eq_nil_of_length_eq_zero (hb rfl)
  subst h0
  refine fU ?_
  refine Cc 2 1000 5 Aq E E ?_
  exact done E (.cons .tmp .nil) [(0,1000)] [(0,.row 5 Aq [])] (fun _ h=>h) E E ⟨Y,⟨.inl E,E,Y⟩,E,E⟩
theorem Ahk (l:List Link) (hl:l.length<2147483648):Sy.Spec Tryz.prog 97 [.sl 3 Bl l] [] (.osl 0) [(0,.row 3 Bl l)]:=cT F97 Tryz.ntmps97 fun F hF=>by
 refine fW ?_
 refine C3 E (.inl E) E E E .sl E E ?_
 intro b hb
 cases b
 ·refine fU ?_
  refine Af (Ag Γ.toTy 7 E E E E E (.lit (e:=Bl) (l:=[]) E E) .sl y_ (by simp;omega) (by simp;omega)) E E ?_
  refine fU ?_
  exact done E (.cons .tmp .nil) [(0,7)] [(0,.row 3 Bl l)] (fun _ h=>h) E E ⟨Y,⟨.inl E,E,Y⟩,E,E⟩
 ·have h0:l=[]:=List.eq_nil_of_length_eq_zero (hb rfl)
  subst h0
  refine fU ?_
  refine Cc 2 1000 3 Bl E E ?_
  exact done E (.cons .tmp .nil) [(0,1000)] [(0,.row 3 Bl [])] (fun _ h=>h) E E ⟨Y,⟨.inl E,E,Y⟩,E,E⟩
theorem Abd (l:List Static) (hl:l.length<2147483648):Sy.Spec Tryz.prog 99 [.sl 4 As l] [] (.osl 0) [(0,.row 4 As l)]:=cT F99 Tryz.ntmps99 fun F hF=>by
 refine fW ?_
 refine C3 E (.inl E) E E E .sl E E ?_
 intro b hb
 cases b
 ·refine fU ?_
  refine Af (Ag Γ.toTy 7 E E E E E (.lit (e:=As) (l:=[]) E E) .sl y_ (by simp;omega) (by simp;omega)) E E ?_
  refine fU ?_
  exact done E (.cons .tmp .nil) [(0,7)] [(0,.row 4 As l)] (fun _ h=>h) E E ⟨Y,⟨.inl E,E,Y⟩,E,E⟩
 ·have h0:l=[]:=List.eq_nil_of_length_eq_zero (hb rfl)
  subst h0
  refine fU ?_
  refine Cc 2 1000 4 As E E ?_
  exact done E (.cons .tmp .nil) [(0,1000)] [(0,.row 4 As [])] (fun _ h=>h) E E ⟨Y,⟨.inl E,E,Y⟩,E,E⟩
theorem Akk (l:List Irb) (hl:l.length<2147483648):Sy.Spec Tryz.prog 102 [.sl 5 Br l] [] (.osl 0) [(0,.row 5 Br l)]:=cT F102 Tryz.ntmps102 fun F hF=>by
 refine fW ?_
 refine C3 E (.inl E) E E E .sl E E ?_
 intro b hb
 cases b
 ·refine fU ?_
  refine Af (Ag Γ.toTy 7 E E E E E (.lit (e:=Br) (l:=[]) E E) .sl y_ (by simp;omega) (by simp;omega)) E E ?_
  refine fU ?_
  exact done E (.cons .tmp .nil) [(0,7)] [(0,.row 5 Br l)] (fun _ h=>h) E E ⟨Y,⟨.inl E,E,Y⟩,E,E⟩
 ·have h0:l=[]:=List.eq_nil_of_length_eq_zero (hb rfl)
  subst h0
  refine fU ?_
  refine Cc 2 1000 5 Br E E ?_
  exact done E (.cons .tmp .nil) [(0,1000)] [(0,.row 5 Br [])] (fun _ h=>h) E E ⟨Y,⟨.inl E,E,Y⟩,E,E⟩
theorem Md (n:Net) (hn:n.Fin) :
  Sy.Spec Tryz.prog 59 [Aj n] [] (.agg [.osl 0,.osl 1,.osl 2,.osl 3,.osl 4,.osl 5,.osl 6,.osl 7]) [(0,.row 5 Aq n.devices),(1,.row 7 Au n.ports),(2,.row 3 Bl n.links),(3,.row 6 An n.domains),(4,.row 4 As n.statics),(5,.row 4 A0 n.floods),(6,.row 5 Bv n.vrfs),(7,.row 5 Br n.irbs)]:=cT F59 Tryz.ntmps59 fun F hF=>by
 have h1:n.devices.length<2147483648∧n.ports.length<2147483648∧n.links.length<2147483648∧n.domains.length<2147483648∧n.statics.length<2147483648∧n.floods.length<2147483648∧n.vrfs.length<2147483648∧n.irbs.length<2147483648:=⟨hn.devices,hn.ports,hn.links,hn.domains,hn.statics,hn.floods,hn.vrfs,hn.irbs⟩
 have h2:(∀ p∈n.ports,p.tagged.length<2147483648)∧(∀ p∈n.domains,p.peers.length<2147483648)∧(∀ p∈n.floods,p.addrs.length<2147483648)∧(∀ p∈n.vrfs,p.imports.length<2147483648∧p.exports.length<2147483648):=⟨hn.tagged,hn.peers,hn.addrs,fun v hv=>⟨hn.imports v hv,hn.exports v hv⟩⟩
 refine fW ?_
 refine Bm (Ad [(0,11)] E F95 (Abe n.devices h1.1) E Y E ⟨.inr E,Y⟩) z_ E ?_
 refine fU ?_
 refine Bm (Ad [(0,14)] E F96 (Z7 n.ports h1.2.1) E Y E ⟨.inr E,Y⟩) z_ E ?_
 refine fU ?_
 refine Bm (Ad [(0,17)] E F97 (Ahk n.links h1.2.2.1) E Y E ⟨.inr E,Y⟩) z_ E ?_
 refine fU ?_
 refine Bm (Ad [(0,20)] E F98 (U3 n.domains h1.2.2.2.1) E Y E ⟨.inr E,Y⟩) z_ E ?_
 refine fU ?_
 refine Bm (Ad [(0,23)] E F99 (Abd n.statics h1.2.2.2.2.1) E Y E ⟨.inr E,Y⟩) z_ E ?_
 refine fU ?_
 refine Bm (Ad [(0,26)] E F100 (W4 n.floods h1.2.2.2.2.2.1) E Y E ⟨.inr E,Y⟩) z_ E ?_
 refine fU ?_
 refine Bm (Ad [(0,29)] E F101 (Acq n.vrfs h1.2.2.2.2.2.2.1) E Y E ⟨.inr E,Y⟩) z_ E ?_
 refine fU ?_
 refine Bm (Ad [(0,32)] E F102 (Akk n.irbs h1.2.2.2.2.2.2.2) E Y E ⟨.inr E,Y⟩) z_ E ?_
 refine fU ?_
 refine⟨z_,?_⟩
 refine fW ?_
 refine A3 n.ports.length (fun j=>[(2,.ptr 2 0),(3,.ptr 3 0),(36,Aa n.ports.length),(37,Aa j)]) (fun _=>[(2,.box [.val (.slice none 0 0),.val (.slice none 0 0),.val (.slice none 0 0),.val (.slice none 0 0),.val (.slice none 0 0),.val (.slice none 0 0),.val (.slice none 0 0),.val (.slice none 0 0)]),(3,.box [.osl 11,.osl 14,.osl 17,.osl 20,.osl 23,.osl 26,.osl 29,.osl 32]),(11,.row 5 Aq n.devices),(14,.row 7 Au n.ports),(17,.row 3 Bl n.links),(20,.row 6 An n.domains),(23,.row 4 As n.statics),(26,.row 4 A0 n.floods),(29,.row 5 Bv n.vrfs),(32,.row 5 Br n.irbs)]) []
  ⟨⟨rfl,rfl,rfl,rfl,rfl,rfl,rfl,rfl,trivial⟩,⟨.inl rfl,rfl,.inl rfl,rfl,.inl rfl,rfl,.inl rfl,rfl,.inl rfl,rfl,.inl rfl,rfl,.inl rfl,rfl,.inl rfl,rfl,.inl rfl,rfl,.inl rfl,rfl,trivial⟩,rfl,rfl⟩ ?_
 intro j hj
 refine fU ?_
 refine⟨fun h=>?_,fun h=>?_⟩
 ·have hlt:j<n.ports.length:=by simpa using h
  obtain ⟨p,hp⟩:∃ p,n.ports[(j:Int).toNat]'q_=p:=⟨_,rfl⟩
  have hne:n.ports≠[]:=fun e=>by rw[e]at hlt;cases hlt
  have hset:n.ports.set (j:Int).toNat p=n.ports:=by rw[← hp];exact List.set_getElem_self _
  have hpl:=h2.1 p (by rw[← hp];exact List.getElem_mem _)
  refine fU ?_
  refine⟨by omega,by show _<n.ports.length;omega,?_⟩
  refine fW ?_
  refine⟨hne,?_⟩
  refine fW ?_
  refine⟨E,by omega,?_⟩
  rw[hp]
  refine fW ?_
  refine cD (Dj p.tagged hpl) F103 ?_
  refine fU ?_
  refine⟨by omega,by show _<n.ports.length;omega,?_⟩
  refine fW ?_
  refine⟨hne,?_⟩
  refine fW ?_
  refine⟨E,by omega,p,(by rw[hp];rfl),(by rw[hp];rfl),?_⟩
  refine fW ?_
  refine⟨z_,?_⟩
  refine fW ?_
  refine iL ?_
  refine fW ?_
  exact Av [] hlt ⟨⟨E,E,E,E,E,E,E,E,Y⟩,⟨.inl E,E,.inl E,E,.inl E,E,.inl (congrArg (Ob.row 7 Au) hset.symm),E,.inl E,E,.inl E,E,.inl E,E,.inl E,E,.inl E,E,.inl E,E,Y⟩,E,E⟩
 ·refine fU ?_
  refine A3 n.domains.length (fun j=>[(2,.ptr 2 0),(3,.ptr 3 0),(55,Aa n.domains.length),(56,Aa j)]) (fun _=>[(2,.box [.val (.slice none 0 0),.val (.slice none 0 0),.val (.slice none 0 0),.val (.slice none 0 0),.val (.slice none 0 0),.val (.slice none 0 0),.val (.slice none 0 0),.val (.slice none 0 0)]),(3,.box [.osl 11,.osl 14,.osl 17,.osl 20,.osl 23,.osl 26,.osl 29,.osl 32]),(11,.row 5 Aq n.devices),(14,.row 7 Au n.ports),(17,.row 3 Bl n.links),(20,.row 6 An n.domains),(23,.row 4 As n.statics),(26,.row 4 A0 n.floods),(29,.row 5 Bv n.vrfs),(32,.row 5 Br n.irbs)]) []
   ⟨⟨rfl,rfl,rfl,rfl,rfl,rfl,rfl,rfl,trivial⟩,⟨.inl rfl,rfl,.inl rfl,rfl,.inl rfl,rfl,.inl rfl,rfl,.inl rfl,rfl,.inl rfl,rfl,.inl rfl,rfl,.inl rfl,rfl,.inl rfl,rfl,.inl rfl,rfl,trivial⟩,rfl,rfl⟩ ?_
  intro j hj
  refine fU ?_
  refine⟨fun h=>?_,fun h=>?_⟩
  ·have hlt:j<n.domains.length:=by simpa using h
   obtain ⟨p,hp⟩:∃ p,n.domains[(j:Int).toNat]'q_=p:=⟨_,rfl⟩
   have hne:n.domains≠[]:=fun e=>by rw[e]at hlt;cases hlt
   have hset:n.domains.set (j:Int).toNat p=n.domains:=by rw[← hp];exact List.set_getElem_self _
   have hpl:=h2.2.1 p (by rw[← hp];exact List.getElem_mem _)
   refine fU ?_
   refine⟨by omega,by show _<n.domains.length;omega,?_⟩
   refine fW ?_
   refine⟨hne,?_⟩
   refine fW ?_
   refine⟨E,by omega,?_⟩
   rw[hp]
   refine fW ?_
   refine cD (Dj p.peers hpl) F103 ?_
   refine fU ?_
   refine⟨by omega,by show _<n.domains.length;omega,?_⟩
   refine fW ?_
   refine⟨hne,?_⟩
   refine fW ?_
   refine⟨E,by omega,p,(by rw[hp];rfl),(by rw[hp];rfl),?_⟩
   refine fW ?_
   refine⟨z_,?_⟩
   refine fW ?_
   refine iL ?_
   refine fW ?_
   exact Av [] hlt ⟨⟨E,E,E,E,E,E,E,E,Y⟩,⟨.inl E,E,.inl E,E,.inl E,E,.inl E,E,.inl E,E,.inl (congrArg (Ob.row 6 An) hset.symm),E,.inl E,E,.inl E,E,.inl E,E,.inl E,E,Y⟩,E,E⟩
  ·refine fU ?_
   refine A3 n.floods.length (fun j=>[(2,.ptr 2 0),(3,.ptr 3 0),(74,Aa n.floods.length),(75,Aa j)]) (fun _=>[(2,.box [.val (.slice none 0 0),.val (.slice none 0 0),.val (.slice none 0 0),.val (.slice none 0 0),.val (.slice none 0 0),.val (.slice none 0 0),.val (.slice none 0 0),.val (.slice none 0 0)]),(3,.box [.osl 11,.osl 14,.osl 17,.osl 20,.osl 23,.osl 26,.osl 29,.osl 32]),(11,.row 5 Aq n.devices),(14,.row 7 Au n.ports),(17,.row 3 Bl n.links),(20,.row 6 An n.domains),(23,.row 4 As n.statics),(26,.row 4 A0 n.floods),(29,.row 5 Bv n.vrfs),(32,.row 5 Br n.irbs)]) []
    ⟨⟨rfl,rfl,rfl,rfl,rfl,rfl,rfl,rfl,trivial⟩,⟨.inl rfl,rfl,.inl rfl,rfl,.inl rfl,rfl,.inl rfl,rfl,.inl rfl,rfl,.inl rfl,rfl,.inl rfl,rfl,.inl rfl,rfl,.inl rfl,rfl,.inl rfl,rfl,trivial⟩,rfl,rfl⟩ ?_
   intro j hj
   refine fU ?_
   refine⟨fun h=>?_,fun h=>?_⟩
   ·have hlt:j<n.floods.length:=by simpa using h
    obtain ⟨p,hp⟩:∃ p,n.floods[(j:Int).toNat]'q_=p:=⟨_,rfl⟩
    have hne:n.floods≠[]:=fun e=>by rw[e]at hlt;cases hlt
    have hset:n.floods.set (j:Int).toNat p=n.floods:=by rw[← hp];exact List.set_getElem_self _
    have hpl:=h2.2.2.1 p (by rw[← hp];exact List.getElem_mem _)
    refine fU ?_
    refine⟨by omega,by show _<n.floods.length;omega,?_⟩
    refine fW ?_
    refine⟨hne,?_⟩
    refine fW ?_
    refine⟨E,by omega,?_⟩
    rw[hp]
    refine fW ?_
    refine cD (V9 p.addrs hpl) F104 ?_
    refine fU ?_
    refine⟨by omega,by show _<n.floods.length;omega,?_⟩
    refine fW ?_
    refine⟨hne,?_⟩
    refine fW ?_
    refine⟨E,by omega,p,(by rw[hp];rfl),(by rw[hp];rfl),?_⟩
    refine fW ?_
    refine⟨z_,?_⟩
    refine fW ?_
    refine iL ?_
    refine fW ?_
    exact Av [] hlt ⟨⟨E,E,E,E,E,E,E,E,Y⟩,⟨.inl E,E,.inl E,E,.inl E,E,.inl E,E,.inl E,E,.inl E,E,.inl E,E,.inl (congrArg (Ob.row 4 A0) hset.symm),E,.inl E,E,.inl E,E,Y⟩,E,E⟩
   ·refine fU ?_
    refine A3 n.vrfs.length (fun j=>[(2,.ptr 2 0),(3,.ptr 3 0),(93,Aa n.vrfs.length),(94,Aa j)]) (fun _=>[(2,.box [.val (.slice none 0 0),.val (.slice none 0 0),.val (.slice none 0 0),.val (.slice none 0 0),.val (.slice none 0 0),.val (.slice none 0 0),.val (.slice none 0 0),.val (.slice none 0 0)]),(3,.box [.osl 11,.osl 14,.osl 17,.osl 20,.osl 23,.osl 26,.osl 29,.osl 32]),(11,.row 5 Aq n.devices),(14,.row 7 Au n.ports),(17,.row 3 Bl n.links),(20,.row 6 An n.domains),(23,.row 4 As n.statics),(26,.row 4 A0 n.floods),(29,.row 5 Bv n.vrfs),(32,.row 5 Br n.irbs)]) []
     ⟨⟨rfl,rfl,rfl,rfl,rfl,rfl,rfl,rfl,trivial⟩,⟨.inl rfl,rfl,.inl rfl,rfl,.inl rfl,rfl,.inl rfl,rfl,.inl rfl,rfl,.inl rfl,rfl,.inl rfl,rfl,.inl rfl,rfl,.inl rfl,rfl,.inl rfl,rfl,trivial⟩,rfl,rfl⟩ ?_
    intro j hj
    refine fU ?_
    refine⟨fun h=>?_,fun h=>?_⟩
    ·have hlt:j<n.vrfs.length:=by simpa using h
     obtain ⟨p,hp⟩:∃ p,n.vrfs[(j:Int).toNat]'q_=p:=⟨_,rfl⟩
     have hne:n.vrfs≠[]:=fun e=>by rw[e]at hlt;cases hlt
     have hset:n.vrfs.set (j:Int).toNat p=n.vrfs:=by rw[← hp];exact List.set_getElem_self _
     have hpl:=h2.2.2.2 p (by rw[← hp];exact List.getElem_mem _)
     refine fU ?_
     have hne2:n.vrfs.set (j:Int).toNat p≠[]:=by rw[hset];exact hne
     have hp2:(n.vrfs.set (j:Int).toNat p)[(j:Int).toNat]'(by rw[hset];omega)=p:=by simp
     have hset2:(n.vrfs.set (j:Int).toNat p).set (j:Int).toNat p=n.vrfs:=by rw[hset,hset]
     refine⟨by omega,by show _<n.vrfs.length;omega,?_⟩
     refine fW ?_
     refine Bm (Cd E (.inr (.inr (.inr ⟨29,5,_,0,E,fun κ w h=>Hm hne h,E⟩)))) z_ E ?_
     refine fU ?_
     refine⟨hne,?_⟩
     refine fW ?_
     refine⟨E,by omega,?_⟩
     rw[hp]
     refine fW ?_
     refine cD (Dj p.imports hpl.1) F103 ?_
     refine fU ?_
     refine Bm (Cd E (.inr (.inr (.inr ⟨29,5,_,0,E,fun κ w h=>Hm hne h,E⟩)))) z_ E ?_
     refine fU ?_
     refine⟨hne,?_⟩
     refine fW ?_
     refine⟨E,by omega,?_⟩
     rw[hp]
     refine fW ?_
     refine cD (Dj p.exports hpl.2) F103 ?_
     refine fU ?_
     refine Bm (Cd E (.inr (.inr (.inr ⟨29,5,_,0,E,fun κ w h=>Hm hne h,E⟩)))) z_ E ?_
     refine fU ?_
     refine⟨hne,?_⟩
     refine fW ?_
     refine⟨E,by omega,p,(by rw[hp];rfl),(by rw[hp];rfl),?_⟩
     refine fW ?_
     refine Bm (Cd E (.inr (.inr (.inr ⟨29,5,_,0,E,fun κ w h=>Hm hne2 h,E⟩)))) z_ E ?_
     refine fU ?_
     refine⟨hne2,?_⟩
     refine fW ?_
     refine⟨E,by rw[hset];omega,p,(by rw[hp2];rfl),(by rw[hp2];rfl),?_⟩
     refine fW ?_
     refine⟨z_,?_⟩
     refine fW ?_
     refine iL ?_
     refine fW ?_
     exact Av [] hlt ⟨⟨E,E,E,E,E,E,E,E,Y⟩,⟨.inl E,E,.inl E,E,.inl E,E,.inl E,E,.inl E,E,.inl E,E,.inl E,E,.inl E,E,.inl (congrArg (Ob.row 5 Bv) hset2.symm),E,.inl E,E,Y⟩,E,E⟩
    ·refine fU ?_
     exact done E (.cons (.cell E E E E) .nil) [(0,11),(1,14),(2,17),(3,20),(4,23),(5,26),(6,29),(7,32)] [(0,.row 5 Aq n.devices),(1,.row 7 Au n.ports),(2,.row 3 Bl n.links),(3,.row 6 An n.domains),(4,.row 4 As n.statics),(5,.row 4 A0 n.floods),(6,.row 5 Bv n.vrfs),(7,.row 5 Br n.irbs)] (fun _ h=>h) E E ⟨Y,⟨.inl E,E,.inl E,E,.inl E,E,.inl E,E,.inl E,E,.inl E,E,.inl E,E,.inl E,E,Y⟩,E,E⟩
end Go.Sy.YtcflgpijohhfbaaGreat
namespace Go.Sy.YtcflgpijohhfbaaGreat
open Go.Proofs
attribute [local irreducible] Go.Sy.G Go.Sy.DR
set_option maxRecDepth 20000
set_option maxHeartbeats 4000000
theorem H2 (l:List Device) (p:Device→Bool) (f:FuncId) (first cap:List SV) (hc:(SV.clo (.func f) first cap).inn []=true) (hf:∀ x∈l,Ek Tryz.prog f (first++[Aq x]++cap) (Ab (p x))) (hl:Ak l) :
  Sy.Spec Tryz.prog 202 [.sl 5 Aq l,.clo (.func f) first cap] [] (Aa (B9 p l)) []:=cT F202 Tryz.ntmps202 fun F hF=>by
 unfold Ak at hl
 have hin:∀ x:Device,By [] (first++[Aq x]++cap)=true:=fun x=>Cj hc rfl
 refine fW ?_
 refine Be l.length (fun j=>Hk (fun _ x=>!(p x)) l j) (fun j=>[(0,.sl 5 Aq l),(1,.clo (.func f) first cap),(7,Aa l.length),(8,Aa j)]) (fun _=>[]) [] (Bk _ _) ⟨⟨E,E,A5 _,hc,E,E,E,E,Y⟩,Y,E,E⟩ ?_
 intro j hj hI
 refine fU ?_
 refine⟨fun h=>?_,fun h=>?_⟩
 ·have h:=of_decide_eq_true h
  have hj2:j<l.length:=by omega
  refine fU ?_
  refine⟨E,by omega,by omega,?_⟩
  refine fW ?_
  refine Dq (hf l[j] (List.getElem_mem hj2)) E E E (by simp only[hin];rfl) E E ?_
  refine fU ?_
  refine⟨fun h2=>?_,fun h2=>?_⟩
  ·refine fU ?_
   refine Ap E (.cons .tmp .nil) (congrArg Aa ?_) E
   exact Cm hj2 (fun i hi hij=>by simpa using hI i hi hij) h2
  ·refine fU ?_
   refine iL ?_
   refine fW ?_
   exact Bb [] hI hj2 (Bf hI hj2 (by simp[h2])) ⟨⟨E,E,A5 _,hc,E,E,E,E,Y⟩,Y,E,E⟩
 ·have h:=of_decide_eq_false h
  refine fU ?_
  refine Ap E (.cons .tmp .nil) (congrArg Aa ?_) E
  exact Cy (fun i hi=>by simpa using hI i hi q_)
theorem V3 (l:List Flood) (p:Flood→Bool) (f:FuncId) (first cap:List SV) (hc:(SV.clo (.func f) first cap).inn []=true) (hf:∀ x∈l,Ek Tryz.prog f (first++[A0 x]++cap) (Ab (p x))) (hl:Ak l) :
  Sy.Spec Tryz.prog 199 [.sl 4 A0 l,.clo (.func f) first cap] [] (Aa (B9 p l)) []:=cT F199 Tryz.ntmps199 fun F hF=>by
 unfold Ak at hl
 have hin:∀ x:Flood,By [] (first++[A0 x]++cap)=true:=fun x=>Cj hc rfl
 refine fW ?_
 refine Be l.length (fun j=>Hk (fun _ x=>!(p x)) l j) (fun j=>[(0,.sl 4 A0 l),(1,.clo (.func f) first cap),(7,Aa l.length),(8,Aa j)]) (fun _=>[]) [] (Bk _ _) ⟨⟨E,E,A5 _,hc,E,E,E,E,Y⟩,Y,E,E⟩ ?_
 intro j hj hI
 refine fU ?_
 refine⟨fun h=>?_,fun h=>?_⟩
 ·have h:=of_decide_eq_true h
  have hj2:j<l.length:=by omega
  refine fU ?_
  refine⟨E,by omega,by omega,?_⟩
  refine fW ?_
  refine Dq (hf l[j] (List.getElem_mem hj2)) E E E (by simp only[hin];rfl) E E ?_
  refine fU ?_
  refine⟨fun h2=>?_,fun h2=>?_⟩
  ·refine fU ?_
   refine Ap E (.cons .tmp .nil) (congrArg Aa ?_) E
   exact Cm hj2 (fun i hi hij=>by simpa using hI i hi hij) h2
  ·refine fU ?_
   refine iL ?_
   refine fW ?_
   exact Bb [] hI hj2 (Bf hI hj2 (by simp[h2])) ⟨⟨E,E,A5 _,hc,E,E,E,E,Y⟩,Y,E,E⟩
 ·have h:=of_decide_eq_false h
  refine fU ?_
  refine Ap E (.cons .tmp .nil) (congrArg Aa ?_) E
  exact Cy (fun i hi=>by simpa using hI i hi q_)
theorem Ze (l:List Vrf) (p:Vrf→Bool) (f:FuncId) (first cap:List SV) (hc:(SV.clo (.func f) first cap).inn []=true) (hf:∀ x∈l,Ek Tryz.prog f (first++[Bv x]++cap) (Ab (p x))) (hl:Ak l) :
  Sy.Spec Tryz.prog 312 [.sl 5 Bv l,.clo (.func f) first cap] [] (Aa (B9 p l)) []:=cT F312 Tryz.ntmps312 fun F hF=>by
 unfold Ak at hl
 have hin:∀ x:Vrf,By [] (first++[Bv x]++cap)=true:=fun x=>Cj hc rfl
 refine fW ?_
 refine Be l.length (fun j=>Hk (fun _ x=>!(p x)) l j) (fun j=>[(0,.sl 5 Bv l),(1,.clo (.func f) first cap),(7,Aa l.length),(8,Aa j)]) (fun _=>[]) [] (Bk _ _) ⟨⟨E,E,A5 _,hc,E,E,E,E,Y⟩,Y,E,E⟩ ?_
 intro j hj hI
 refine fU ?_
 refine⟨fun h=>?_,fun h=>?_⟩
 ·have h:=of_decide_eq_true h
  have hj2:j<l.length:=by omega
  refine fU ?_
  refine⟨E,by omega,by omega,?_⟩
  refine fW ?_
  refine Dq (hf l[j] (List.getElem_mem hj2)) E E E (by simp only[hin];rfl) E E ?_
  refine fU ?_
  refine⟨fun h2=>?_,fun h2=>?_⟩
  ·refine fU ?_
   refine Ap E (.cons .tmp .nil) (congrArg Aa ?_) E
   exact Cm hj2 (fun i hi hij=>by simpa using hI i hi hij) h2
  ·refine fU ?_
   refine iL ?_
   refine fW ?_
   exact Bb [] hI hj2 (Bf hI hj2 (by simp[h2])) ⟨⟨E,E,A5 _,hc,E,E,E,E,Y⟩,Y,E,E⟩
 ·have h:=of_decide_eq_false h
  refine fU ?_
  refine Ap E (.cons .tmp .nil) (congrArg Aa ?_) E
  exact Cy (fun i hi=>by simpa using hI i hi q_)
theorem O0 (l:List Device) (p:Device→Bool) (f:FuncId) (first cap:List SV) (hc:(SV.clo (.func f) first cap).inn []=true) (hf:∀ x∈l,Ek Tryz.prog f (first++[Aq x]++cap) (Ab (p x))) (hl:Ak l) :
  Sy.Spec Tryz.prog 185 [.sl 5 Aq l,.clo (.func f) first cap] [] (Ab (decide (0≤B9 p l))) []:=cT F185 Tryz.ntmps185 fun F hF=>by
 have h0:By [] [.sl 5 Aq l,.clo (.func f) first cap]=true:=by simp only[By,hc];rfl
 refine fW ?_
 refine Kl (H2 l p f first cap hc hf hl) F202 E E (by simp only[h0];rfl) E E ?_
 refine fU ?_
 exact dN
theorem Iz (l:List Domain) (p:Domain→Bool) (f:FuncId) (first cap:List SV) (hc:(SV.clo (.func f) first cap).inn []=true) (hf:∀ x∈l,Ek Tryz.prog f (first++[An x]++cap) (Ab (p x))) (hl:Ak l) :
  Sy.Spec Tryz.prog 254 [.sl 6 An l,.clo (.func f) first cap] [] (Ab (decide (0≤B9 p l))) []:=cT F254 Tryz.ntmps254 fun F hF=>by
 have h0:By [] [.sl 6 An l,.clo (.func f) first cap]=true:=by simp only[By,hc];rfl
 refine fW ?_
 refine Kl (Dn l p f first cap hc hf hl) F139 E E (by simp only[h0];rfl) E E ?_
 refine fU ?_
 exact dN
theorem Ad3 (n:Net) (hn:n.Fin) (l:List Device) (p:Device→Bool) (f:FuncId) (first cap:List SV) (hc:(SV.clo (.func f) first cap).inn []=true) (hf:∀ x∈l,Ek Tryz.prog f (first++[Aq x]++cap) (Ab (p x))) (hl:Ak l) :
  Sy.Spec Tryz.prog 250 [Aj n,.sl 5 Aq l,.clo (.func f) first cap] [] (Aa (if Ac n=true then B9 p l else -1)) []:=cT F250 Tryz.ntmps250 fun F hF=>by
 have hr:=At n hn
 have q:=H2 l p f first cap hc hf hl
 refine fW ?_
 refine c0 hr F12 ?_
 cases hb:Ac n
 ·rw[if_neg y_]
  refine fU ?_
  exact dN
 rw[if_pos rfl]
 refine fU ?_
 refine Kl q F202 E E (by simp only[By,hc,Bool.and_true];rfl) E E ?_
 refine fU ?_
 exact dN
theorem Aj4 (n:Net) (hn:n.Fin) (l:List Port) (p:Port→Bool) (f:FuncId) (first cap:List SV) (hc:(SV.clo (.func f) first cap).inn []=true) (hf:∀ x∈l,Ek Tryz.prog f (first++[Au x]++cap) (Ab (p x))) (hl:Ak l) :
  Sy.Spec Tryz.prog 252 [Aj n,.sl 7 Au l,.clo (.func f) first cap] [] (Aa (if Ac n=true then B9 p l else -1)) []:=cT F252 Tryz.ntmps252 fun F hF=>by
 have hr:=At n hn
 have q:=Mq l p f first cap hc hf hl
 refine fW ?_
 refine c0 hr F12 ?_
 cases hb:Ac n
 ·rw[if_neg y_]
  refine fU ?_
  exact dN
 rw[if_pos rfl]
 refine fU ?_
 refine Kl q F270 E E (by simp only[By,hc,Bool.and_true];rfl) E E ?_
 refine fU ?_
 exact dN
theorem Aom (n:Net) (hn:n.Fin) (l:List Vrf) (p:Vrf→Bool) (f:FuncId) (first cap:List SV) (hc:(SV.clo (.func f) first cap).inn []=true) (hf:∀ x∈l,Ek Tryz.prog f (first++[Bv x]++cap) (Ab (p x))) (hl:Ak l) :
  Sy.Spec Tryz.prog 262 [Aj n,.sl 5 Bv l,.clo (.func f) first cap] [] (Aa (if Ac n=true then B9 p l else -1)) []:=cT F262 Tryz.ntmps262 fun F hF=>by
 have hr:=At n hn
 have q:=Ze l p f first cap hc hf hl
 refine fW ?_
 refine c0 hr F12 ?_
 cases hb:Ac n
 ·rw[if_neg y_]
  refine fU ?_
  exact dN
 rw[if_pos rfl]
 refine fU ?_
 refine Kl q F312 E E (by simp only[By,hc,Bool.and_true];rfl) E E ?_
 refine fU ?_
 exact dN
theorem Adr (s:ByteArray) (d:Device):Sy.Spec Tryz.prog 251 [Aq d,.ref 1 (C7 s) 0] [] (Ab (d.name == s)) []:=cT F251 Tryz.ntmps251 fun F hF=>by
 refine T ?_
 exact D
theorem Ajf (dev:Int) (s:ByteArray) (p:Port):Sy.Spec Tryz.prog 253 [Au p,.ref 1 (Aa dev) 0,.ref 1 (C7 s) 0] [] (Ab (p.dev == dev && p.name == s)) []:=cT F253 Tryz.ntmps253 fun F hF=>by
 cases h:(p.dev == dev)
 ·refine T ?_
  exact D
 ·refine T ?_
  exact D
theorem Anv (dev:Int) (s:ByteArray) (p:Vrf):Sy.Spec Tryz.prog 263 [Bv p,.ref 1 (Aa dev) 0,.ref 1 (C7 s) 0] [] (Ab (p.dev == dev && p.name == s)) []:=cT F263 Tryz.ntmps263 fun F hF=>by
 cases h:(p.dev == dev)
 ·refine T ?_
  exact D
 ·refine T ?_
  exact D
theorem Hy (n:Net) (hn:n.Fin) (hr:Ac n=true) (s:ByteArray):Sy.Spec Tryz.prog 187 [Aj n,C7 s] [] (Aa (H6 n s)) []:=cT F187 Tryz.ntmps187 fun F hF=>by
 have q:=Ad3 n hn n.devices (fun d=>d.name == s) 251 [] [.ref 1 (C7 s) 0] rfl (fun d _=>⟨⟨_,_,F251⟩,Adr s d⟩) hn.devices
 rw[if_pos hr]at q
 refine fW ?_
 refine Aw 3 1 (C7 s) E E E ?_
 refine c0 q F250 ?_
 refine fU ?_
 exact dN
theorem Sr (n:Net) (hn:n.Fin) (hr:Ac n=true) (dev:Int) (s:ByteArray):Sy.Spec Tryz.prog 188 [Aj n,Aa dev,C7 s] [] (Aa (Aau n dev s)) []:=cT F188 Tryz.ntmps188 fun F hF=>by
 have q:=Aj4 n hn n.ports (fun p=>p.dev == dev && p.name == s) 253 [] [.ref 1 (Aa dev) 0,.ref 1 (C7 s) 0] rfl (fun d _=>⟨⟨_,_,F253⟩,Ajf dev s d⟩) hn.ports
 rw[if_pos hr]at q
 refine fW ?_
 refine Aw 4 1 (Aa dev) E E E ?_
 refine Aw 5 1 (C7 s) E E E ?_
 refine c0 q F252 ?_
 refine fU ?_
 exact dN
theorem Abw (n:Net) (hn:n.Fin) (hr:Ac n=true) (dev:Int) (s:ByteArray):Sy.Spec Tryz.prog 196 [Aj n,Aa dev,C7 s] [] (Aa (Apf n dev s)) []:=cT F196 Tryz.ntmps196 fun F hF=>by
 have q:=Aom n hn n.vrfs (fun p=>p.dev == dev && p.name == s) 263 [] [.ref 1 (Aa dev) 0,.ref 1 (C7 s) 0] rfl (fun d _=>⟨⟨_,_,F263⟩,Anv dev s d⟩) hn.vrfs
 rw[if_pos hr]at q
 refine fW ?_
 refine Aw 4 1 (Aa dev) E E E ?_
 refine Aw 5 1 (C7 s) E E E ?_
 refine c0 q F262 ?_
 refine fU ?_
 exact dN
theorem Im (n:Net) (hn:n.Fin) (hr:Ac n=true) (dev vlan:Int):Sy.Spec Tryz.prog 49 [Aj n,Aa dev,Aa vlan] [] (Aa (Ej n dev vlan)) []:=by
 have q:=Hx n hn dev vlan
 rwa [B1,if_pos hr]at q
end Go.Sy.YtcflgpijohhfbaaGreat
namespace Go.Sy.YtcflgpijohhfbaaGreat
open Go.Proofs
attribute [local irreducible] Go.Sy.G Go.Sy.DR
set_option maxRecDepth 100000
set_option maxHeartbeats 4000000
theorem Ih {α:Type} {p:α→Bool} {l:List α} (h:¬ B9 p l<0):∃ i:Nat,B9 p l=i∧i<l.length:=by
 have:=Em p l
 exact⟨(B9 p l).toNat,by omega,by omega⟩
theorem Ku (n:Net) (hn:n.Fin) (l:LineM) (hl:LineW l) (k:Int):Sy.Spec Tryz.prog 193 [Aj n,A2 l,Aa k] [] (.tup [Aa (begT n l k).1,Aa (begT n l k).2]) []:=cT F193 Tryz.ntmps193 fun F hF=>by
 have q1:=Ib l hl
 have q2:=At n hn
 have hres:=begT.eq_1 n l k
 have hf:=fitsB.eq_1 n l k
 generalize begT n l k=res at *
 generalize fitsB n l k=f at *
 cases h1:(l.kind == k) with
 | false =>
  have g1:(l.kind != k)=true:=by rw[bne,h1];rfl
  rw[h1,Bool.false_and]at hf
  rw[hf,if_pos rfl]at hres
  subst hres
  refine T ?_
  exact D
 | true =>
  have g1:(l.kind != k)=false:=by rw[bne,h1];rfl
  rw[h1,Bool.true_and]at hf
  cases h2:C5 l with
  | false =>
   rw[h2]at q1 hf
   rw[hf,Bool.false_and,if_pos rfl]at hres
   subst hres
   refine T ?_
   refine C q1 F190 ?_
   exact D
  | true =>
   rw[h2]at q1 hf
   cases h3:Ac n with
   | false =>
    rw[h3]at q2 hf
    rw[hf,Bool.and_false,if_pos rfl]at hres
    subst hres
    refine T ?_
    refine C q1 F190 ?_
    refine C q2 F12 ?_
    exact D
   | true =>
    have q3:=Hy n hn h3 l.dev
    rw[h3]at q2 hf
    rw[hf,if_neg y_]at hres
    generalize H6 n l.dev=d at *
    by_cases h4:d<0
    ·have g4:decide (d<0)=true:=decide_eq_true h4
     rw[if_pos h4]at hres
     subst hres
     refine T ?_
     refine C q1 F190 ?_
     refine C q2 F12 ?_
     refine C q3 F187 ?_
     exact D
    ·have g4:decide (d<0)=false:=decide_eq_false h4
     rw[if_neg h4]at hres
     subst hres
     refine T ?_
     refine C q1 F190 ?_
     refine C q2 F12 ?_
     refine C q3 F187 ?_
     exact D
theorem X3 (n:Net) (hn:n.Fin) (l:LineM) (hl:LineW l) (k:Int):Sy.Spec Tryz.prog 195 [Aj n,A2 l,Aa k] [] (.tup [Aa (begT n l k).1,Aa (begT n l k).2]) []:=cT F195 Tryz.ntmps195 fun F hF=>by
 have q1:=Ib l hl
 have q2:=At n hn
 have hres:=begT.eq_1 n l k
 have hf:=fitsB.eq_1 n l k
 generalize begT n l k=res at *
 generalize fitsB n l k=f at *
 cases h1:(l.kind == k) with
 | false =>
  have g1:(l.kind != k)=true:=by rw[bne,h1];rfl
  rw[h1,Bool.false_and]at hf
  rw[hf,if_pos rfl]at hres
  subst hres
  refine T ?_
  exact D
 | true =>
  have g1:(l.kind != k)=false:=by rw[bne,h1];rfl
  rw[h1,Bool.true_and]at hf
  cases h2:C5 l with
  | false =>
   rw[h2]at q1 hf
   rw[hf,Bool.false_and,if_pos rfl]at hres
   subst hres
   refine T ?_
   refine C q1 F190 ?_
   exact D
  | true =>
   rw[h2]at q1 hf
   cases h3:Ac n with
   | false =>
    rw[h3]at q2 hf
    rw[hf,Bool.and_false,if_pos rfl]at hres
    subst hres
    refine T ?_
    refine C q1 F190 ?_
    refine C q2 F12 ?_
    exact D
   | true =>
    have q3:=Hy n hn h3 l.dev
    rw[h3]at q2 hf
    rw[hf,if_neg y_]at hres
    generalize H6 n l.dev=d at *
    by_cases h4:d<0
    ·have g4:decide (d<0)=true:=decide_eq_true h4
     rw[if_pos h4]at hres
     subst hres
     refine T ?_
     refine C q1 F190 ?_
     refine C q2 F12 ?_
     refine C q3 F187 ?_
     exact D
    ·have g4:decide (d<0)=false:=decide_eq_false h4
     rw[if_neg h4]at hres
     subst hres
     refine T ?_
     refine C q1 F190 ?_
     refine C q2 F12 ?_
     refine C q3 F187 ?_
     exact D
theorem beg_ok {n:Net} {l:LineM} {k:Int} (h:(begT n l k).2=0):fitsB n l k=true∧Ac n=true∧∃ i:Nat,(begT n l k).1=i∧i<n.devices.length:=by
 unfold begT at h ⊢
 cases hf:fitsB n l k with
 | false=>rw[hf,if_pos rfl]at h;exact absurd h j_
 | true =>
  rw[hf,if_neg y_]at h
  rw[if_neg y_]
  by_cases hd:H6 n l.dev<0
  ·rw[if_pos hd]at h;exact absurd h j_
  ·rw[if_neg hd]
   refine⟨E,?_,Ih hd⟩
   unfold fitsB at hf
   simp only[Bool.and_eq_true]at hf
   exact hf.2.2
theorem ownerC (a:Int) (d:Device):Sy.Spec Tryz.prog 203 [Aq d,.ref 1 (A4 a) 0] [] (Ab (d.vtep == a)) []:=cT F203 Tryz.ntmps203 fun F hF=>by
 refine T ?_
 exact D
theorem Ai7 (n:Net) (hn:n.Fin) (a:Int):Sy.Spec Tryz.prog 134 [Aj n,A4 a] [] (Aa (Ea n a)) []:=cT F134 Tryz.ntmps134 fun F hF=>by
 have q:=H2 n.devices (fun d=>d.vtep == a) 203 [] [.ref 1 (A4 a) 0] rfl (fun d _=>⟨⟨_,_,F203⟩,ownerC a d⟩) hn.devices
 refine fW ?_
 refine Aw 3 1 (A4 a) E E E ?_
 refine c0 q F202 ?_
 refine fU ?_
 exact dN
theorem Atm (dev vni:Int) (d:Domain):Sy.Spec Tryz.prog 201 [An d,.ref 1 (Aa dev) 0,.ref 1 (Aa vni) 0] [] (Ab (d.dev == dev && (d.vni == vni && vni != 0))) []:=cT F201 Tryz.ntmps201 fun F hF=>by
 cases h:(d.dev == dev)
 ·refine T ?_
  exact D
 ·cases h2:(d.vni == vni)
  ·refine T ?_
   exact D
  ·refine T ?_
   exact D
theorem T3 (n:Net) (hn:n.Fin) (dev vni:Int):Sy.Spec Tryz.prog 133 [Aj n,Aa dev,Aa vni] [] (Aa (Mw n dev vni)) []:=cT F133 Tryz.ntmps133 fun F hF=>by
 have q:=Dn n.domains (fun d=>d.dev == dev && (d.vni == vni && vni != 0)) 201 [] [.ref 1 (Aa dev) 0,.ref 1 (Aa vni) 0] rfl (fun d _=>⟨⟨_,_,F201⟩,Atm dev vni d⟩) hn.domains
 refine fW ?_
 refine Aw 4 1 (Aa dev) E E E ?_
 refine Aw 5 1 (Aa vni) E E E ?_
 refine c0 q F139 ?_
 refine fU ?_
 exact dN
theorem Atl (dev vni:Int) (f:Flood):Sy.Spec Tryz.prog 200 [A0 f,.ref 1 (Aa dev) 0,.ref 1 (Aa vni) 0] [] (Ab (f.dev == dev && f.vni == vni)) []:=cT F200 Tryz.ntmps200 fun F hF=>by
 cases h:(f.dev == dev)
 ·refine T ?_
  exact D
 ·refine T ?_
  exact D
theorem Adl (n:Net) (hn:n.Fin) (dev vni:Int):Sy.Spec Tryz.prog 132 [Aj n,Aa dev,Aa vni] [] (Aa (H8 n dev vni)) []:=cT F132 Tryz.ntmps132 fun F hF=>by
 have q:=V3 n.floods (fun f=>f.dev == dev && f.vni == vni) 200 [] [.ref 1 (Aa dev) 0,.ref 1 (Aa vni) 0] rfl (fun f _=>⟨⟨_,_,F200⟩,Atl dev vni f⟩) hn.floods
 refine fW ?_
 refine Aw 4 1 (Aa dev) E E E ?_
 refine Aw 5 1 (Aa vni) E E E ?_
 refine c0 q F199 ?_
 refine fU ?_
 exact dN
theorem Atk (n:Net) (hn:n.Fin) (l:LineM) (hl:LineW l):Sy.Spec Tryz.prog 126 [Aj n,A2 l] [] (.tup [Aj (putVtep n l).1,Aa (putVtep n l).2]) []:=cT F126 Tryz.ntmps126 fun F hF=>by
 have q1:=Ku n hn l hl 5
 have hok:=@beg_ok n l 5
 have hres:=putVtep.eq_1 n l
 have q2:=Ai7 n hn l.addr
 have q3:=Md n hn
 generalize putVtep n l=res at *
 generalize begT n l 5=b at *
 obtain ⟨d,e⟩:=b
 dsimp only at hres hok q1
 by_cases h1:e≠0
 ·have g1:(e != 0)=true:=by rw[bne_iff_ne];exact h1
  rw[if_pos h1]at hres
  subst hres
  refine T ?_
  refine C q1 F193 ?_
  refine Am 4 (Cn emptyN) E vL ?_
  refine T ?_
  exact D
 have g1:(e != 0)=false:=by rw[bne_eq_false_iff_eq];omega
 rw[if_neg h1]at hres
 obtain ⟨_,_,i,hi,hlt⟩:=hok q_
 subst hi
 clear hok
 have hlt0:((i:Nat):Int).toNat<n.devices.length:=hlt
 have hnth:nth n.devices (i:Int)=n.devices[((i:Nat):Int).toNat]'hlt0:=Ae hlt0
 rw[hnth]at hres
 by_cases h2:(n.devices[((i:Nat):Int).toNat]'hlt0).vtep≠0
 ·have g2:((n.devices[((i:Nat):Int).toNat]'hlt0).vtep != 0)=true:=by rw[bne_iff_ne];exact h2
  rw[if_pos (.inl h2)]at hres
  subst hres
  refine T ?_
  refine C q1 F193 ?_
  refine Am 4 (Cn emptyN) E vL ?_
  refine T ?_
  exact D
 have g2:((n.devices[((i:Nat):Int).toNat]'hlt0).vtep != 0)=false:=by rw[bne_eq_false_iff_eq];omega
 by_cases h3:0≤Ea n l.addr
 ·have g3:decide (Ea n l.addr≥0)=true:=decide_eq_true h3
  rw[if_pos (.inr h3)]at hres
  subst hres
  refine T ?_
  refine C q1 F193 ?_
  refine C q2 F134 ?_
  refine Am 4 (Cn emptyN) E vL ?_
  refine T ?_
  exact D
 have g3:decide (Ea n l.addr≥0)=false:=decide_eq_false h3
 rw[if_neg (fun h=>h.elim h2 h3)]at hres
 have hset:Ac7 n.devices (i:Int) l.addr=n.devices.set ((i:Nat):Int).toNat { (n.devices[((i:Nat):Int).toNat]'hlt0) with vtep:=l.addr }:=by rw[Ac7,hnth]
 rw[hset]at hres
 subst hres
 have hne:n.devices≠[]:=fun e=>by rw[e]at hlt;cases hlt
 refine T ?_
 refine C q1 F193 ?_
 refine C q2 F134 ?_
 refine X (Ad [(0,901),(1,902),(2,903),(3,904),(4,905),(5,906),(6,907),(7,908)] E F59 q3 E W E V) ?_
 refine⟨hne,?_⟩
 refine T ?_
 refine⟨{ (n.devices[((i:Nat):Int).toNat]'hlt0) with vtep:=l.addr },rfl,rfl,?_⟩
 refine T ?_
 refine Ah 901 E ?_
 refine Ah 902 E ?_
 refine Ah 903 E ?_
 refine Ah 904 E ?_
 refine Ah 905 E ?_
 refine Ah 906 E ?_
 refine Ah 907 E ?_
 refine Ah 908 E ?_
 exact D
end Go.Sy.YtcflgpijohhfbaaGreat
namespace Go.Sy
theorem Art {P:Program} {o:Oper} {s:SS} {x y:Operand} {at_:Array TypeId} {k k':IntKind} {m n:Int} (h:o.op=.call ⟨.builtin .max,#[x,y],at_⟩)
  (hx:ev s x=.val (.int k m)) (hy:ev s y=.val (.int k' n)):Good P o s ⟨.val (.int k (if n>m then n else m)),[],[]⟩ :=
 Good.pure fun κ a w _ hr ho=>by
  have h1:=hr x (by simp[h,Op.operands,Call.operands])
  have h2:=hr y (by simp[h,Op.operands,Call.operands])
  rw[hx]at h1
  rw[hy]at h2
  refine⟨.int k (if n>m then n else m),?_,by simp[Rd]⟩
  simp[execOp,h,resolve,invoke,builtin,Builtin.max_,Builtin.max2,h1.val,h2.val]
end Go.Sy
namespace Go.Sy.YtcflgpijohhfbaaGreat
open Go.Proofs
attribute [local irreducible] Go.Sy.G Go.Sy.DR
set_option maxRecDepth 100000
set_option maxHeartbeats 4000000
theorem Ev {f:List Int} (hf:Cp f) {i:Int} (h0:0≤i) (hi:i.toNat<f.length):0≤nth f i∧nth f i≤i:=by
 rw[Ae hi]
 have:=hf i.toNat hi
 omega
theorem J6 {f:List Int} (hf:Cp f) {i:Nat} (_hi:i<f.length) {x:Int} (h0:0≤x) (hx:x≤i):Cp (f.set i x):=by
 intro k hk
 rw[List.length_set]at hk
 rw[List.getElem_set]
 split
 ·rename_i e;subst e;exact⟨h0,hx⟩
 ·exact hf k hk
theorem Abk:∀ (m k k':Nat) (f:List Int) (i:Int),Cp f→0≤i→i.toNat<f.length→i.toNat≤m→i.toNat+1≤k→i.toNat+1≤k'→Ae2 k f i=Ae2 k' f i
 | m,0,_,_,_,_,_,_,_,h,_=>by omega
 | m,_+1,0,_,_,_,_,_,_,_,h=>by omega
 | m,k+1,k'+1,f,i,hf,h0,hi,hm,h1,h2=>by
  rw[Ae2,Ae2]
  by_cases e:nth f i=i
  ·rw[if_pos e,if_pos e]
  ·rw[if_neg e,if_neg e]
   obtain ⟨a1,a2⟩:=Ev hf h0 hi
   obtain ⟨b1,b2⟩:=Ev hf a1 (by omega:(nth f i).toNat<f.length)
   match m with
   | 0=>omega
   | m+1 =>
    exact Abk m k k' _ _ (J6 hf hi b1 q_) b1 (by rw[List.length_set];omega) q_ q_ q_
theorem Ak1 {f:List Int} {i:Int} (h:nth f i=i):I0 f i=(f,i):=by rw[I0,Ae2,if_pos h]
theorem Ae1 {f:List Int} {i:Int} (hf:Cp f) (h0:0≤i) (hi:i.toNat<f.length) (h:nth f i≠i):I0 f i=I0 (f.set i.toNat (nth f (nth f i))) (nth f (nth f i)):=by
 obtain ⟨a1,a2⟩:=Ev hf h0 hi
 obtain ⟨b1,b2⟩:=Ev hf a1 (by omega:(nth f i).toNat<f.length)
 rw[I0,Ae2,if_neg h,I0]
 exact Abk i.toNat _ _ _ _ (J6 hf hi b1 q_) b1 (by rw[List.length_set];omega) q_ q_ q_
theorem K3:∀ (m:Nat) (f:List Int) (i:Int),Cp f→0≤i→i.toNat<f.length→i.toNat≤m→Cp (I0 f i).1∧(I0 f i).1.length=f.length∧0≤(I0 f i).2∧(I0 f i).2≤i
 | m,f,i,hf,h0,hi,hm=>by
  by_cases e:nth f i=i
  ·rw[Ak1 e];exact⟨hf,rfl,h0,Int.le_refl _⟩
  ·obtain ⟨a1,a2⟩:=Ev hf h0 hi
   obtain ⟨b1,b2⟩:=Ev hf a1 (by omega:(nth f i).toNat<f.length)
   rw[Ae1 hf h0 hi e]
   match m with
   | 0=>omega
   | m+1 =>
    obtain ⟨c1,c2,c3,c4⟩:=K3 m _ _ (J6 hf hi b1 q_) b1 (by rw[List.length_set];omega:(nth f (nth f i)).toNat<(f.set i.toNat (nth f (nth f i))).length) q_
    exact⟨c1,by rw[c2,List.length_set],c3,by omega⟩
theorem Zb {f:List Int} {a b:Int} (hf:Cp f) (ha:0≤a∧a.toNat<f.length) (hb:0≤b∧b.toNat<f.length):Cp (Q9 f a b).1∧(Q9 f a b).1.length=f.length:=by
 obtain ⟨a1,a2,a3,a4⟩:=K3 a.toNat f a hf ha.1 ha.2 (Nat.le_refl _)
 obtain ⟨b1,b2,b3,b4⟩:=K3 b.toNat (I0 f a).1 b a1 hb.1 q_ (Nat.le_refl _)
 unfold Q9
 dsimp only
 generalize I0 (I0 f a).1 b=y at *
 generalize I0 f a=x at *
 refine⟨J6 b1 q_ q_ q_,by rw[List.length_set];omega⟩
theorem Aem (k:Nat):Cp (Kd k)∧(Kd k).length=k:=by
 refine⟨fun i hi=>?_,by simp[Kd]⟩
 simp[Kd]
def alJ (k j:Nat):List Int:=(List.range j).map (fun i:Nat=>(i:Int))++List.replicate (k-j) 0
theorem Asr (k:Nat):alJ k 0=List.replicate k 0:=by simp[alJ]
theorem Auu (k j:Nat) (h:j≤k):(alJ k j).length=k:=by simp[alJ];omega
theorem Ass (k j:Nat) (h:j<k):(alJ k j).set ((j:Nat):Int).toNat (j:Int)=alJ k (j+1):=by
 have hl:((List.range j).map (fun i:Nat=>(i:Int))).length=j:=by simp
 rw[Int.toNat_natCast,alJ,alJ,List.set_append_right _ _ q_,hl,Nat.sub_self,show k-j=(k-(j+1))+1 by omega,List.replicate_succ,List.set_cons_zero,List.range_succ,List.map_append,List.append_assoc]
 rfl
theorem aloneS (k:Nat) (hk:k≤100000):Sy.Spec Tryz.prog 135 [Aa k] [] (.osl 900) [(900,.row 1 Aa (Kd k))]:=cT F135 Tryz.ntmps135 fun F hF=>by
 have hfull:alJ k k=Kd k:=by simp[alJ,Kd]
 refine T ?_
 refine X (Bp Γ.toTy (d:=6) (n:=k) Aa 0 E E E E E E E E q_ q_ E E E) ?_
 refine T ?_
 refine C1 (fun j:Nat=>j≤k) (fun j=>[(3,.osl 1000),(8,Aa k),(9,Aa j)]) (fun j=>[(1000,.row 1 Aa (alJ k j))]) (fun j=>k-j) 0 [(1000,6)] q_ ⟨⟨E,E,congrArg Aa (by rw[List.length_replicate]),E,E,E,Y⟩,⟨.inl (congrArg (Ob.row 1 Aa) (Asr k)),E,Y⟩,E,E⟩ ?_
 intro j hj
 have hl:=Auu k j hj
 refine T ?_
 refine⟨fun h=>?_,fun h=>?_⟩
 ·have hlt:j<k:=qA h
  clear h
  have hne:alJ k j≠[]:=fun e=>by rw[e]at hl;simp at hl;omega
  have hnx:=Ass k j hlt
  refine T ?_
  refine⟨(j:Int),E,E,?_⟩
  refine T ?_
  exact Bg (j+1) [] hlt q_ ⟨⟨E,E,E,E,E,E,Y⟩,⟨.inl (congrArg (Ob.row 1 Aa) hnx.symm),E,Y⟩,E,E⟩
 ·have hje:j=k:=qB h
  clear h
  subst hje
  rw[hfull]
  refine T ?_
  exact done E (.cons .tmp .nil) [(900,1000)] [(900,.row 1 Aa (Kd j))] (fun _ h=>h) E E U
theorem Amz (l:List Int) (h0:0<l.length) (hl:l.length<2147483648):Sy.Spec Tryz.prog 137 [.sl 1 Aa l] [] (Aa (Aga l)) []:=cT F137 Tryz.ntmps137 fun F hF=>by
 have f0:decide ((l.length:Int)<1)=false:=decide_eq_false q_
 have hz:(0:Int).toNat<l.length:=h0
 have hst:Aga l=Aaz (l[(0:Int).toNat]'hz) (l.drop 1):=by rw[Aga,Ae hz]
 refine T ?_
 refine C1 (fun x:Nat × Int=>1≤x.1∧x.1≤l.length∧Aga l=Aaz x.2 (l.drop x.1)) (fun x=>[(0,.sl 1 Aa l),(3,Aa x.2),(4,Aa x.1)]) (fun _=>[]) (fun x=>l.length-x.1) (1,l[(0:Int).toNat]'hz) [] ⟨by omega,by omega,hst⟩ U ?_
 rintro ⟨i,m⟩ ⟨h1,h2,hI⟩
 dsimp only at h1 h2 hI ⊢
 refine T ?_
 refine⟨fun h=>?_,fun h=>?_⟩
 ·have hlt:i<l.length:=qA h
  have hlt0:((i:Nat):Int).toNat<l.length:=hlt
  clear h
  rw[List.drop_eq_getElem_cons hlt,Aaz]at hI
  refine T ?_
  refine X (Um E E E) ?_
  exact Bg (i+1,min m l[i]) [] ⟨by dsimp only;omega,hlt,hI⟩ (by dsimp only;omega) ⟨⟨E,E,congrArg Aa (by dsimp only;show min m l[i]=if l[i]<m then l[i] else m;omega),E,E,E,Y⟩,Y,E,E⟩
 ·have hie:i=l.length:=qB h
  clear h
  rw[hie,List.drop_length,Aaz]at hI
  rw[hI]
  refine T ?_
  exact D
theorem topS (f:List Int) (i:Int) (hf:Cp f) (h0:0≤i) (hi:i.toNat<f.length) (hl:f.length≤100000):Sy.Spec Tryz.prog 204 [.osl 900,Aa i] [(900,.row 1 Aa f)] (Aa (I0 f i).2) [(900,.row 1 Aa (I0 f i).1)]:=cT F204 Tryz.ntmps204 fun F hF=>by
 refine T ?_
 refine C1 (fun x:List Int × Int=>Cp x.1∧x.1.length=f.length∧0≤x.2∧x.2.toNat<f.length∧I0 f i=I0 x.1 x.2) (fun x=>[(0,.osl 900),(1,Aa x.2)]) (fun x=>[(900,.row 1 Aa x.1)]) (fun x=>x.2.toNat) (f,i) [] ⟨hf,E,h0,hi,E⟩ U ?_
 rintro ⟨g,k⟩ ⟨h1,h2,h3,h4,hI⟩
 dsimp only at h1 h2 h3 h4 hI ⊢
 have hk0:k.toNat<g.length:=by omega
 have hn:=Ae hk0
 by_cases e:nth g k=k
 ·have hb:(g[k.toNat] == k)=true:=by rw[← hn];exact beq_iff_eq.mpr e
  have hb':(!(g[k.toNat] == k))=false:=by rw[hb];rfl
  rw[hI,Ak1 e]
  refine T ?_
  exact done E (.cons .tmp .nil) [(900,900)] [(900,.row 1 Aa g)] (fun _ h=>h) E E U
 ·obtain ⟨a1,a2⟩:=Ev h1 h3 hk0
  obtain ⟨b1,b2⟩:=Ev h1 a1 (by omega:(nth g k).toNat<g.length)
  have hk1:(g[k.toNat]'hk0).toNat<g.length:=by omega
  have hn1:nth g (nth g k)=g[(g[k.toNat]'hk0).toNat]'hk1:=by rw[hn];exact Ae hk1
  have hs:=Ae1 h1 h3 hk0 e
  have hb:(g[k.toNat] == k)=false:=by rw[← hn];exact beq_eq_false_iff_ne.mpr e
  have hb':(!(g[k.toNat] == k))=true:=by rw[hb];rfl
  refine T ?_
  refine⟨nth g (nth g k),congrArg (fun x=>cellsOf (Aa x)) hn1,E,?_⟩
  have hk2:k.toNat<(g.set k.toNat (nth g (nth g k))).length:=by rw[List.length_set];exact hk0
  have hn2:(g.set k.toNat (nth g (nth g k)))[k.toNat]'hk2=nth g (nth g k):=List.getElem_set_self _
  refine T ?_
  refine Bg (g.set k.toNat (nth g (nth g k)),nth g (nth g k)) [] ⟨J6 h1 hk0 b1 q_,by dsimp only;rw[List.length_set];exact h2,b1,by dsimp only;omega,by dsimp only;rw[hI,hs]⟩ (by dsimp only;omega) ⟨⟨E,E,congrArg Aa hn2.symm,E,Y⟩,⟨.inl E,E,Y⟩,E,E⟩
theorem Au6 (f:List Int) (a b:Int) (hf:Cp f) (ha:0≤a∧a.toNat<f.length) (hb:0≤b∧b.toNat<f.length) (hl:f.length≤100000):Sy.Spec Tryz.prog 138 [.osl 900,Aa a,Aa b] [(900,.row 1 Aa f)] (Ab (Q9 f a b).2) [(900,.row 1 Aa (Q9 f a b).1)]:=cT F138 Tryz.ntmps138 fun F hF=>by
 obtain ⟨a1,a2,a3,a4⟩:=K3 a.toNat f a hf ha.1 ha.2 (Nat.le_refl _)
 obtain ⟨b1,b2,b3,b4⟩:=K3 b.toNat (I0 f a).1 b a1 hb.1 q_ (Nat.le_refl _)
 have F1:=topS f a hf ha.1 ha.2 hl
 have F2:=topS (I0 f a).1 b a1 hb.1 q_ q_
 rw[Q9]
 dsimp only
 generalize hy:I0 (I0 f a).1 b=y at *
 generalize hx:I0 f a=x at *
 have hm:(if y.2>x.2 then y.2 else x.2).toNat<y.1.length:=by split<;>omega
 have hm0:0≤(if y.2>x.2 then y.2 else x.2):=by split<;>omega
 have e1:(max x.2 y.2).toNat=(if y.2>x.2 then y.2 else x.2).toNat:=by rw[Int.max_def];split<;>split<;>omega
 have e2:(min x.2 y.2)=(if y.2<x.2 then y.2 else x.2):=by rw[Int.min_def];split<;>split<;>omega
 rw[e1,e2]
 refine T ?_
 refine X (Ad [(900,900)] E F204 F1 E W E V) ?_
 refine T ?_
 refine X (Ad [(900,900)] E F204 F2 E W E V) ?_
 refine T ?_
 refine X (Art E E E) ?_
 refine T ?_
 refine X (Um E E E) ?_
 refine T ?_
 refine⟨_,E,E,?_⟩
 refine T ?_
 exact done E (.cons .tmp .nil) [(900,900)] [(900,.row 1 Aa (y.1.set (if y.2>x.2 then y.2 else x.2).toNat (if y.2<x.2 then y.2 else x.2)))] (fun _ h=>h) E E U
theorem Ud {n:Net} {i:Nat} {v:Int} (h:(linkDomT n i v).2=true) (hi:i<n.ports.length):Ci n.ports[i] v=true:=by
 have e:nth n.ports ((i:Nat):Int)=n.ports[i]:=Ae (l:=n.ports) (i:=((i:Nat):Int)) hi
 unfold linkDomT at h
 split at h
 ·rename_i h3
  unfold crossT at h3
  split at h3
  ·rename_i h4
   rw[e]at h4
   exact h4.2.1
  ·cases h3
 ·cases h
theorem Q5 {n:Net} (hr:Ac n=true) {f:List Int} {i:Nat} (hi:i<n.ports.length) {v:Int} (hf:Cp f) (hl:n.domains.length≤f.length):Cp (Cw n f i v)∧(Cw n f i v).length=f.length:=by
 unfold Cw
 split
 ·rename_i h
  have h2:=Ki h
  have hm:Ci n.ports[i] v=true:=Ud h hi
  have h3:=Ox hr hi hm
  have e:nth n.ports ((i:Nat):Int)=n.ports[i]:=Ae (l:=n.ports) (i:=((i:Nat):Int)) hi
  rw[e]
  exact Zb hf ⟨h3.1,by omega⟩ ⟨h2.1,by omega⟩
 ·exact⟨hf,E⟩
theorem Iy {α:Type} {g:List Int→α→List Int} {k:Nat}:∀ {l:List α} {f:List Int},(∀ a∈l,∀ f,Cp f→k≤f.length→Cp (g f a)∧(g f a).length=f.length)→Cp f→k≤f.length→Cp (l.foldl g f)∧(l.foldl g f).length=f.length
 | [],_,_,h,_=>⟨h,rfl⟩
 | a::l,f,hg,h,hk=>by
  obtain ⟨h1,h2⟩:=hg a y_ f h hk
  obtain ⟨h3,h4⟩:=Iy (l:=l) (fun b hb=>hg b (by simp[hb])) h1 (by omega:k≤(g f a).length)
  exact⟨h3,by rw[List.foldl_cons,h4,h2]⟩
theorem Of {n:Net} (hr:Ac n=true) {f:List Int} {i:Nat} (hi:i<n.ports.length) (hf:Cp f) (hl:n.domains.length≤f.length):Cp (E8 n f i)∧(E8 n f i).length=f.length :=
 Iy (fun _ _ _ h1 h2=>Q5 hr hi h1 h2) hf hl
theorem Adt {n:Net} (hr:Ac n=true) {f:List Int} (hf:Cp f) (hl:n.domains.length≤f.length):Cp (Qe n f)∧(Qe n f).length=f.length :=
 Iy (fun i hi _ h1 h2=>Of hr (by simpa using hi) h1 h2) hf hl
theorem Aeg (l:List Int) (hl:l.length<2147483648):Sy.Spec Tryz.prog 103 [.sl 1 Aa l] [] (.osl 0) [(0,.row 1 Aa l)]:=cT F103 Tryz.ntmps103 fun F hF=>by
 refine fW ?_
 refine C3 E (.inl E) E E E .sl E E ?_
 intro b hb
 cases b
 ·refine fU ?_
  refine Af (Ag Γ.toTy 7 E E E E E (.lit (e:=Aa) (l:=[]) E E) .sl y_ (by simp;omega) (by simp;omega)) E E ?_
  refine fU ?_
  exact done E (.cons .tmp .nil) [(0,7)] [(0,.row 1 Aa l)] (fun _ h=>h) E E ⟨Y,⟨.inl E,E,Y⟩,E,E⟩
 ·have h0:l=[]:=List.eq_nil_of_length_eq_zero (hb rfl)
  subst h0
  refine fU ?_
  refine Cc 2 1000 1 Aa E E ?_
  exact done E (.cons .tmp .nil) [(0,1000)] [(0,.row 1 Aa [])] (fun _ h=>h) E E ⟨Y,⟨.inl E,E,Y⟩,E,E⟩
theorem At0 (n:Net) (f:List Int) (hn:n.Fin) (hr:Ac n=true) (hf:Cp f) (hl:n.domains.length≤f.length) (hl2:f.length≤100000):Sy.Spec Tryz.prog 136 [Aj n,.osl 900] [(900,.row 1 Aa f)] (.tup []) [(900,.row 1 Aa (Qe n f))]:=cT F136 Tryz.ntmps136 fun F hF=>by
 have hp:n.ports.length<2147483648:=hn.ports
 refine T ?_
 refine Aw 2 8 (Aj n) E E E ?_
 refine T ?_
 refine A3 n.ports.length (fun j=>[(1,.osl 900),(2,.ref 8 (Aj n) 0),(11,.sl 7 Au n.ports),(12,Aa n.ports.length),(13,Aa j)]) (fun j=>[(900,.row 1 Aa ((List.range j).foldl (E8 n) f))]) [] U ?_
 intro j hj
 refine T ?_
 refine⟨fun h=>?_,fun h=>?_⟩
 ·have hlt:j<n.ports.length:=qA h
  have hj0:((j:Nat):Int).toNat<n.ports.length:=hlt
  clear h
  have htag:n.ports[((j:Nat):Int).toNat].tagged.length<2147483648:=hn.tagged _ (List.getElem_mem hj0)
  have htag2:n.ports[j].tagged.length<2147483648:=htag
  have hnp:nth n.ports ((j:Nat):Int)=n.ports[((j:Nat):Int).toNat]:=Ae hj0
  obtain ⟨g1,g2⟩:Cp ((List.range j).foldl (E8 n) f)∧((List.range j).foldl (E8 n) f).length=f.length:=Iy (fun i hi _ h1 h2=>Of hr (by have:=List.mem_range.1 hi;omega) h1 h2) hf hl
  refine T ?_
  refine Xd (Ad [(0,60)] E F103 (Aeg n.ports[((j:Nat):Int).toNat].tagged htag) E Y E ⟨.inr E,Y⟩) ?_
  refine T ?_
  refine Xd (Ag Γ.toTy 61 rfl rfl rfl rfl rfl (.row rfl) (.lit (e:=Aa) (l:=[n.ports[((j:Nat):Int).toNat].native]) rfl rfl) (by intro k hk;cases hk;decide) (by simp;omega) (by simp;omega)) ?_
  refine T ?_
  refine Aw 5 7 (Au n.ports[((j:Nat):Int).toNat]) E E E ?_
  have hlen:(n.ports[((j:Nat):Int).toNat].tagged++[n.ports[((j:Nat):Int).toNat].native]).length=n.ports[((j:Nat):Int).toNat].tagged.length+1:=by simp
  refine T ?_
  obtain ⟨vl,hvl⟩:∃ vl,n.ports[((j:Nat):Int).toNat].tagged++[n.ports[((j:Nat):Int).toNat].native]=vl:=⟨_,rfl⟩
  have hvlen:vl.length<2147483649:=by rw[← hvl,hlen];omega
  obtain ⟨fj,hfj⟩:∃ fj,(List.range j).foldl (E8 n) f=fj:=⟨_,rfl⟩
  rw[hfj]at g1 g2
  refine A3 vl.length (fun i=>[(1,.osl 900),(2,.ref 8 (Aj n) 0),(4,Aa j),(5,.ref 7 (Au n.ports[((j:Nat):Int).toNat]) 0),(11,.sl 7 Au n.ports),(12,Aa n.ports.length),(13,Aa j),(24,.osl 1000),(25,Aa vl.length),(26,Aa i)])
   (fun i=>[(900,.row 1 Aa ((vl.take i).foldl (fun f v=>Cw n f j v) fj)),(1000,.row 1 Aa vl)]) [(1000,61)] ⟨⟨rfl,rfl,rfl,rfl,rfl,rfl,rfl,rfl,rfl,rfl,rfl,rfl,rfl,rfl,rfl,rfl,congrArg (fun l:List Int=>Aa l.length) hvl.symm,rfl,rfl,rfl,trivial⟩,⟨.inl (congrArg (Ob.row 1 Aa) hfj.symm),rfl,.inl (congrArg (Ob.row 1 Aa) hvl.symm),rfl,trivial⟩,rfl,rfl⟩ ?_
  intro i hi
  refine T ?_
  refine⟨fun h=>?_,fun h=>?_⟩
  ·have hit:i<vl.length:=qA h
   have hi0:((i:Nat):Int).toNat<vl.length:=hit
   clear h
   obtain ⟨e1,e2⟩:Cp ((vl.take i).foldl (fun f v=>Cw n f j v) fj)∧((vl.take i).foldl (fun f v=>Cw n f j v) fj).length=fj.length:=Iy (fun _ _ _ h1 h2=>Q5 hr hlt h1 h2) g1 q_
   have hnx:(vl.take (i+1)).foldl (fun f v=>Cw n f j v) fj=Cw n ((vl.take i).foldl (fun f v=>Cw n f j v) fj) j (vl[((i:Nat):Int).toNat]'hi0):=by
    rw[List.take_succ_eq_append_getElem hit,List.foldl_append];rfl
   have q:=Uc n hn j (vl[((i:Nat):Int).toNat]'hi0)
   refine T ?_
   refine C q F90 ?_
   cases hb:(linkDomT n j (vl[((i:Nat):Int).toNat]'hi0)).2
   ·have hz:Cw n ((vl.take i).foldl (fun f v=>Cw n f j v) fj) j (vl[((i:Nat):Int).toNat]'hi0)=(vl.take i).foldl (fun f v=>Cw n f j v) fj:=by rw[Cw,if_neg (by rw[hb];decide)]
    rw[hz]at hnx
    refine T ?_
    exact Av [] q_ ⟨⟨E,E,E,E,E,E,E,E,E,E,E,E,E,E,E,E,E,E,E,E,Y⟩,⟨.inl (congrArg (Ob.row 1 Aa) hnx),E,.inl E,E,Y⟩,E,E⟩
   ·have hin:=Ki hb
    have hm:Ci (n.ports[((j:Nat):Int).toNat]'hj0) (vl[((i:Nat):Int).toNat]'hi0)=true:=Ud hb hlt
    have hdm:=Ox hr hlt hm
    have q2:=Im n hn hr (n.ports[((j:Nat):Int).toNat]'hj0).dev (vl[((i:Nat):Int).toNat]'hi0)
    have hz:Cw n ((vl.take i).foldl (fun f v=>Cw n f j v) fj) j (vl[((i:Nat):Int).toNat]'hi0)=(Q9 ((vl.take i).foldl (fun f v=>Cw n f j v) fj) (Ej n (n.ports[((j:Nat):Int).toNat]'hj0).dev (vl[((i:Nat):Int).toNat]'hi0)) (linkDomT n j (vl[((i:Nat):Int).toNat]'hi0)).1).1:=by rw[Cw,if_pos hb,hnp]
    rw[hz]at hnx
    have q3:=Au6 ((vl.take i).foldl (fun f v=>Cw n f j v) fj) (Ej n (n.ports[((j:Nat):Int).toNat]'hj0).dev (vl[((i:Nat):Int).toNat]'hi0)) (linkDomT n j (vl[((i:Nat):Int).toNat]'hi0)).1 e1 ⟨hdm.1,Nat.lt_of_lt_of_le hdm.2 q_⟩ ⟨hin.1,by omega⟩ q_
    refine T ?_
    refine C q2 F49 ?_
    refine T ?_
    refine X (Ad [(900,900)] E F138 q3 E W E V) ?_
    refine T ?_
    exact Av [] q_ ⟨⟨E,E,E,E,E,E,E,E,E,E,E,E,E,E,E,E,E,E,E,E,Y⟩,⟨.inl (congrArg (Ob.row 1 Aa) hnx),E,.inl E,E,Y⟩,E,E⟩
  ·have hie:i=vl.length:=qB h
   clear h
   subst hie
   have hnx:(List.range (j+1)).foldl (E8 n) f=(vl.take vl.length).foldl (fun f v=>Cw n f j v) fj:=by
    rw[List.range_succ,List.foldl_append,hfj,List.take_length,← hvl]
    show E8 n fj j=_
    rw[E8,hnp]
   refine T ?_
   exact Av [] q_ ⟨⟨E,E,E,E,E,E,E,E,E,E,Y⟩,⟨.inl (congrArg (Ob.row 1 Aa) hnx),E,Y⟩,E,E⟩
 ·have hje:j=n.ports.length:=qB h
  clear h
  subst hje
  refine T ?_
  exact A1 E .nil [(900,900)] [(900,.row 1 Aa (Qe n f))] (fun _ h=>h) E E U
end Go.Sy.YtcflgpijohhfbaaGreat
namespace Go.Sy.YtcflgpijohhfbaaGreat
open Go.Proofs
attribute [local irreducible] Go.Sy.G Go.Sy.DR
set_option maxRecDepth 100000
set_option maxHeartbeats 4000000
theorem Alo:∀ (l:List Int) (m:Int),Aaz m l=m∨Aaz m l∈l
 | [],_=>.inl rfl
 | x::l,m=>by
  rw[Aaz]
  rcases Alo l (min m x) with h | h
  ·rw[h,Int.min_def]
   split
   ·exact .inl E
   ·exact .inr y_
  ·exact .inr (by simp[h])
theorem Atx {l:List Int} (h:l≠[]):Aga l∈l:=by
 match l,h with
 | x::l,_ =>
  show Aaz (nth (x::l) 0) l∈x::l
  rw[show nth (x::l) 0=x from rfl]
  rcases Alo l x with h | h
  ·rw[h];simp
  ·simp[h]
theorem loopS (n:Net) (hn:n.Fin):Sy.Spec Tryz.prog 77 [Aj n] [] (.tup [Aa (loopT n).1,Ab (loopT n).2]) []:=cT F77 Tryz.ntmps77 fun F hF=>by
 have qn:=At n hn
 have hT:=loopT.eq_1 n
 generalize loopT n=res at *
 cases hr:Ac n with
 | false =>
  rw[hr]at qn
  rw[hr,if_pos rfl]at hT
  subst hT
  refine T ?_
  refine C qn F12 ?_
  refine T ?_
  exact D
 | true =>
 rw[hr]at qn
 rw[hr,if_neg y_]at hT
 obtain ⟨_,_,_,hmany,_⟩:=Ahb hr
 obtain ⟨fa1,fa2⟩:=Aem (2 * n.domains.length)
 have fl:=Adt hr fa1 q_
 have q1:=aloneS (2 * n.domains.length) q_
 rw[show ((2 * n.domains.length:Nat):Int)=2 * (n.domains.length:Int) from by omega]at q1
 have q2:=At0 n (Kd (2 * n.domains.length)) hn hr fa1 q_ q_
 refine T ?_
 refine C qn F12 ?_
 refine Aw 1 8 (Aj n) E E E ?_
 refine T ?_
 refine X (Ad [(900,700)] E F135 q1 E W E V) ?_
 refine T ?_
 refine X (Ad [(900,700)] E F136 q2 E W E V) ?_
 refine T ?_
 refine C1 (fun x:Nat × List Int=>x.1≤n.domains.length∧Cp x.2∧x.2.length=2 * n.domains.length∧res=Vz n x.2 x.1 (n.domains.drop x.1)) (fun x=>[(1,.ref 8 (Aj n) 0),(4,Aa n.domains.length),(5,.osl 1000),(22,.sl 6 An n.domains),(23,Aa n.domains.length),(24,Aa x.1)])
  (fun x=>[(1000,.row 1 Aa x.2)]) (fun x=>n.domains.length-x.1) (0,Qe n (Kd (2 * n.domains.length))) [(1000,700)] ⟨by omega,fl.1,by dsimp only;rw[fl.2,fa2],hT⟩ U ?_
 rintro ⟨i,f⟩ ⟨h1,h2,h3,hI⟩
 dsimp only at h1 h2 h3 hI ⊢
 refine T ?_
 refine⟨fun h=>?_,fun h=>?_⟩
 ·have hlt:i<n.domains.length:=qA h
  have hi0:((i:Nat):Int).toNat<n.domains.length:=hlt
  clear h
  rw[List.drop_eq_getElem_cons hlt,Vz]at hI
  have hpl:n.domains[((i:Nat):Int).toNat].peers.length<2147483648:=hn.peers _ (List.getElem_mem hi0)
  refine T ?_
  refine⟨fun h=>?_,fun h=>?_⟩
  ·have hpe:n.domains[i].peers=[]:=List.eq_nil_of_length_eq_zero (by have:=eq_of_beq h;have e:(n.domains[((i:Nat):Int).toNat]'hi0).peers.length=n.domains[i].peers.length:=rfl;omega)
   clear h
   rw[if_pos hpe]at hI
   refine T ?_
   exact Bg (i+1,f) [] ⟨hlt,h2,h3,hI⟩ (by dsimp only;omega) ⟨⟨E,E,E,E,E,E,E,E,E,E,E,E,Y⟩,⟨.inl E,E,Y⟩,E,E⟩
  have hpe:n.domains[i].peers≠[]:=fun e=>by
   have e2:(n.domains[((i:Nat):Int).toNat]'hi0).peers=[]:=e
   rw[e2]at h
   cases h
  clear h
  rw[if_neg hpe]at hI
  dsimp only at hI
  have hpm:=Akb hr hlt (Atx hpe)
  have qm:=Amz (n.domains[((i:Nat):Int).toNat]'hi0).peers (by have:=List.length_pos_iff.2 hpe;exact this) hpl
  obtain ⟨m,hm⟩:∃ m,Aga (n.domains[((i:Nat):Int).toNat]'hi0).peers=m:=⟨_,rfl⟩
  have hm':Aga n.domains[i].peers=m:=hm
  have emin:min (i:Int) m=if m<(i:Int) then m else (i:Int):=by rw[Int.min_def];split<;>split<;>omega
  rw[hm]at qm
  rw[hm']at hI hpm
  rw[emin]at hI
  have hmb:0≤(if m<(i:Int) then m else (i:Int))∧(if m<(i:Int) then m else (i:Int))<n.domains.length:=by split<;>omega
  have q3:=Au6 f i ((n.domains.length:Int)+(if m<(i:Int) then m else (i:Int))) h2 ⟨by omega,by omega⟩ ⟨by omega,by omega⟩ q_
  have q3f:=Zb h2 (⟨by omega,by omega⟩:0≤(i:Int)∧(i:Int).toNat<f.length) (⟨by omega,by omega⟩:0≤(n.domains.length:Int)+(if m<(i:Int) then m else (i:Int))∧((n.domains.length:Int)+(if m<(i:Int) then m else (i:Int))).toNat<f.length)
  have hb48:(n.domains.length:Int)+(if m<(i:Int) then m else (i:Int))<100:=by omega
  generalize (Q9 f i ((n.domains.length:Int)+(if m<(i:Int) then m else (i:Int))))=r at *
  obtain ⟨g,ok⟩:=r
  dsimp only at hI q3f
  refine T ?_
  refine C qm F137 ?_
  refine T ?_
  refine X (Um E E E) ?_
  refine T ?_
  refine X (Ad [(900,1000)] E F138 q3 E W E V) ?_
  cases ok with
  | false =>
   rw[if_pos rfl]at hI
   rw[hI]
   refine T ?_
   exact D
  | true =>
   rw[if_neg j_]at hI
   refine T ?_
   exact Bg (i+1,g) [] ⟨hlt,q3f.1,by dsimp only;omega,hI⟩ (by dsimp only;omega) ⟨⟨E,E,E,E,E,E,E,E,E,E,E,E,Y⟩,⟨.inl E,E,Y⟩,E,E⟩
 ·have hie:i=n.domains.length:=qB h
  clear h
  rw[hie,List.drop_length,Vz]at hI
  rw[hI]
  refine T ?_
  exact D
theorem Ab8 (l:List Int) (x:Int) (hl:Ak l):Sy.Spec Tryz.prog 261 [.sl 1 A4 l,A4 x] [] (Aa (B9 (· == x) l)) []:=cT F261 Tryz.ntmps261 fun F hF=>by
 unfold Ak at hl
 refine fW ?_
 refine Be l.length (fun j=>∀ i (h:i<l.length),i<j→(l[i] == x)=false) (fun j=>[(0,.sl 1 A4 l),(1,A4 x),(7,Aa l.length),(8,Aa j)]) (fun _=>[]) [] (fun i h hj=>absurd hj q_) ⟨⟨E,E,E,E,E,E,E,E,Y⟩,Y,E,E⟩ ?_
 intro j hj hI
 refine fU ?_
 (repeat' (first | (refine⟨fun h=>?_,fun h=>?_⟩<;>(repeat (first | simp only[Ai]at h | simp only[decide_eq_true_eq]at h | simp only[decide_eq_false_iff_not]at h | simp only[beq_iff_eq]at h | simp only[beq_eq_false_iff_ne]at h | simp only[bne_iff_ne]at h | simp only[bne_eq_false_iff_eq]at h | simp only[Bool.and_eq_true]at h | simp only[Bool.or_eq_true]at h | simp only[Bool.and_eq_false_iff]at h | simp only[Bool.or_eq_false_iff]at h | simp only[Bool.not_eq_true']at h | simp only[Bool.not_eq_false']at h | simp only[Bool.not_eq_eq_eq_not]at h | simp only[Bool.not_true]at h | simp only[Bool.not_false]at h))<;>((first|refine rg ?_|refine rd z_ ?_);(conv=>whnf);repeat((first|refine aF ?_|refine aT ?_);(first|refine rg ?_|refine rd z_ ?_);(conv=>whnf)))) | (refine Ap rfl (.cons .tmp .nil) ?_ rfl) | (refine⟨z_,?_⟩;((conv=>whnf);repeat((first|refine aF ?_|refine aT ?_);(first|refine rg ?_|refine rd z_ ?_);(conv=>whnf)))) | (refine⟨by (first | (unfold I64;omega) | omega | (simp only[Int.toNat_natCast];omega) | done),by (first | (unfold I64;omega) | omega | (simp only[Int.toNat_natCast];omega) | done),?_⟩;((conv=>whnf);repeat((first|refine aF ?_|refine aT ?_);(first|refine rg ?_|refine rd z_ ?_);(conv=>whnf)))) | (refine⟨by (first | (unfold I64;omega) | omega | (simp only[Int.toNat_natCast];omega) | done),?_⟩;((conv=>whnf);repeat((first|refine aF ?_|refine aT ?_);(first|refine rg ?_|refine rd z_ ?_);(conv=>whnf)))) | refine Bb [] hI q_ ?_ ⟨⟨rfl,rfl,rfl,rfl,rfl,rfl,rfl,rfl,trivial⟩,trivial,rfl,rfl⟩))
 all_goals try (refine congrArg Aa ?_)
 ·exact Cm q_ hI (by simpa using h.symm)
 ·intro i hi hij
  rcases Nat.lt_or_ge i j with h1 | h1
  ·exact hI i hi h1
  ·have:i=j:=by omega
   subst this
   simpa using Ne.symm h
 ·exact Cy (fun i hi=>hI i hi q_)
theorem Me (l:List Int) (x:Int) (hl:Ak l):Sy.Spec Tryz.prog 194 [.sl 1 A4 l,A4 x] [] (Ab (inB l x)) []:=cT F194 Tryz.ntmps194 fun F hF=>by
 refine fW ?_
 (repeat' (first | (refine⟨fun h=>?_,fun h=>?_⟩<;>(repeat (first | simp only[Ai]at h | simp only[decide_eq_true_eq]at h | simp only[decide_eq_false_iff_not]at h | simp only[beq_iff_eq]at h | simp only[beq_eq_false_iff_ne]at h | simp only[bne_iff_ne]at h | simp only[bne_eq_false_iff_eq]at h | simp only[Bool.and_eq_true]at h | simp only[Bool.or_eq_true]at h | simp only[Bool.and_eq_false_iff]at h | simp only[Bool.or_eq_false_iff]at h | simp only[Bool.not_eq_true']at h | simp only[Bool.not_eq_false']at h | simp only[Bool.not_eq_eq_eq_not]at h | simp only[Bool.not_true]at h | simp only[Bool.not_false]at h))<;>((first|refine rg ?_|refine rd z_ ?_);(conv=>whnf);repeat((first|refine aF ?_|refine aT ?_);(first|refine rg ?_|refine rd z_ ?_);(conv=>whnf)))) | (refine Ap rfl (.cons .tmp .nil) ?_ rfl) | (refine⟨z_,?_⟩;((conv=>whnf);repeat((first|refine aF ?_|refine aT ?_);(first|refine rg ?_|refine rd z_ ?_);(conv=>whnf)))) | (refine⟨by (first | (unfold I64;omega) | omega | (simp only[Int.toNat_natCast];omega) | done),by (first | (unfold I64;omega) | omega | (simp only[Int.toNat_natCast];omega) | done),?_⟩;((conv=>whnf);repeat((first|refine aF ?_|refine aT ?_);(first|refine rg ?_|refine rd z_ ?_);(conv=>whnf)))) | (refine⟨by (first | (unfold I64;omega) | omega | (simp only[Int.toNat_natCast];omega) | done),?_⟩;((conv=>whnf);repeat((first|refine aF ?_|refine aT ?_);(first|refine rg ?_|refine rd z_ ?_);(conv=>whnf)))) | (refine c0 (Ab8 _ _ hl) F261 ?_;((first|refine rg ?_|refine rd z_ ?_);(conv=>whnf);repeat((first|refine aF ?_|refine aT ?_);(first|refine rg ?_|refine rd z_ ?_);(conv=>whnf)))) | (refine cD (Ab8 _ _ hl) F261 ?_;((first|refine rg ?_|refine rd z_ ?_);(conv=>whnf);repeat((first|refine aF ?_|refine aT ?_);(first|refine rg ?_|refine rd z_ ?_);(conv=>whnf))))))
 exact congrArg Ab (J3 _ _).symm
theorem ovVniS (n:Net) (hn:n.Fin) (l:LineM) (hl:LineW l):Sy.Spec Tryz.prog 127 [Aj n,A2 l] [] (.tup [Aj (putVni n l).1,Aa (putVni n l).2]) []:=cT F127 Tryz.ntmps127 fun F hF=>by
 have hok:=@beg_ok n l 6
 have hres:=putVni.eq_1 n l
 have q1:=Ku n hn l hl 6
 have qcopy:=Md n hn
 generalize putVni n l=res at *
 generalize begT n l 6=b at *
 obtain ⟨d,e⟩:=b
 dsimp only at hres hok q1
 by_cases h1:e≠0
 ·have g1:(e != 0)=true:=by rw[bne_iff_ne];exact h1
  rw[if_pos h1]at hres
  subst hres
  refine T ?_
  refine C q1 F193 ?_
  refine Am 4 (Cn emptyN) E vL ?_
  refine T ?_
  exact D
 have g1:(e != 0)=false:=by rw[bne_eq_false_iff_eq];omega
 rw[if_neg h1]at hres
 obtain ⟨_,hr,i,hi,hlt⟩:=hok q_
 subst hi
 clear hok
 have hlt0:((i:Nat):Int).toNat<n.devices.length:=hlt
 have hnth:nth n.devices (i:Int)=n.devices[((i:Nat):Int).toNat]'hlt0:=Ae hlt0
 rw[hnth]at hres
 have q2:=Im n hn hr (i:Int) l.vlan
 have q3:=T3 n hn (i:Int) l.num
 have hdr:Ej n (i:Int) l.vlan<0∨∃ k:Nat,Ej n (i:Int) l.vlan=k∧k<n.domains.length:=by
  by_cases h:Ej n (i:Int) l.vlan<0
  ·exact .inl h
  ·exact .inr (Ih h)
 generalize Ej n (i:Int) l.vlan=dm at *
 by_cases h2:(n.devices[((i:Nat):Int).toNat]'hlt0).vtep=0
 ·have g2:((n.devices[((i:Nat):Int).toNat]'hlt0).vtep == 0)=true:=by rw[beq_iff_eq];exact h2
  rw[if_pos h2]at hres
  subst hres
  refine T ?_
  refine C q1 F193 ?_
  refine C q2 F49 ?_
  refine Am 4 (Cn emptyN) E vL ?_
  refine T ?_
  exact D
 have g2:((n.devices[((i:Nat):Int).toNat]'hlt0).vtep == 0)=false:=by rw[beq_eq_false_iff_ne];exact h2
 rw[if_neg h2]at hres
 by_cases h3:dm<0
 ·have g3:decide (dm<0)=true:=decide_eq_true h3
  rw[if_pos h3]at hres
  subst hres
  refine T ?_
  refine C q1 F193 ?_
  refine C q2 F49 ?_
  refine Am 4 (Cn emptyN) E vL ?_
  refine T ?_
  exact D
 have g3:decide (dm<0)=false:=decide_eq_false h3
 rw[if_neg h3]at hres
 obtain ⟨k,hk,hkl⟩:=hdr.resolve_left h3
 subst hk
 clear hdr
 have hkl0:((k:Nat):Int).toNat<n.domains.length:=hkl
 have hnd:nth n.domains (k:Int)=n.domains[((k:Nat):Int).toNat]'hkl0:=Ae hkl0
 rw[hnd]at hres
 by_cases h4:(n.domains[((k:Nat):Int).toNat]'hkl0).vni≠0
 ·have g4:((n.domains[((k:Nat):Int).toNat]'hkl0).vni != 0)=true:=by rw[bne_iff_ne];exact h4
  rw[if_pos (.inl h4)]at hres
  subst hres
  refine T ?_
  refine C q1 F193 ?_
  refine C q2 F49 ?_
  refine Am 4 (Cn emptyN) E vL ?_
  refine T ?_
  exact D
 have g4:((n.domains[((k:Nat):Int).toNat]'hkl0).vni != 0)=false:=by rw[bne_eq_false_iff_eq];omega
 by_cases h5:0≤Mw n (i:Int) l.num
 ·have g5:decide (Mw n (i:Int) l.num≥0)=true:=decide_eq_true h5
  rw[if_pos (.inr h5)]at hres
  subst hres
  refine T ?_
  refine C q1 F193 ?_
  refine C q2 F49 ?_
  refine C q3 F133 ?_
  refine Am 4 (Cn emptyN) E vL ?_
  refine T ?_
  exact D
 have g5:decide (Mw n (i:Int) l.num≥0)=false:=decide_eq_false h5
 rw[if_neg (fun h=>h.elim h4 h5)]at hres
 have hne:n.domains≠[]:=fun e=>by rw[e]at hkl;cases hkl
 have hne2:∀ x,n.domains.set ((k:Nat):Int).toNat x≠[]:=fun x e=>by
  have:=congrArg List.length e
  rw[List.length_set]at this
  simp at this;exact hne this
 have hk2:∀ x,((k:Nat):Int).toNat<(n.domains.set ((k:Nat):Int).toNat x).length:=fun x=>by rw[List.length_set];exact hkl0
 have hset:∀ x y,(n.domains.set ((k:Nat):Int).toNat x).set ((k:Nat):Int).toNat y=n.domains.set ((k:Nat):Int).toNat y:=fun x y=>List.set_set ..
 have hget:∀ x,(n.domains.set ((k:Nat):Int).toNat x)[((k:Nat):Int).toNat]'(hk2 x)=x:=fun x=>List.getElem_set_self ..
 rw[← hset (⟨(n.domains[((k:Nat):Int).toNat]'hkl0).dev,(n.domains[((k:Nat):Int).toNat]'hkl0).vlan,l.num,(n.domains[((k:Nat):Int).toNat]'hkl0).irb,(n.domains[((k:Nat):Int).toNat]'hkl0).row,(n.domains[((k:Nat):Int).toNat]'hkl0).peers⟩:Domain) (⟨(n.domains[((k:Nat):Int).toNat]'hkl0).dev,(n.domains[((k:Nat):Int).toNat]'hkl0).vlan,l.num,(n.domains[((k:Nat):Int).toNat]'hkl0).irb,l.row,(n.domains[((k:Nat):Int).toNat]'hkl0).peers⟩:Domain)]at hres
 subst hres
 refine T ?_
 refine C q1 F193 ?_
 refine C q2 F49 ?_
 refine C q3 F133 ?_
 refine X (Ad [(0,901),(1,902),(2,903),(3,904),(4,905),(5,906),(6,907),(7,908)] E F59 qcopy E W E V) ?_
 refine⟨hne,?_⟩
 refine T ?_
 refine⟨(⟨(n.domains[((k:Nat):Int).toNat]'hkl0).dev,(n.domains[((k:Nat):Int).toNat]'hkl0).vlan,l.num,(n.domains[((k:Nat):Int).toNat]'hkl0).irb,(n.domains[((k:Nat):Int).toNat]'hkl0).row,(n.domains[((k:Nat):Int).toNat]'hkl0).peers⟩:Domain),E,E,?_⟩
 refine T ?_
 refine⟨hk2 _,?_⟩
 refine T ?_
 refine⟨hne2 _,?_⟩
 refine T ?_
 refine⟨hk2 _,(⟨(n.domains[((k:Nat):Int).toNat]'hkl0).dev,(n.domains[((k:Nat):Int).toNat]'hkl0).vlan,l.num,(n.domains[((k:Nat):Int).toNat]'hkl0).irb,l.row,(n.domains[((k:Nat):Int).toNat]'hkl0).peers⟩:Domain),by rw[hget];rfl,by rw[hget];rfl,?_⟩
 refine T ?_
 refine Ah 901 E ?_
 refine Ah 902 E ?_
 refine Ah 903 E ?_
 refine Ah 904 E ?_
 refine Ah 905 E ?_
 refine Ah 906 E ?_
 refine Ah 907 E ?_
 refine Ah 908 E ?_
 exact D
theorem Aqo (n:Net) (hn:n.Fin) (l:LineM) (hl:LineW l):Sy.Spec Tryz.prog 128 [Aj n,A2 l] [] (.tup [Aj (putFlood n l).1,Aa (putFlood n l).2]) []:=cT F128 Tryz.ntmps128 fun F hF=>by
 have hok:=@beg_ok n l 7
 have hres:=putFlood.eq_1 n l
 have q1:=Ku n hn l hl 7
 have qcopy:=Md n hn
 generalize putFlood n l=res at *
 generalize begT n l 7=b at *
 obtain ⟨d,e⟩:=b
 dsimp only at hres hok q1
 by_cases h1:e≠0
 ·have g1:(e != 0)=true:=by rw[bne_iff_ne];exact h1
  rw[if_pos h1]at hres
  subst hres
  refine T ?_
  refine C q1 F193 ?_
  refine Am 4 (Cn emptyN) E vL ?_
  refine T ?_
  exact D
 have g1:(e != 0)=false:=by rw[bne_eq_false_iff_eq];omega
 rw[if_neg h1]at hres
 obtain ⟨_,hr,i,hi,hlt⟩:=hok q_
 subst hi
 clear hok
 have hlt0:((i:Nat):Int).toNat<n.devices.length:=hlt
 have hnth:nth n.devices (i:Int)=n.devices[((i:Nat):Int).toNat]'hlt0:=Ae hlt0
 rw[hnth]at hres
 have hla:=hl.fin.a
 have q2:=T3 n hn (i:Int) l.num
 have q3:=Adl n hn (i:Int) l.num
 have q4:=Me l.addrs (n.devices[((i:Nat):Int).toNat]'hlt0).vtep (by unfold Ak;omega)
 have q5:=V9 l.addrs q_
 generalize Mw n (i:Int) l.num=v2 at *
 generalize H8 n (i:Int) l.num=v3 at *
 generalize inB l.addrs (n.devices[((i:Nat):Int).toNat]'hlt0).vtep=v4 at *
 by_cases h2:v2<0
 ·have g2:decide (v2<0)=true:=decide_eq_true h2
  rw[if_pos h2]at hres
  subst hres
  refine T ?_
  refine C q1 F193 ?_
  refine C q2 F133 ?_
  refine Am 4 (Cn emptyN) E vL ?_
  refine T ?_
  exact D
 have g2:decide (v2<0)=false:=decide_eq_false h2
 rw[if_neg h2]at hres
 by_cases h3:0≤v3
 ·have g3:decide (v3≥0)=true:=decide_eq_true h3
  rw[if_pos h3]at hres
  subst hres
  refine T ?_
  refine C q1 F193 ?_
  refine C q2 F133 ?_
  refine C q3 F132 ?_
  refine Am 4 (Cn emptyN) E vL ?_
  refine T ?_
  exact D
 have g3:decide (v3≥0)=false:=decide_eq_false h3
 rw[if_neg h3]at hres
 cases v4 with
 | true =>
  rw[if_pos rfl]at hres
  subst hres
  refine T ?_
  refine C q1 F193 ?_
  refine C q2 F133 ?_
  refine C q3 F132 ?_
  refine C q4 F194 ?_
  refine Am 4 (Cn emptyN) E vL ?_
  refine T ?_
  exact D
 | false =>
  rw[if_neg y_]at hres
  by_cases h5:n.floods.length=48
  ·have g5:((n.floods.length:Int) == 48)=true:=by rw[beq_iff_eq];omega
   rw[if_pos h5]at hres
   subst hres
   refine T ?_
   refine C q1 F193 ?_
   refine C q2 F133 ?_
   refine C q3 F132 ?_
   refine C q4 F194 ?_
   refine Am 4 (Cn emptyN) E vL ?_
   refine T ?_
   exact D
  have g5:((n.floods.length:Int) == 48)=false:=by rw[beq_eq_false_iff_ne];omega
  rw[if_neg h5]at hres
  subst hres
  have hfl:n.floods.length<2147483648:=hn.floods
  refine T ?_
  refine C q1 F193 ?_
  refine C q2 F133 ?_
  refine C q3 F132 ?_
  refine C q4 F194 ?_
  refine X (Ad [(0,901),(1,902),(2,903),(3,904),(4,905),(5,906),(6,907),(7,908)] E F59 qcopy E W E V) ?_
  refine C q5 F104 ?_
  refine Xd (Ag Γ.toTy 66 E E E E E (.row E) (.lit (e:=A0) (l:=[(⟨l.row,(i:Int),l.num,l.addrs⟩:Flood)]) E E) j_ (by simp only[List.length_singleton];omega) (by simp only[List.length_singleton];omega)) ?_
  refine T ?_
  refine Ah 901 E ?_
  refine Ah 902 E ?_
  refine Ah 903 E ?_
  refine Ah 904 E ?_
  refine Ah 905 E ?_
  refine Ah 66 E ?_
  refine Ah 907 E ?_
  refine Ah 908 E ?_
  exact D
theorem As5 (n:Net) (hn:n.Fin) (l:LineM) (hl:LineW l):Sy.Spec Tryz.prog 129 [Aj n,A2 l] [] (.tup [Aj (putVrf n l).1,Aa (putVrf n l).2]) []:=cT F129 Tryz.ntmps129 fun F hF=>by
 have hok:=@beg_ok n l 8
 have hres:=putVrf.eq_1 n l
 have q1:=X3 n hn l hl 8
 have qcopy:=Md n hn
 generalize putVrf n l=res at *
 generalize begT n l 8=b at *
 obtain ⟨d,e⟩:=b
 dsimp only at hres hok q1
 by_cases h1:e≠0
 ·have g1:(e != 0)=true:=by rw[bne_iff_ne];exact h1
  rw[if_pos h1]at hres
  subst hres
  refine T ?_
  refine C q1 F195 ?_
  refine Am 4 (Cn emptyN) E vL ?_
  refine T ?_
  exact D
 have g1:(e != 0)=false:=by rw[bne_eq_false_iff_eq];omega
 rw[if_neg h1]at hres
 obtain ⟨_,hr,i,hi,hlt⟩:=hok q_
 subst hi
 clear hok
 have hlt0:((i:Nat):Int).toNat<n.devices.length:=hlt
 have hnth:nth n.devices (i:Int)=n.devices[((i:Nat):Int).toNat]'hlt0:=Ae hlt0
 clear hnth
 have hli:=hl.fin.i
 have hle:=hl.fin.e
 have q2:=Abw n hn hr (i:Int) l.name
 have q5:=Dj l.imports q_
 have q6:=Dj l.exports q_
 have hfl:n.vrfs.length<2147483648:=hn.vrfs
 generalize Apf n (i:Int) l.name=v2 at *
 by_cases h2:0≤v2
 ·have g2:decide (v2≥0)=true:=decide_eq_true h2
  rw[if_pos h2]at hres
  subst hres
  refine T ?_
  refine C q1 F195 ?_
  refine C q2 F196 ?_
  refine Am 4 (Cn emptyN) E vL ?_
  refine T ?_
  exact D
 have g2:decide (v2≥0)=false:=decide_eq_false h2
 rw[if_neg h2]at hres
 by_cases h5:n.vrfs.length=16
 ·have g5:((n.vrfs.length:Int) == 16)=true:=by rw[beq_iff_eq];omega
  rw[if_pos h5]at hres
  subst hres
  refine T ?_
  refine C q1 F195 ?_
  refine C q2 F196 ?_
  refine Am 4 (Cn emptyN) E vL ?_
  refine T ?_
  exact D
 have g5:((n.vrfs.length:Int) == 16)=false:=by rw[beq_eq_false_iff_ne];omega
 rw[if_neg h5]at hres
 subst hres
 refine T ?_
 refine C q1 F195 ?_
 refine C q2 F196 ?_
 refine X (Ad [(0,901),(1,902),(2,903),(3,904),(4,905),(5,906),(6,907),(7,908)] E F59 qcopy E W E V) ?_
 refine C q5 F103 ?_
 refine C q6 F103 ?_
 refine Xd (Ag Γ.toTy 51 E E E E E (.row E) (.lit (e:=Bv) (l:=[(⟨l.row,(i:Int),l.name,l.imports,l.exports⟩:Vrf)]) E E) j_ (by simp only[List.length_singleton];omega) (by simp only[List.length_singleton];omega)) ?_
 refine T ?_
 refine Ah 901 E ?_
 refine Ah 902 E ?_
 refine Ah 903 E ?_
 refine Ah 904 E ?_
 refine Ah 905 E ?_
 refine Ah 906 E ?_
 refine Ah 51 E ?_
 refine Ah 908 E ?_
 exact D
theorem Abt {a b x:Int} (hb:0≤b∧b≤32) (ha:0≤a∧a<4294967296) (hx:0≤x∧x<4294967296):Ag1 a b x=Vu a b x:=by
 obtain ⟨y,rfl⟩:=Int.eq_ofNat_of_zero_le ha.1
 obtain ⟨z,rfl⟩:=Int.eq_ofNat_of_zero_le hx.1
 obtain ⟨k,hk,hk2⟩:∃ k:Nat,(32-b).toNat=k∧k≤32:=⟨_,rfl,by omega⟩
 have hq:0<2 ^ k:=Nat.two_pow_pos k
 rw[Ag1,Abq b hb,hk,Aq8 y z k q_ q_ hk2,Vu,decide_eq_true hb.1,decide_eq_true hb.2,Bool.true_and,Bool.true_and,Ii y k b hb hk,Ii z k b hb hk]
 generalize 2 ^ k=q at *
 have h1:=Nat.div_add_mod y q
 have h2:=Nat.div_add_mod z q
 have e1:y-y % q=q * (y / q):=by omega
 have e2:z-z % q=q * (z / q):=by omega
 rw[e1,e2,Bool.eq_iff_iff,decide_eq_true_eq,beq_iff_eq]
 constructor
 ·intro h;rw[h]
 ·intro h
  exact Nat.eq_of_mul_eq_mul_left hq (by exact_mod_cast h)
theorem clashS (n:Net) (x:Irb) (hv:0≤x.vrf∧x.vrf.toNat<n.vrfs.length) (hb:0≤x.bits∧x.bits≤32) (hx:0≤x.addr∧x.addr<4294967296) (dev a b:Int) (ha:0≤a∧a<4294967296) (hb2:0≤b∧b≤32) :
  Sy.Spec Tryz.prog 198 [Aj n,Br x,Aa dev,Ali a b] [] (Ab (clashB n dev a b x)) []:=cT F198 Tryz.ntmps198 fun F hF=>by
 have q1:=Aaj x.addr x.bits a hb
 have q2:=Aaj a b x.addr hb2
 rw[Abt hb hx ha]at q1
 rw[Abt hb2 ha hx]at q2
 have hc:=clashB.eq_1 n dev a b x
 have hv0:=hv.2
 rw[Ae hv0]at hc
 generalize clashB n dev a b x=r at *
 generalize Vu x.addr x.bits a=p1 at *
 generalize Vu a b x.addr=p2 at *
 cases h1:(x.addr == a) with
 | true =>
  rw[h1,Bool.true_or]at hc
  subst hc
  refine T ?_
  exact D
 | false =>
  rw[h1,Bool.false_or]at hc
  cases h2:((n.vrfs[x.vrf.toNat]'hv0).dev != dev) with
  | false =>
   rw[h2,Bool.false_and]at hc
   subst hc
   refine T ?_
   exact D
  | true =>
   rw[h2,Bool.true_and]at hc
   cases p1 with
   | true =>
    rw[Bool.true_or]at hc
    subst hc
    refine T ?_
    refine C q1 F264 ?_
    exact D
   | false =>
    rw[Bool.false_or]at hc
    subst hc
    refine T ?_
    refine C q1 F264 ?_
    refine C q2 F264 ?_
    exact D
theorem irbC (n:Net) (x:Irb) (hv:0≤x.vrf∧x.vrf.toNat<n.vrfs.length) (hb:0≤x.bits∧x.bits≤32) (hx:0≤x.addr∧x.addr<4294967296) (dev:Int) (l:LineM) (ha:0≤l.addr∧l.addr<4294967296) (hb2:0≤l.bits∧l.bits≤32) :
  Sy.Spec Tryz.prog 197 [Br x,.ref 8 (Aj n) 0,.ref 1 (Aa dev) 0,.ref 17 (A2 l) 0] [] (Ab (clashB n dev l.addr l.bits x)) []:=cT F197 Tryz.ntmps197 fun F hF=>by
 have q:=clashS n x hv hb hx dev l.addr l.bits ha hb2
 generalize clashB n dev l.addr l.bits x=r at *
 refine T ?_
 refine C q F198 ?_
 exact D
theorem Aj3 {n:Net} {l:LineM} {k:Int} (h:fitsB n l k=true):l.kind=k∧C5 l=true∧Ac n=true:=by
 unfold fitsB at h
 simp only[Bool.and_eq_true,beq_iff_eq]at h
 exact⟨h.1,h.2.1,h.2.2⟩
theorem Aiu {l:LineM} (h:C5 l=true) (hk:l.kind=9):0≤l.bits∧l.bits≤32:=by
 rw[C5,Bool.and_eq_true]at h
 have:=h.1
 simp[Bn,hk]at this
 have:=Ae6 this.2.2
 omega
theorem At5 (n:Net) (hn:n.Fin) (ha:Cr n) (l:LineM) (hl:LineW l):Sy.Spec Tryz.prog 130 [Aj n,A2 l] [] (.tup [Aj (putIrb n l).1,Aa (putIrb n l).2]) []:=cT F130 Tryz.ntmps130 fun F hF=>by
 have hok:=@beg_ok n l 9
 have hres:=putIrb.eq_1 n l
 have q1:=X3 n hn l hl 9
 have qcopy:=Md n hn
 generalize putIrb n l=res at *
 generalize begT n l 9=b at *
 obtain ⟨d,e⟩:=b
 dsimp only at hres hok q1
 by_cases h1:e≠0
 ·have g1:(e != 0)=true:=by rw[bne_iff_ne];exact h1
  rw[if_pos h1]at hres
  subst hres
  refine T ?_
  refine C q1 F195 ?_
  refine Am 4 (Cn emptyN) E vL ?_
  refine T ?_
  exact D
 have g1:(e != 0)=false:=by rw[bne_eq_false_iff_eq];omega
 rw[if_neg h1]at hres
 obtain ⟨hfit,hr,i,hi,hlt⟩:=hok q_
 subst hi
 clear hok
 have hlt0:((i:Nat):Int).toNat<n.devices.length:=hlt
 have hnth:nth n.devices (i:Int)=n.devices[((i:Nat):Int).toNat]'hlt0:=Ae hlt0
 clear hnth
 obtain ⟨hk9,hrl,_⟩:=Aj3 hfit
 have hbits:=Aiu hrl hk9
 have q2:=Abw n hn hr (i:Int) l.name
 have q3:=Im n hn hr (i:Int) l.vlan
 have hirb:∀ x∈n.irbs,(0≤x.vrf∧x.vrf.toNat<n.vrfs.length)∧(0≤x.bits∧x.bits≤32):=fun x hx=>by
  obtain ⟨j,hj,rfl⟩:=List.getElem_of_mem hx
  have:=Au8 hr hj
  simp only[Ajq,Ai,Bool.and_eq_true,decide_eq_true_eq]at this
  omega
 have qc:=H7 n.irbs (clashB n (i:Int) l.addr l.bits) 197 [] [.ref 8 (Aj n) 0,.ref 1 (Aa (i:Int)) 0,.ref 17 (A2 l) 0] rfl (fun x hx=>⟨⟨_,_,F197⟩,irbC n x (hirb x hx).1 (hirb x hx).2 (ha x hx) (i:Int) l hl.ok.addr hbits⟩) hn.irbs
 rw[J3]at qc
 have hdr:Ej n (i:Int) l.vlan<0∨∃ k:Nat,Ej n (i:Int) l.vlan=k∧k<n.domains.length:=by
  by_cases h:Ej n (i:Int) l.vlan<0
  ·exact .inl h
  ·exact .inr (Ih h)
 generalize Apf n (i:Int) l.name=v2 at *
 generalize Ej n (i:Int) l.vlan=dm at *
 generalize n.irbs.any (clashB n (i:Int) l.addr l.bits)=cl at *
 by_cases h2:v2<0
 ·have g2:decide (v2<0)=true:=decide_eq_true h2
  rw[if_pos h2]at hres
  subst hres
  refine T ?_
  refine C q1 F195 ?_
  refine C q2 F196 ?_
  refine C q3 F49 ?_
  refine Am 4 (Cn emptyN) E vL ?_
  refine T ?_
  exact D
 have g2:decide (v2<0)=false:=decide_eq_false h2
 rw[if_neg h2]at hres
 by_cases h3:dm<0
 ·have g3:decide (dm<0)=true:=decide_eq_true h3
  rw[if_pos h3]at hres
  subst hres
  refine T ?_
  refine C q1 F195 ?_
  refine C q2 F196 ?_
  refine C q3 F49 ?_
  refine Am 4 (Cn emptyN) E vL ?_
  refine T ?_
  exact D
 have g3:decide (dm<0)=false:=decide_eq_false h3
 rw[if_neg h3]at hres
 obtain ⟨k,hk,hkl⟩:=hdr.resolve_left h3
 subst hk
 clear hdr
 have hkl0:((k:Nat):Int).toNat<n.domains.length:=hkl
 have hnd:nth n.domains (k:Int)=n.domains[((k:Nat):Int).toNat]'hkl0:=Ae hkl0
 rw[hnd]at hres
 by_cases h4:0≤(n.domains[((k:Nat):Int).toNat]'hkl0).irb
 ·have g4:decide ((n.domains[((k:Nat):Int).toNat]'hkl0).irb≥0)=true:=decide_eq_true h4
  rw[if_pos (.inl h4)]at hres
  subst hres
  refine T ?_
  refine C q1 F195 ?_
  refine C q2 F196 ?_
  refine C q3 F49 ?_
  refine Am 4 (Cn emptyN) E vL ?_
  refine T ?_
  exact D
 have g4:decide ((n.domains[((k:Nat):Int).toNat]'hkl0).irb≥0)=false:=decide_eq_false h4
 cases cl with
 | true =>
  rw[if_pos (.inr rfl)]at hres
  subst hres
  refine T ?_
  refine C q1 F195 ?_
  refine C q2 F196 ?_
  refine C q3 F49 ?_
  refine Aw 2 8 (Aj n) E E E ?_
  refine Aw 3 17 (A2 l) E E E ?_
  refine Aw 6 1 (Aa (i:Int)) E E E ?_
  refine C qc F146 ?_
  refine Am 4 (Cn emptyN) E vL ?_
  refine T ?_
  exact D
 | false =>
  rw[if_neg (fun h=>h.elim h4 y_)]at hres
  subst hres
  have hne:n.domains≠[]:=fun e=>by rw[e]at hkl;cases hkl
  have hfl:n.irbs.length<2147483648:=hn.irbs
  refine T ?_
  refine C q1 F195 ?_
  refine C q2 F196 ?_
  refine C q3 F49 ?_
  refine Aw 2 8 (Aj n) E E E ?_
  refine Aw 3 17 (A2 l) E E E ?_
  refine Aw 6 1 (Aa (i:Int)) E E E ?_
  refine C qc F146 ?_
  refine X (Ad [(0,901),(1,902),(2,903),(3,904),(4,905),(5,906),(6,907),(7,908)] E F59 qcopy E W E V) ?_
  refine⟨hne,?_⟩
  refine T ?_
  refine⟨(⟨(n.domains[((k:Nat):Int).toNat]'hkl0).dev,(n.domains[((k:Nat):Int).toNat]'hkl0).vlan,(n.domains[((k:Nat):Int).toNat]'hkl0).vni,(n.irbs.length:Int),(n.domains[((k:Nat):Int).toNat]'hkl0).row,(n.domains[((k:Nat):Int).toNat]'hkl0).peers⟩:Domain),E,E,?_⟩
  refine T ?_
  refine X (Ag Γ.toTy 77 E E E E E (.row E) (.lit (e:=Br) (l:=[(⟨l.row,(k:Int),v2,l.addr,l.bits⟩:Irb)]) E E) j_ (by simp only[List.length_singleton];omega) (by simp only[List.length_singleton];omega)) ?_
  refine Ah 901 E ?_
  refine Ah 902 E ?_
  refine Ah 903 E ?_
  refine Ah 904 E ?_
  refine Ah 905 E ?_
  refine Ah 906 E ?_
  refine Ah 907 E ?_
  refine Ah 77 E ?_
  exact D
theorem Ui (l:List Static) (p:Static→Bool) (f:FuncId) (first cap:List SV) (hc:(SV.clo (.func f) first cap).inn []=true) (hf:∀ x∈l,Ek Tryz.prog f (first++[As x]++cap) (Ab (p x))) (hl:Ak l) :
  Sy.Spec Tryz.prog 259 [.sl 4 As l,.clo (.func f) first cap] [] (Aa (B9 p l)) []:=cT F259 Tryz.ntmps259 fun F hF=>by
 unfold Ak at hl
 have hin:∀ x:Static,By [] (first++[As x]++cap)=true:=fun x=>Cj hc rfl
 refine fW ?_
 refine Be l.length (fun j=>Hk (fun _ x=>!(p x)) l j) (fun j=>[(0,.sl 4 As l),(1,.clo (.func f) first cap),(7,Aa l.length),(8,Aa j)]) (fun _=>[]) [] (Bk _ _) ⟨⟨E,E,A5 _,hc,E,E,E,E,Y⟩,Y,E,E⟩ ?_
 intro j hj hI
 refine fU ?_
 refine⟨fun h=>?_,fun h=>?_⟩
 ·have h:=of_decide_eq_true h
  have hj2:j<l.length:=by omega
  refine fU ?_
  refine⟨E,by omega,by omega,?_⟩
  refine fW ?_
  refine Dq (hf l[j] (List.getElem_mem hj2)) E E E (by simp only[hin];rfl) E E ?_
  refine fU ?_
  refine⟨fun h2=>?_,fun h2=>?_⟩
  ·refine fU ?_
   refine Ap E (.cons .tmp .nil) (congrArg Aa ?_) E
   exact Cm hj2 (fun i hi hij=>by simpa using hI i hi hij) h2
  ·refine fU ?_
   refine iL ?_
   refine fW ?_
   exact Bb [] hI hj2 (Bf hI hj2 (by simp[h2])) ⟨⟨E,E,A5 _,hc,E,E,E,E,Y⟩,Y,E,E⟩
 ·have h:=of_decide_eq_false h
  refine fU ?_
  refine Ap E (.cons .tmp .nil) (congrArg Aa ?_) E
  exact Cy (fun i hi=>by simpa using hI i hi q_)
theorem Aqx (dom m:Int) (s:Static):Sy.Spec Tryz.prog 260 [As s,.ref 1 (Aa dom) 0,.ref 1 (A9 m) 0] [] (Ab (s.domain == dom && s.mac == m)) []:=cT F260 Tryz.ntmps260 fun F hF=>by
 cases h:(s.domain == dom)
 ·refine T ?_
  exact D
 ·refine T ?_
  exact D
theorem Aqw (n:Net) (hn:n.Fin) (dom m:Int):Sy.Spec Tryz.prog 192 [Aj n,Aa dom,A9 m] [] (Aa (Ad7 n dom m)) []:=cT F192 Tryz.ntmps192 fun F hF=>by
 have q:=Ui n.statics (fun s:Static=>s.domain == dom && s.mac == m) 260 [] [.ref 1 (Aa dom) 0,.ref 1 (A9 m) 0] rfl (fun x _=>⟨⟨_,_,F260⟩,Aqx dom m x⟩) hn.statics
 refine fW ?_
 refine Aw 4 1 (Aa dom) E E E ?_
 refine Aw 5 1 (A9 m) E E E ?_
 refine c0 q F259 ?_
 refine fU ?_
 exact dN
theorem Aik (n:Net) (hn:n.Fin) (l:LineM) (hl:LineW l):Sy.Spec Tryz.prog 125 [Aj n,A2 l] [] (.tup [Aj (putStatic n l).1,Aa (putStatic n l).2]) []:=cT F125 Tryz.ntmps125 fun F hF=>by
 have qr:=Ib l hl
 have qn:=At n hn
 have qcopy:=Md n hn
 have hres:=putStatic.eq_1 n l
 dsimp only at hres
 have hf:=fitsB.eq_1 n l 4
 generalize putStatic n l=res at *
 generalize fitsB n l 4=f at *
 cases h1:(l.kind == 4) with
 | false =>
  have g1:(l.kind != 4)=true:=by rw[bne,h1];rfl
  rw[h1,Bool.false_and]at hf
  rw[hf,if_pos rfl]at hres
  subst hres
  refine T ?_
  refine Am 4 (Cn emptyN) E vL ?_
  refine T ?_
  exact D
 | true =>
 have g1:(l.kind != 4)=false:=by rw[bne,h1];rfl
 rw[h1,Bool.true_and]at hf
 cases h2:C5 l with
 | false =>
  rw[h2]at qr hf
  rw[hf,Bool.false_and,if_pos rfl]at hres
  subst hres
  refine T ?_
  refine C qr F190 ?_
  refine Am 4 (Cn emptyN) E vL ?_
  refine T ?_
  exact D
 | true =>
 rw[h2]at qr hf
 cases hr:Ac n with
 | false =>
  rw[hr]at qn hf
  rw[hf,Bool.and_false,if_pos rfl]at hres
  subst hres
  refine T ?_
  refine C qr F190 ?_
  refine C qn F12 ?_
  refine Am 4 (Cn emptyN) E vL ?_
  refine T ?_
  exact D
 | true =>
 rw[hr]at qn hf
 rw[hf,if_neg y_]at hres
 have q1:=Hy n hn hr l.dev
 have q2:=Sr n hn hr (H6 n l.dev) l.port
 have q3:=Im n hn hr (H6 n l.dev) l.vlan
 have q5:=Aqw n hn (Ej n (H6 n l.dev) l.vlan) l.mac
 have hpr:Aau n (H6 n l.dev) l.port<0∨∃ k:Nat,Aau n (H6 n l.dev) l.port=k∧k<n.ports.length:=by
  by_cases h:Aau n (H6 n l.dev) l.port<0
  ·exact .inl h
  ·exact .inr (Ih h)
 have hfl:n.statics.length<2147483648:=hn.statics
 generalize Aau n (H6 n l.dev) l.port=pt at *
 generalize Ej n (H6 n l.dev) l.vlan=dm at *
 generalize H6 n l.dev=dv at *
 generalize Ad7 n dm l.mac=en at *
 by_cases h3:dv<0
 ·have g3:decide (dv<0)=true:=decide_eq_true h3
  rw[if_pos (.inl h3)]at hres
  subst hres
  refine T ?_
  refine C qr F190 ?_
  refine C qn F12 ?_
  refine C q1 F187 ?_
  refine C q2 F188 ?_
  refine C q3 F49 ?_
  refine Am 4 (Cn emptyN) E vL ?_
  refine T ?_
  exact D
 have g3:decide (dv<0)=false:=decide_eq_false h3
 by_cases h4:pt<0
 ·have g4:decide (pt<0)=true:=decide_eq_true h4
  rw[if_pos (.inr h4)]at hres
  subst hres
  refine T ?_
  refine C qr F190 ?_
  refine C qn F12 ?_
  refine C q1 F187 ?_
  refine C q2 F188 ?_
  refine C q3 F49 ?_
  refine Am 4 (Cn emptyN) E vL ?_
  refine T ?_
  exact D
 have g4:decide (pt<0)=false:=decide_eq_false h4
 rw[if_neg (fun h=>h.elim h3 h4)]at hres
 obtain ⟨p,hp,hpl⟩:=hpr.resolve_left h4
 subst hp
 clear hpr
 have hp0:((p:Nat):Int).toNat<n.ports.length:=hpl
 have hnp:nth n.ports (p:Int)=n.ports[((p:Nat):Int).toNat]'hp0:=Ae hp0
 rw[hnp]at hres
 by_cases h5:dm<0
 ·have g5:decide (dm<0)=true:=decide_eq_true h5
  rw[if_pos (.inl h5)]at hres
  subst hres
  refine T ?_
  refine C qr F190 ?_
  refine C qn F12 ?_
  refine C q1 F187 ?_
  refine C q2 F188 ?_
  refine C q3 F49 ?_
  refine Am 4 (Cn emptyN) E vL ?_
  refine T ?_
  exact D
 have g5:decide (dm<0)=false:=decide_eq_false h5
 have q4:=T8 (n.ports[((p:Nat):Int).toNat]'hp0) l.vlan (hn.tagged _ (List.getElem_mem hp0))
 cases hb:Ci (n.ports[((p:Nat):Int).toNat]'hp0) l.vlan with
 | false =>
  rw[hb]at q4
  rw[if_pos (.inr hb)]at hres
  subst hres
  refine T ?_
  refine C qr F190 ?_
  refine C qn F12 ?_
  refine C q1 F187 ?_
  refine C q2 F188 ?_
  refine C q3 F49 ?_
  refine C q4 F53 ?_
  refine Am 4 (Cn emptyN) E vL ?_
  refine T ?_
  exact D
 | true =>
 rw[hb]at q4
 rw[if_neg (fun h=>h.elim h5 (by rw[hb];simp))]at hres
 by_cases h6:0≤en
 ·have g6:decide (en≥0)=true:=decide_eq_true h6
  rw[if_pos h6]at hres
  subst hres
  refine T ?_
  refine C qr F190 ?_
  refine C qn F12 ?_
  refine C q1 F187 ?_
  refine C q2 F188 ?_
  refine C q3 F49 ?_
  refine C q4 F53 ?_
  refine C q5 F192 ?_
  refine Am 4 (Cn emptyN) E vL ?_
  refine T ?_
  exact D
 have g6:decide (en≥0)=false:=decide_eq_false h6
 rw[if_neg h6]at hres
 by_cases h7:n.statics.length=64
 ·have g7:((n.statics.length:Int) == 64)=true:=by rw[beq_iff_eq];omega
  rw[if_pos h7]at hres
  subst hres
  refine T ?_
  refine C qr F190 ?_
  refine C qn F12 ?_
  refine C q1 F187 ?_
  refine C q2 F188 ?_
  refine C q3 F49 ?_
  refine C q4 F53 ?_
  refine C q5 F192 ?_
  refine Am 4 (Cn emptyN) E vL ?_
  refine T ?_
  exact D
 have g7:((n.statics.length:Int) == 64)=false:=by rw[beq_eq_false_iff_ne];omega
 rw[if_neg h7]at hres
 subst hres
 refine T ?_
 refine C qr F190 ?_
 refine C qn F12 ?_
 refine C q1 F187 ?_
 refine C q2 F188 ?_
 refine C q3 F49 ?_
 refine C q4 F53 ?_
 refine C q5 F192 ?_
 refine X (Ad [(0,901),(1,902),(2,903),(3,904),(4,905),(5,906),(6,907),(7,908)] E F59 qcopy E W E V) ?_
 refine X (Ag Γ.toTy 87 E E E E E (.row E) (.lit (e:=As) (l:=[(⟨l.row,dm,(p:Int),l.mac⟩:Static)]) E E) j_ (by simp only[List.length_singleton];omega) (by simp only[List.length_singleton];omega)) ?_
 refine Ah 901 E ?_
 refine Ah 902 E ?_
 refine Ah 903 E ?_
 refine Ah 904 E ?_
 refine Ah 87 E ?_
 refine Ah 906 E ?_
 refine Ah 907 E ?_
 refine Ah 908 E ?_
 exact D
theorem Agm (n:Net) (hn:n.Fin) (hr:Ac n=true) (dev port:ByteArray):Sy.Spec Tryz.prog 191 [Aj n,C7 dev,C7 port] [] (Aa (endI n dev port)) []:=cT F191 Tryz.ntmps191 fun F hF=>by
 have q1:=Hy n hn hr dev
 have q2:=Sr n hn hr (H6 n dev) port
 have hres:=endI.eq_1 n dev port
 generalize endI n dev port=res at *
 generalize Aau n (H6 n dev) port=pt at *
 generalize H6 n dev=d at *
 by_cases h:d<0
 ·have g:decide (d<0)=true:=decide_eq_true h
  rw[if_pos h]at hres
  subst hres
  refine T ?_
  refine C q1 F187 ?_
  exact D
 ·have g:decide (d<0)=false:=decide_eq_false h
  rw[if_neg h]at hres
  subst hres
  refine T ?_
  refine C q1 F187 ?_
  refine C q2 F188 ?_
  exact D
theorem end_range {n:Net} {dev port:ByteArray} (h:¬ endI n dev port<0):∃ k:Nat,endI n dev port=k∧k<n.ports.length:=by
 unfold endI at h ⊢
 split
 ·rename_i h1;rw[if_pos h1]at h;omega
 ·rename_i h1;rw[if_neg h1]at h;exact Ih h
theorem Ard (n:Net) (hn:n.Fin) (l:LineM) (hl:LineW l):Sy.Spec Tryz.prog 124 [Aj n,A2 l] [] (.tup [Aj (putLink n l).1,Aa (putLink n l).2]) []:=cT F124 Tryz.ntmps124 fun F hF=>by
 have qr:=Ib l hl
 have qn:=At n hn
 have qcopy:=Md n hn
 have hres:=putLink.eq_1 n l
 dsimp only at hres
 have hf:=fitsB.eq_1 n l 3
 generalize putLink n l=res at *
 generalize fitsB n l 3=f at *
 cases h1:(l.kind == 3) with
 | false =>
  have g1:(l.kind != 3)=true:=by rw[bne,h1];rfl
  rw[h1,Bool.false_and]at hf
  rw[hf,if_pos rfl]at hres
  subst hres
  refine T ?_
  refine Am 4 (Cn emptyN) E vL ?_
  refine T ?_
  exact D
 | true =>
 have g1:(l.kind != 3)=false:=by rw[bne,h1];rfl
 rw[h1,Bool.true_and]at hf
 cases h2:C5 l with
 | false =>
  rw[h2]at qr hf
  rw[hf,Bool.false_and,if_pos rfl]at hres
  subst hres
  refine T ?_
  refine C qr F190 ?_
  refine Am 4 (Cn emptyN) E vL ?_
  refine T ?_
  exact D
 | true =>
 rw[h2]at qr hf
 cases hr:Ac n with
 | false =>
  rw[hr]at qn hf
  rw[hf,Bool.and_false,if_pos rfl]at hres
  subst hres
  refine T ?_
  refine C qr F190 ?_
  refine C qn F12 ?_
  refine Am 4 (Cn emptyN) E vL ?_
  refine T ?_
  exact D
 | true =>
 rw[hr]at qn hf
 rw[hf,if_neg y_]at hres
 have q1:=Agm n hn hr l.dev l.port
 have q2:=Agm n hn hr l.peer l.far
 have ra:=@end_range n l.dev l.port
 have rb:=@end_range n l.peer l.far
 have hfl:n.links.length<2147483648:=hn.links
 generalize endI n l.dev l.port=a at *
 generalize endI n l.peer l.far=b at *
 refine T ?_
 refine C qr F190 ?_
 refine C qn F12 ?_
 refine C q1 F191 ?_
 refine C q2 F191 ?_
 refine Xd (Wz Γ.toTy E E E E E E) ?_
 refine T ?_
 refine Aw 2 8 (Aj n) E E E ?_
 refine Aw 3 17 (A2 l) E E E ?_
 refine Aw 6 2 (.agg [Aa a,Aa b]) E E E ?_
 refine C1 (fun j:Nat=>j≤2∧(1≤j→¬ a<0)∧(2≤j→¬ b<0)) (fun j=>[(2,.ref 8 (Aj n) 0),(3,.ref 17 (A2 l) 0),(4,.ptr 1001 0),(6,.ref 2 (.agg [Aa a,Aa b]) 0),(41,.agg [Aa a,Aa b]),(42,Aa j)]) (fun _=>[(1001,.box [.val (.slice none 0 0),.val (.slice none 0 0),.val (.slice none 0 0),.val (.slice none 0 0),.val (.slice none 0 0),.val (.slice none 0 0),.val (.slice none 0 0),.val (.slice none 0 0)])]) (fun j=>2-j) 0 [(1001,4)] ⟨by omega,by omega,by omega⟩ U ?_
 rintro j ⟨hj,ja,jb⟩
 have hc:j=0∨j=1∨j=2:=by omega
 rcases hc with rfl | rfl | rfl
 ·by_cases ka:a<0
  ·have g1:decide (a<0)=true:=decide_eq_true ka
   rw[if_pos (.inl ka)]at hres
   subst hres
   refine T ?_
   refine X (Ca (k:=.int .i64) Γ.toTy E E E Tryz.underlying3 E E j_ j_ E) ?_
   refine Am 1001 (Cn emptyN) E vL ?_
   refine T ?_
   exact D
  ·have g1:decide (a<0)=false:=decide_eq_false ka
   refine T ?_
   refine X (Ca (k:=.int .i64) Γ.toTy E E E Tryz.underlying3 E E j_ j_ E) ?_
   exact Bg 1 [] ⟨by omega,fun _=>ka,by omega⟩ q_ U
 ·have ka:=ja q_
  by_cases kb:b<0
  ·have g1:decide (b<0)=true:=decide_eq_true kb
   rw[if_pos (.inr kb)]at hres
   subst hres
   refine T ?_
   refine X (Ca (k:=.int .i64) Γ.toTy E E E Tryz.underlying3 E E j_ j_ E) ?_
   refine Am 1001 (Cn emptyN) E vL ?_
   refine T ?_
   exact D
  ·have g1:decide (b<0)=false:=decide_eq_false kb
   refine T ?_
   refine X (Ca (k:=.int .i64) Γ.toTy E E E Tryz.underlying3 E E j_ j_ E) ?_
   exact Bg 2 [] ⟨by omega,fun _=>ka,fun _=>kb⟩ q_ U
 ·have ka:=ja q_
  have kb:=jb q_
  obtain ⟨a,rfl,hal⟩:=ra ka
  obtain ⟨b,rfl,hbl⟩:=rb kb
  rw[if_neg (fun h=>h.elim ka kb)]at hres
  clear ja jb ra rb hj
  have ha0:((a:Nat):Int).toNat<n.ports.length:=hal
  have hb0:((b:Nat):Int).toNat<n.ports.length:=hbl
  have hna:nth n.ports (a:Int)=n.ports[((a:Nat):Int).toNat]'ha0:=Ae ha0
  have hnb:nth n.ports (b:Int)=n.ports[((b:Nat):Int).toNat]'hb0:=Ae hb0
  rw[hna,hnb]at hres
  by_cases k1:(n.ports[((a:Nat):Int).toNat]'ha0).dev=(n.ports[((b:Nat):Int).toNat]'hb0).dev
  ·have g1:((n.ports[((a:Nat):Int).toNat]'ha0).dev == (n.ports[((b:Nat):Int).toNat]'hb0).dev)=true:=by rw[beq_iff_eq];exact k1
   rw[if_pos (.inl k1)]at hres
   subst hres
   refine T ?_
   refine Am 1001 (Cn emptyN) E vL ?_
   refine T ?_
   exact D
  have g1:((n.ports[((a:Nat):Int).toNat]'ha0).dev == (n.ports[((b:Nat):Int).toNat]'hb0).dev)=false:=by rw[beq_eq_false_iff_ne];exact k1
  by_cases k2:0≤(n.ports[((a:Nat):Int).toNat]'ha0).link
  ·have g2:decide ((n.ports[((a:Nat):Int).toNat]'ha0).link≥0)=true:=decide_eq_true k2
   rw[if_pos (.inr (.inl k2))]at hres
   subst hres
   refine T ?_
   refine Am 1001 (Cn emptyN) E vL ?_
   refine T ?_
   exact D
  have g2:decide ((n.ports[((a:Nat):Int).toNat]'ha0).link≥0)=false:=decide_eq_false k2
  by_cases k3:0≤(n.ports[((b:Nat):Int).toNat]'hb0).link
  ·have g3:decide ((n.ports[((b:Nat):Int).toNat]'hb0).link≥0)=true:=decide_eq_true k3
   rw[if_pos (.inr (.inr k3))]at hres
   subst hres
   refine T ?_
   refine Am 1001 (Cn emptyN) E vL ?_
   refine T ?_
   exact D
  have g3:decide ((n.ports[((b:Nat):Int).toNat]'hb0).link≥0)=false:=decide_eq_false k3
  rw[if_neg (by rintro (h | h | h);exact k1 h;exact k2 h;exact k3 h)]at hres
  by_cases k4:n.links.length=20
  ·have g4:((n.links.length:Int) == 20)=true:=by rw[beq_iff_eq];omega
   rw[if_pos k4]at hres
   subst hres
   refine T ?_
   refine Am 1001 (Cn emptyN) E vL ?_
   refine T ?_
   exact D
  have g4:((n.links.length:Int) == 20)=false:=by rw[beq_eq_false_iff_ne];omega
  rw[if_neg k4]at hres
  have t1:Vj n.ports (a:Int) (n.links.length:Int)=n.ports.set ((a:Nat):Int).toNat (⟨(n.ports[((a:Nat):Int).toNat]'ha0).row,(n.ports[((a:Nat):Int).toNat]'ha0).dev,(n.ports[((a:Nat):Int).toNat]'ha0).native,(n.ports[((a:Nat):Int).toNat]'ha0).cost,(n.links.length:Int),(n.ports[((a:Nat):Int).toNat]'ha0).name,(n.ports[((a:Nat):Int).toNat]'ha0).tagged⟩:Port):=by rw[Vj,hna]
  have l1:(Vj n.ports (a:Int) (n.links.length:Int)).length=n.ports.length:=by rw[Vj,List.length_set]
  have hne:n.ports≠[]:=fun e=>by rw[e]at hal;cases hal
  obtain ⟨P1,hP1⟩:∃ P1,Vj n.ports (a:Int) (n.links.length:Int)=P1:=⟨_,rfl⟩
  rw[hP1]at hres t1 l1
  have hb1:((b:Nat):Int).toNat<P1.length:=by rw[l1];exact hb0
  have hn1:nth P1 (b:Int)=P1[((b:Nat):Int).toNat]'hb1:=Ae hb1
  have hne1:P1≠[]:=fun e=>by rw[e]at hb1;cases hb1
  have t2:Vj P1 (b:Int) (n.links.length:Int)=P1.set ((b:Nat):Int).toNat (⟨(P1[((b:Nat):Int).toNat]'hb1).row,(P1[((b:Nat):Int).toNat]'hb1).dev,(P1[((b:Nat):Int).toNat]'hb1).native,(P1[((b:Nat):Int).toNat]'hb1).cost,(n.links.length:Int),(P1[((b:Nat):Int).toNat]'hb1).name,(P1[((b:Nat):Int).toNat]'hb1).tagged⟩:Port):=by rw[Vj,hn1]
  obtain ⟨P2,hP2⟩:∃ P2,Vj P1 (b:Int) (n.links.length:Int)=P2:=⟨_,rfl⟩
  rw[hP2]at hres t2
  subst hres
  refine T ?_
  refine X (Ad [(0,901),(1,902),(2,903),(3,904),(4,905),(5,906),(6,907),(7,908)] E F59 qcopy E W E V) ?_
  refine C1 (fun j:Nat=>j≤2) (fun j=>[(3,.ref 17 (A2 l) 0),(4,.ptr 1001 0),(6,.ref 2 (.agg [Aa (a:Int),Aa (b:Int)]) 0),(11,.ptr 1002 0),(86,.agg [Aa (a:Int),Aa (b:Int)]),(87,Aa j)]) (fun j=>[(1001,.box [.val (.slice none 0 0),.val (.slice none 0 0),.val (.slice none 0 0),.val (.slice none 0 0),.val (.slice none 0 0),.val (.slice none 0 0),.val (.slice none 0 0),.val (.slice none 0 0)]),(1002,.box [.osl 901,.osl 902,.osl 903,.osl 904,.osl 905,.osl 906,.osl 907,.osl 908]),(901,.row 5 Aq n.devices),(902,.row 7 Au (if j=0 then n.ports else if j=1 then P1 else P2)),(903,.row 3 Bl n.links),(904,.row 6 An n.domains),(905,.row 4 As n.statics),(906,.row 4 A0 n.floods),(907,.row 5 Bv n.vrfs),(908,.row 5 Br n.irbs)]) (fun j=>2-j) 0 [(1002,11)] q_ U ?_
  intro j hj
  have hc:j=0∨j=1∨j=2:=by omega
  rcases hc with rfl | rfl | rfl
  ·rw[if_pos rfl]
   refine T ?_
   refine X (Ca (k:=.int .i64) Γ.toTy E E E Tryz.underlying3 E E j_ j_ E) ?_
   refine T ?_
   refine⟨hne,?_⟩
   refine T ?_
   refine⟨(⟨(n.ports[((a:Nat):Int).toNat]'ha0).row,(n.ports[((a:Nat):Int).toNat]'ha0).dev,(n.ports[((a:Nat):Int).toNat]'ha0).native,(n.ports[((a:Nat):Int).toNat]'ha0).cost,(n.links.length:Int),(n.ports[((a:Nat):Int).toNat]'ha0).name,(n.ports[((a:Nat):Int).toNat]'ha0).tagged⟩:Port),E,E,?_⟩
   refine T ?_
   exact Bg 1 [] q_ q_ ⟨⟨E,E,E,E,E,E,E,E,E,E,E,E,Y⟩,⟨.inl E,E,.inl E,E,.inl E,E,.inl (congrArg (Ob.row 7 Au) t1),E,.inl E,E,.inl E,E,.inl E,E,.inl E,E,.inl E,E,.inl E,E,Y⟩,E,E⟩
  ·rw[if_neg j_,if_pos rfl]
   refine T ?_
   refine X (Ca (k:=.int .i64) Γ.toTy E E E Tryz.underlying3 E E j_ j_ E) ?_
   refine T ?_
   refine⟨hne1,?_⟩
   refine T ?_
   refine⟨(⟨(P1[((b:Nat):Int).toNat]'hb1).row,(P1[((b:Nat):Int).toNat]'hb1).dev,(P1[((b:Nat):Int).toNat]'hb1).native,(P1[((b:Nat):Int).toNat]'hb1).cost,(n.links.length:Int),(P1[((b:Nat):Int).toNat]'hb1).name,(P1[((b:Nat):Int).toNat]'hb1).tagged⟩:Port),E,E,?_⟩
   refine T ?_
   exact Bg 2 [] q_ q_ ⟨⟨E,E,E,E,E,E,E,E,E,E,E,E,Y⟩,⟨.inl E,E,.inl E,E,.inl E,E,.inl (congrArg (Ob.row 7 Au) t2),E,.inl E,E,.inl E,E,.inl E,E,.inl E,E,.inl E,E,.inl E,E,Y⟩,E,E⟩
  ·rw[if_neg j_,if_neg j_]
   refine T ?_
   refine X (Ag Γ.toTy 109 E E E E E (.row E) (.lit (e:=Bl) (l:=[(⟨l.row,(a:Int),(b:Int)⟩:Link)]) E E) j_ (by simp only[List.length_singleton];omega) (by simp only[List.length_singleton];omega)) ?_
   refine T ?_
   refine Ah 901 E ?_
   refine Ah 902 E ?_
   refine Ah 109 E ?_
   refine Ah 904 E ?_
   refine Ah 905 E ?_
   refine Ah 906 E ?_
   refine Ah 907 E ?_
   refine Ah 908 E ?_
   exact D
abbrev Akh (n:Net):Obs:=[(900,.box [.osl 901,.osl 902,.osl 903,.osl 904,.osl 905,.osl 906,.osl 907,.osl 908]),(901,.row 5 Aq n.devices),(902,.row 7 Au n.ports),(903,.row 3 Bl n.links),(904,.row 6 An n.domains),(905,.row 4 As n.statics),(906,.row 4 A0 n.floods),(907,.row 5 Bv n.vrfs),(908,.row 5 Br n.irbs)]
theorem Wn (n:Net) (hn:n.Fin) (l:LineM) (hl:LineW l) (k:Int) (h:fitsB n l k=true):Sy.Spec Tryz.prog 184 [Aj n,A2 l,Aa k] [] (.tup [.ptr 900 0,Ab true]) (Akh n):=cT F184 Tryz.ntmps184 fun F hF=>by
 have qr:=Ib l hl
 have qn:=At n hn
 have qcopy:=Md n hn
 unfold fitsB at h
 simp only[Bool.and_eq_true]at h
 obtain ⟨h1,h2,h3⟩:=h
 have g1:(l.kind != k)=false:=by rw[bne,h1];rfl
 rw[h2]at qr
 rw[h3]at qn
 refine T ?_
 refine C qr F190 ?_
 refine C qn F12 ?_
 refine X (Ad [(0,901),(1,902),(2,903),(3,904),(4,905),(5,906),(6,907),(7,908)] E F59 qcopy E W E V) ?_
 exact done E (.cons .tmp (.cons .tmp .nil)) [(900,25)] (Akh n) (fun _ h=>h) E E U
theorem Q2 (n:Net) (hn:n.Fin) (l:LineM) (hl:LineW l) (k:Int) (h:fitsB n l k=false):Sy.Spec Tryz.prog 184 [Aj n,A2 l,Aa k] [] (.tup [.val (.pointer none),Ab false]) []:=cT F184 Tryz.ntmps184 fun F hF=>by
 have qr:=Ib l hl
 have qn:=At n hn
 unfold fitsB at h
 cases h1:(l.kind == k) with
 | false =>
  have g1:(l.kind != k)=true:=by rw[bne,h1];rfl
  refine T ?_
  exact D
 | true =>
 have g1:(l.kind != k)=false:=by rw[bne,h1];rfl
 rw[h1,Bool.true_and]at h
 cases h2:C5 l with
 | false =>
  rw[h2]at qr
  refine T ?_
  refine C qr F190 ?_
  exact D
 | true =>
 rw[h2]at qr h
 rw[Bool.true_and]at h
 rw[h]at qn
 refine T ?_
 refine C qr F190 ?_
 refine C qn F12 ?_
 exact D
theorem Aqn (l:LineM) (d:Device):Sy.Spec Tryz.prog 186 [Aq d,.ref 17 (A2 l) 0] [] (Ab (d.name == l.dev || d.mac == l.mac)) []:=cT F186 Tryz.ntmps186 fun F hF=>by
 cases h:(d.name == l.dev)
 ·refine T ?_
  exact D
 ·refine T ?_
  exact D
theorem Aki (n:Net) (hn:n.Fin) (l:LineM) (hl:LineW l):Sy.Spec Tryz.prog 122 [Aj n,A2 l] [] (.tup [Aj (putDevice n l).1,Aa (putDevice n l).2]) []:=cT F122 Tryz.ntmps122 fun F hF=>by
 have hres:=putDevice.eq_1 n l
 generalize putDevice n l=res at *
 cases hf:fitsB n l 1 with
 | false =>
  have q1:=Q2 n hn l hl 1 hf
  rw[hf,if_pos rfl]at hres
  subst hres
  refine T ?_
  refine C q1 F184 ?_
  refine Am 4 (Cn emptyN) E vL ?_
  refine T ?_
  exact D
 | true =>
 have q1:=Wn n hn l hl 1 hf
 rw[hf,if_neg y_]at hres
 have qc:=O0 n.devices (fun d=>d.name == l.dev || d.mac == l.mac) 186 [] [.ref 17 (A2 l) 0] rfl (fun d _=>⟨⟨_,_,F186⟩,Aqn l d⟩) hn.devices
 rw[J3]at qc
 have hfl:n.devices.length<2147483648:=hn.devices
 generalize n.devices.any (fun d=>d.name == l.dev || d.mac == l.mac)=cl at *
 cases cl with
 | true =>
  rw[if_pos rfl]at hres
  subst hres
  refine T ?_
  refine X (Ad [] E F184 q1 E W E V) ?_
  refine Aw 3 17 (A2 l) E E E ?_
  refine X (Eu [901] E F185 qc (.cons (.row E E) (.cons (.refl _) .nil)) E E) ?_
  refine Am 4 (Cn emptyN) E vL ?_
  refine T ?_
  exact D
 | false =>
 rw[if_neg y_]at hres
 by_cases h5:n.devices.length=8
 ·have g5:((n.devices.length:Int) == 8)=true:=by rw[beq_iff_eq];omega
  rw[if_pos h5]at hres
  subst hres
  refine T ?_
  refine X (Ad [] E F184 q1 E W E V) ?_
  refine Aw 3 17 (A2 l) E E E ?_
  refine X (Eu [901] E F185 qc (.cons (.row E E) (.cons (.refl _) .nil)) E E) ?_
  refine Am 4 (Cn emptyN) E vL ?_
  refine T ?_
  exact D
 have g5:((n.devices.length:Int) == 8)=false:=by rw[beq_eq_false_iff_ne];omega
 rw[if_neg h5]at hres
 subst hres
 refine T ?_
 refine X (Ad [] E F184 q1 E W E V) ?_
 refine Aw 3 17 (A2 l) E E E ?_
 refine X (Eu [901] E F185 qc (.cons (.row E E) (.cons (.refl _) .nil)) E E) ?_
 refine T ?_
 refine Xd (Ag Γ.toTy 52 E E E E E (.row E) (.lit (e:=Aq) (l:=[(⟨l.row,l.num,l.dev,l.mac,0⟩:Device)]) E E) j_ (by simp only[List.length_singleton];omega) (by simp only[List.length_singleton];omega)) ?_
 refine T ?_
 refine Ah 52 E ?_
 refine Ah 902 E ?_
 refine Ah 903 E ?_
 refine Ah 904 E ?_
 refine Ah 905 E ?_
 refine Ah 906 E ?_
 refine Ah 907 E ?_
 refine Ah 908 E ?_
 exact D
end Go.Sy.YtcflgpijohhfbaaGreat
namespace Go.Sy
theorem Abb {P:Program} (Γ:Ty P) {o:Oper} {s:SS} (d q:Nat) {α:Type} {e:α→SV} {l:List α} (z:α) {sv:SV} {t:TypeId} {ti:TI} {et:TypeId} {sz eb:Nat} {ez:List Value} {x y:Operand} {k:Option Nat}
  (h:o.op=.call ⟨.builtin .append,#[x,y],#[t,t]⟩) (hd:s.h d=.fresh) (ht:Γ.get t=some ti) (hk:ti.k=.slice et sz eb ez) (hez:ez.length=sz)
  (hb:BaseT s sz e (ev s x) k l) (hy:ev s y=.osl q) (hq:s.h q=.lit sz [sv]) (hv:∀ (M:Nat→Prop) (w:World) (v:Value),RdD M w sv v→RdD M w (e z) v) (hkk:∀ j,k=some j→j≠d) (hbytes:(l.length+1) * eb≤140737488355328) (h63:l.length+1≤9223372036854775807) :
  Good P o s ⟨.osl d,[q],Mi k d (.row sz e (l++[z]))⟩:=by
 obtain ⟨f,hb,hf⟩:=hb.base
 have hs:AppSrc s sz (ev s y) [q] 1 (Aa0 [sv]):=by
  rw[hy]
  exact AppSrc.lit (sz:=sz) hq
 refine W1 Γ h hd ht hk hez hb hs hkk hbytes h63 fun κ w hr=>?_
 rcases hr with ⟨_,h2⟩ | ⟨b,cap,cs,T,fr,e1,e2,e3,e4,e5,e6⟩
 ·omega
 ·refine .inr ⟨b,cap,cs,T,fr,by simpa using e1,e2,e3,e4,by simpa using e5,fun i x hx=>?_⟩
  obtain ⟨hi,rfl⟩:=hx
  have hi2:i<l.length+1:=by simpa using hi
  by_cases hl:i<l.length
  ·have hx:rowF e l i ((l++[z])[i] |> e):=⟨hl,by rw[List.getElem_append_left hl]⟩
   obtain ⟨a1,a2⟩:=e6 i _ (.inl ⟨hl,hf i _ hx⟩)
   exact⟨by simpa using a1,a2⟩
  ·have hie:i=l.length:=by omega
   subst hie
   obtain ⟨a1,u,hu,hrest⟩:=e6 l.length sv (.inr ⟨Nat.le_refl _,by rw[Nat.sub_self];rfl⟩)
   refine⟨by simp,u,?_,hrest⟩
   have:=hv _ _ u hu
   simpa using this
end Go.Sy
namespace Go.Sy.YtcflgpijohhfbaaGreat
open Go.Proofs
attribute [local irreducible] Go.Sy.G Go.Sy.DR
set_option maxRecDepth 100000
set_option maxHeartbeats 4000000
theorem Uw (dev v:Int) (d:Domain):Sy.Spec Tryz.prog 255 [An d,.ref 1 (Aa dev) 0,.ref 1 (Aa v) 0] [] (Ab (d.dev == dev && d.vlan == v)) []:=cT F255 Tryz.ntmps255 fun F hF=>by
 cases h:(d.dev == dev)
 ·refine T ?_
  exact D
 ·refine T ?_
  exact D
abbrev Au9 (n:Net) (ds:List Domain):Obs:=[(900,.box [.osl 901,.osl 902,.osl 903,.osl 1904,.osl 905,.osl 906,.osl 907,.osl 908]),(901,.row 5 Aq n.devices),(902,.row 7 Au n.ports),(903,.row 3 Bl n.links),(904,.non),(1904,.row 6 An ds),(905,.row 4 As n.statics),(906,.row 4 A0 n.floods),(907,.row 5 Bv n.vrfs),(908,.row 5 Br n.irbs)]
theorem J9 (n:Net) (hl:n.domains.length<2147483648) (dev v:Int) (hc:¬ (0<v∧n.domains.any (fun d=>d.dev == dev && d.vlan == v)=false)):Sy.Spec Tryz.prog 189 [.ptr 900 0,Aa dev,Aa v] (Akh n) (.tup []) (Akh n):=cT F189 Tryz.ntmps189 fun F hF=>by
 have qc:=Iz n.domains (fun d=>d.dev == dev && d.vlan == v) 255 [] [.ref 1 (Aa dev) 0,.ref 1 (Aa v) 0] rfl (fun d _=>⟨⟨_,_,F255⟩,Uw dev v d⟩) hl
 rw[J3]at qc
 generalize n.domains.any (fun d=>d.dev == dev && d.vlan == v)=cl at *
 by_cases h1:0<v
 ·have g1:decide (v>0)=true:=decide_eq_true h1
  cases cl with
  | true =>
   refine T ?_
   refine Aw 4 1 (Aa dev) E E E ?_
   refine Aw 5 1 (Aa v) E E E ?_
   refine X (Eu [904] E F254 qc (.cons (.row E E) (.cons (.refl _) .nil)) E E) ?_
   exact A1 E .nil [] (Akh n) (fun _ h=>h) E E U
  | false=>exact absurd ⟨h1,rfl⟩ hc
 ·have g1:decide (v>0)=false:=decide_eq_false h1
  refine T ?_
  exact A1 E .nil [] (Akh n) (fun _ h=>h) E E U
theorem I3 (n:Net) (hl:n.domains.length<2147483648) (dev v:Int) (hc:0<v∧n.domains.any (fun d=>d.dev == dev && d.vlan == v)=false):Sy.Spec Tryz.prog 189 [.ptr 900 0,Aa dev,Aa v] (Akh n) (.tup []) (Au9 n (n.domains++[(⟨dev,v,0,-1,0,[]⟩:Domain)])):=cT F189 Tryz.ntmps189 fun F hF=>by
 have qc:=Iz n.domains (fun d=>d.dev == dev && d.vlan == v) 255 [] [.ref 1 (Aa dev) 0,.ref 1 (Aa v) 0] rfl (fun d _=>⟨⟨_,_,F255⟩,Uw dev v d⟩) hl
 rw[J3,hc.2]at qc
 have g1:decide (v>0)=true:=decide_eq_true hc.1
 refine T ?_
 refine Aw 4 1 (Aa dev) E E E ?_
 refine Aw 5 1 (Aa v) E E E ?_
 refine X (Eu [904] E F254 qc (.cons (.row E E) (.cons (.refl _) .nil)) E E) ?_
 refine T ?_
 refine Xd (Abb Γ.toTy 28 27 (⟨dev,v,0,-1,0,[]⟩:Domain) E E E E E (.row E) E E (fun M w u hu=>Aot (⟨dev,v,0,-1,0,[]⟩:Domain) E hu) j_ q_ q_) ?_
 refine T ?_
 exact A1 E .nil [(1904,28)] (Au9 n (n.domains++[(⟨dev,v,0,-1,0,[]⟩:Domain)])) (fun _ h=>h) E E U
theorem Wb {dev v:Int} {ds:List Domain} (h:¬ (0<v∧ds.any (fun d=>d.dev == dev && d.vlan == v)=false)):Dh dev ds v=ds:=by rw[Dh,if_neg h]
theorem S7 {dev v:Int} {ds:List Domain} (h:0<v∧ds.any (fun d=>d.dev == dev && d.vlan == v)=false):Dh dev ds v=ds++[(⟨dev,v,0,-1,0,[]⟩:Domain)]:=by rw[Dh,if_pos h]
theorem U9 (dev:Int):∀ (l:List Int) (ds:List Domain),(Bd dev ds l).length≤ds.length+l.length
 | [],ds=>by simp[Bd]
 | v::l,ds=>by
  have ih:=U9 dev l (Dh dev ds v)
  have h1:(Dh dev ds v).length≤ds.length+1:=by
   unfold Dh
   split<;>simp
  have e:Bd dev ds (v::l)=Bd dev (Dh dev ds v) l:=rfl
  rw[e,List.length_cons];omega
theorem U8 (dev:Int) (ds:List Domain) (l:List Int) (v:Int):Bd dev ds (l++[v])=Dh dev (Bd dev ds l) v:=by
 unfold Bd
 rw[List.foldl_append];rfl
theorem Aqh (n:Net) (hn:n.Fin) (l:LineM) (hl:LineW l):Sy.Spec Tryz.prog 123 [Aj n,A2 l] [] (.tup [Aj (putPort n l).1,Aa (putPort n l).2]) []:=cT F123 Tryz.ntmps123 fun F hF=>by
 have hres:=putPort.eq_1 n l
 generalize putPort n l=res at *
 cases hf:fitsB n l 2 with
 | false =>
  have q1:=Q2 n hn l hl 2 hf
  rw[hf,if_pos rfl]at hres
  subst hres
  refine T ?_
  refine C q1 F184 ?_
  refine Am 4 (Cn emptyN) E vL ?_
  refine T ?_
  exact D
 | true =>
 have q1:=Wn n hn l hl 2 hf
 have hr:Ac n=true:=by
  unfold fitsB at hf
  simp only[Bool.and_eq_true]at hf
  exact hf.2.2
 rw[hf,if_neg y_]at hres
 have q2:=Hy n hn hr l.dev
 have q3:=Sr n hn hr (H6 n l.dev) l.port
 have hlt:=hl.fin.t
 have q5:=Dj l.tagged q_
 have hfl:n.ports.length≤40∧n.domains.length≤48:=⟨(Ahb hr).2.1,(Ahb hr).2.2.2.1⟩
 generalize Aau n (H6 n l.dev) l.port=pt at *
 generalize H6 n l.dev=dv at *
 by_cases h3:dv<0
 ·have g3:decide (dv<0)=true:=decide_eq_true h3
  rw[if_pos h3]at hres
  subst hres
  refine T ?_
  refine X (Ad [] E F184 q1 E W E V) ?_
  refine C q2 F187 ?_
  refine Am 4 (Cn emptyN) E vL ?_
  refine T ?_
  exact D
 have g3:decide (dv<0)=false:=decide_eq_false h3
 rw[if_neg h3]at hres
 by_cases h4:0≤pt
 ·have g4:decide (pt≥0)=true:=decide_eq_true h4
  rw[if_pos h4]at hres
  subst hres
  refine T ?_
  refine X (Ad [] E F184 q1 E W E V) ?_
  refine C q2 F187 ?_
  refine C q3 F188 ?_
  refine Am 4 (Cn emptyN) E vL ?_
  refine T ?_
  exact D
 have g4:decide (pt≥0)=false:=decide_eq_false h4
 rw[if_neg h4]at hres
 by_cases h5:n.ports.length=40
 ·have g5:((n.ports.length:Int) == 40)=true:=by rw[beq_iff_eq];omega
  rw[if_pos h5]at hres
  subst hres
  refine T ?_
  refine X (Ad [] E F184 q1 E W E V) ?_
  refine C q2 F187 ?_
  refine C q3 F188 ?_
  refine Am 4 (Cn emptyN) E vL ?_
  refine T ?_
  exact D
 have g5:((n.ports.length:Int) == 40)=false:=by rw[beq_eq_false_iff_ne];omega
 rw[if_neg h5]at hres
 have hd1l:(Dh dv n.domains l.vlan).length≤49:=by unfold Dh;split<;>(try simp)<;>omega
 have hlenB:∀ j,(Bd dv (Dh dv n.domains l.vlan) (l.tagged.take j)).length≤200000:=fun j=>by
  have h1:=U9 dv (l.tagged.take j) (Dh dv n.domains l.vlan)
  rw[List.length_take]at h1
  omega
 by_cases hc:0<l.vlan∧n.domains.any (fun d=>d.dev == dv && d.vlan == l.vlan)=false
 ·have q6:=I3 ({ n with ports:=n.ports++[(⟨l.row,dv,l.vlan,l.cost,-1,l.port,l.tagged⟩:Port)] }:Net) (by show n.domains.length<_;omega) dv l.vlan hc
  obtain ⟨d1,hd1⟩:∃ d1,Dh dv n.domains l.vlan=d1:=⟨_,rfl⟩
  have hlenA:=hlenB
  rw[hd1]at hlenA
  have hde:=hd1.symm.trans (S7 hc)
  rw[← hde]at q6
  clear hlenB hde hc hd1l
  refine T ?_
  refine X (Ad [] E F184 q1 E W E V) ?_
  refine C q2 F187 ?_
  refine C q3 F188 ?_
  refine C q5 F103 ?_
  refine Xd (Ag Γ.toTy 66 E E E E E (.row E) (.lit (e:=Au) (l:=[(⟨l.row,dv,l.vlan,l.cost,-1,l.port,l.tagged⟩:Port)]) E E) j_ (by simp only[List.length_singleton];omega) (by simp only[List.length_singleton];omega)) ?_
  refine T ?_
  refine X (Bs [(902,66),(1904,1101)] (B4 E E F189) q6 E W E V) ?_
  refine T ?_
  refine C1 (fun j:Nat=>j≤l.tagged.length) (fun j=>[(4,.ptr 1001 0),(6,.ptr 900 0),(8,Aa dv),(9,.clo (.func 189) [] []),(77,.sl 1 Aa l.tagged),(78,Aa l.tagged.length),(79,Aa j)]) (fun j=>[(1001,.box [.val (.slice none 0 0),.val (.slice none 0 0),.val (.slice none 0 0),.val (.slice none 0 0),.val (.slice none 0 0),.val (.slice none 0 0),.val (.slice none 0 0),.val (.slice none 0 0)]),(900,.box [.osl 901,.osl 1002,.osl 903,.osl 1004,.osl 905,.osl 906,.osl 907,.osl 908]),(901,.row 5 Aq n.devices),(1002,.row 7 Au (n.ports++[(⟨l.row,dv,l.vlan,l.cost,-1,l.port,l.tagged⟩:Port)])),(903,.row 3 Bl n.links),(1004,.row 6 An (Bd dv d1 (l.tagged.take j))),(905,.row 4 As n.statics),(906,.row 4 A0 n.floods),(907,.row 5 Bv n.vrfs),(908,.row 5 Br n.irbs)]) (fun j=>l.tagged.length-j) 0 [(1001,4),(1002,66),(1004,1101)] q_ U ?_
  intro j hj
  have hlen:=hlenA j
  refine T ?_
  refine⟨fun h=>?_,fun h=>?_⟩
  ·have hlt:j<l.tagged.length:=qA h
   have hlt0:((j:Nat):Int).toNat<l.tagged.length:=hlt
   clear h
   have hsn:Bd dv d1 (l.tagged.take (j+1))=Dh dv (Bd dv d1 (l.tagged.take j)) (l.tagged[((j:Nat):Int).toNat]'hlt0):=by
    rw[List.take_succ_eq_append_getElem hlt,U8];rfl
   by_cases hc:0<(l.tagged[((j:Nat):Int).toNat]'hlt0)∧(Bd dv d1 (l.tagged.take j)).any (fun d=>d.dev == dv && d.vlan == (l.tagged[((j:Nat):Int).toNat]'hlt0))=false
   ·have q:=I3 ({ n with ports:=n.ports++[(⟨l.row,dv,l.vlan,l.cost,-1,l.port,l.tagged⟩:Port)],domains:=Bd dv d1 (l.tagged.take j) }:Net) (by show (Bd dv d1 (l.tagged.take j)).length<_;omega) dv (l.tagged[((j:Nat):Int).toNat]'hlt0) hc
    rw[S7 hc]at hsn
    refine T ?_
    refine X (Bs [(902,1002),(904,1004),(1904,1102)] (B4 E E F189) q E W E V) ?_
    exact Bg (j+1) [(1004,1102)] hlt q_ ⟨⟨E,E,E,E,E,E,E,E,E,E,E,E,E,E,Y⟩,⟨.inl E,E,.inl E,E,.inl E,E,.inl E,E,.inl E,E,.inl (congrArg (Ob.row 6 An) hsn),E,.inl E,E,.inl E,E,.inl E,E,.inl E,E,Y⟩,E,E⟩
   ·have q:=J9 ({ n with ports:=n.ports++[(⟨l.row,dv,l.vlan,l.cost,-1,l.port,l.tagged⟩:Port)],domains:=Bd dv d1 (l.tagged.take j) }:Net) (by show (Bd dv d1 (l.tagged.take j)).length<_;omega) dv (l.tagged[((j:Nat):Int).toNat]'hlt0) hc
    rw[Wb hc]at hsn
    refine T ?_
    refine X (Bs [(902,1002),(904,1004)] (B4 E E F189) q E W E V) ?_
    exact Bg (j+1) [] hlt q_ ⟨⟨E,E,E,E,E,E,E,E,E,E,E,E,E,E,Y⟩,⟨.inl E,E,.inl E,E,.inl E,E,.inl E,E,.inl E,E,.inl (congrArg (Ob.row 6 An) hsn),E,.inl E,E,.inl E,E,.inl E,E,.inl E,E,Y⟩,E,E⟩
  ·have hje:j=l.tagged.length:=qB h
   clear h
   rw[hje,List.take_length]
   have hfull:Bd dv n.domains (l.vlan::l.tagged)=Bd dv d1 l.tagged:=(show Bd dv n.domains (l.vlan::l.tagged)=Bd dv (Dh dv n.domains l.vlan) l.tagged from rfl).trans (by rw[hd1])
   rw[hfull]at hres
   by_cases h9:48<(Bd dv d1 l.tagged).length
   ·have g9:decide (((Bd dv d1 l.tagged).length:Int)>48)=true:=decide_eq_true q_
    rw[if_pos h9]at hres
    subst hres
    refine T ?_
    refine Am 1001 (Cn emptyN) E vL ?_
    refine T ?_
    exact D
   ·have g9:decide (((Bd dv d1 l.tagged).length:Int)>48)=false:=decide_eq_false q_
    rw[if_neg h9]at hres
    subst hres
    refine T ?_
    refine Ah 901 E ?_
    refine Ah 1002 E ?_
    refine Ah 903 E ?_
    refine Ah 1004 E ?_
    refine Ah 905 E ?_
    refine Ah 906 E ?_
    refine Ah 907 E ?_
    refine Ah 908 E ?_
    exact D
 ·have q6:=J9 ({ n with ports:=n.ports++[(⟨l.row,dv,l.vlan,l.cost,-1,l.port,l.tagged⟩:Port)] }:Net) (by show n.domains.length<_;omega) dv l.vlan hc
  have hd1:Dh dv n.domains l.vlan=n.domains:=Wb hc
  have hlenA:=hlenB
  rw[hd1]at hlenA
  clear hlenB hc hd1l
  refine T ?_
  refine X (Ad [] E F184 q1 E W E V) ?_
  refine C q2 F187 ?_
  refine C q3 F188 ?_
  refine C q5 F103 ?_
  refine Xd (Ag Γ.toTy 66 E E E E E (.row E) (.lit (e:=Au) (l:=[(⟨l.row,dv,l.vlan,l.cost,-1,l.port,l.tagged⟩:Port)]) E E) j_ (by simp only[List.length_singleton];omega) (by simp only[List.length_singleton];omega)) ?_
  refine T ?_
  refine X (Bs [(902,66)] (B4 E E F189) q6 E W E V) ?_
  refine T ?_
  refine C1 (fun j:Nat=>j≤l.tagged.length) (fun j=>[(4,.ptr 1001 0),(6,.ptr 900 0),(8,Aa dv),(9,.clo (.func 189) [] []),(77,.sl 1 Aa l.tagged),(78,Aa l.tagged.length),(79,Aa j)]) (fun j=>[(1001,.box [.val (.slice none 0 0),.val (.slice none 0 0),.val (.slice none 0 0),.val (.slice none 0 0),.val (.slice none 0 0),.val (.slice none 0 0),.val (.slice none 0 0),.val (.slice none 0 0)]),(900,.box [.osl 901,.osl 1002,.osl 903,.osl 1004,.osl 905,.osl 906,.osl 907,.osl 908]),(901,.row 5 Aq n.devices),(1002,.row 7 Au (n.ports++[(⟨l.row,dv,l.vlan,l.cost,-1,l.port,l.tagged⟩:Port)])),(903,.row 3 Bl n.links),(1004,.row 6 An (Bd dv n.domains (l.tagged.take j))),(905,.row 4 As n.statics),(906,.row 4 A0 n.floods),(907,.row 5 Bv n.vrfs),(908,.row 5 Br n.irbs)]) (fun j=>l.tagged.length-j) 0 [(1001,4),(1002,66),(1004,904)] q_ U ?_
  intro j hj
  have hlen:=hlenA j
  refine T ?_
  refine⟨fun h=>?_,fun h=>?_⟩
  ·have hlt:j<l.tagged.length:=qA h
   have hlt0:((j:Nat):Int).toNat<l.tagged.length:=hlt
   clear h
   have hsn:Bd dv n.domains (l.tagged.take (j+1))=Dh dv (Bd dv n.domains (l.tagged.take j)) (l.tagged[((j:Nat):Int).toNat]'hlt0):=by
    rw[List.take_succ_eq_append_getElem hlt,U8];rfl
   by_cases hc:0<(l.tagged[((j:Nat):Int).toNat]'hlt0)∧(Bd dv n.domains (l.tagged.take j)).any (fun d=>d.dev == dv && d.vlan == (l.tagged[((j:Nat):Int).toNat]'hlt0))=false
   ·have q:=I3 ({ n with ports:=n.ports++[(⟨l.row,dv,l.vlan,l.cost,-1,l.port,l.tagged⟩:Port)],domains:=Bd dv n.domains (l.tagged.take j) }:Net) (by show (Bd dv n.domains (l.tagged.take j)).length<_;omega) dv (l.tagged[((j:Nat):Int).toNat]'hlt0) hc
    rw[S7 hc]at hsn
    refine T ?_
    refine X (Bs [(902,1002),(904,1004),(1904,1102)] (B4 E E F189) q E W E V) ?_
    exact Bg (j+1) [(1004,1102)] hlt q_ ⟨⟨E,E,E,E,E,E,E,E,E,E,E,E,E,E,Y⟩,⟨.inl E,E,.inl E,E,.inl E,E,.inl E,E,.inl E,E,.inl (congrArg (Ob.row 6 An) hsn),E,.inl E,E,.inl E,E,.inl E,E,.inl E,E,Y⟩,E,E⟩
   ·have q:=J9 ({ n with ports:=n.ports++[(⟨l.row,dv,l.vlan,l.cost,-1,l.port,l.tagged⟩:Port)],domains:=Bd dv n.domains (l.tagged.take j) }:Net) (by show (Bd dv n.domains (l.tagged.take j)).length<_;omega) dv (l.tagged[((j:Nat):Int).toNat]'hlt0) hc
    rw[Wb hc]at hsn
    refine T ?_
    refine X (Bs [(902,1002),(904,1004)] (B4 E E F189) q E W E V) ?_
    exact Bg (j+1) [] hlt q_ ⟨⟨E,E,E,E,E,E,E,E,E,E,E,E,E,E,Y⟩,⟨.inl E,E,.inl E,E,.inl E,E,.inl E,E,.inl E,E,.inl (congrArg (Ob.row 6 An) hsn),E,.inl E,E,.inl E,E,.inl E,E,.inl E,E,Y⟩,E,E⟩
  ·have hje:j=l.tagged.length:=qB h
   clear h
   rw[hje,List.take_length]
   have hfull:Bd dv n.domains (l.vlan::l.tagged)=Bd dv n.domains l.tagged:=(show Bd dv n.domains (l.vlan::l.tagged)=Bd dv (Dh dv n.domains l.vlan) l.tagged from rfl).trans (by rw[hd1])
   rw[hfull]at hres
   by_cases h9:48<(Bd dv n.domains l.tagged).length
   ·have g9:decide (((Bd dv n.domains l.tagged).length:Int)>48)=true:=decide_eq_true q_
    rw[if_pos h9]at hres
    subst hres
    refine T ?_
    refine Am 1001 (Cn emptyN) E vL ?_
    refine T ?_
    exact D
   ·have g9:decide (((Bd dv n.domains l.tagged).length:Int)>48)=false:=decide_eq_false q_
    rw[if_neg h9]at hres
    subst hres
    refine T ?_
    refine Ah 901 E ?_
    refine Ah 1002 E ?_
    refine Ah 903 E ?_
    refine Ah 1004 E ?_
    refine Ah 905 E ?_
    refine Ah 906 E ?_
    refine Ah 907 E ?_
    refine Ah 908 E ?_
    exact D
end Go.Sy.YtcflgpijohhfbaaGreat
