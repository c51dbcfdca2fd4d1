/-
  S0 H2 H3 H4 Sy23 O1 H7 D9 D10 D11 D12 H5 O5 Z17 H8 J27: parts of a proof, joined by program.
-/
import Derived.Test.YteinjapglfkamaaGreatXB3
import Derived.Test.YteinjapglfkamaaGreatXB8
import Derived.Test.YteinjapglfkamaaGreatXB5
import Derived.Test.YteinjapglfkamaaGreatXB6
import Derived.Test.YteinjapglfkamaaGreatXB4
import Derived.Test.YteinjapglfkamaaGreatRows
import Derived.ProofKit
namespace Go.Sy.YteinjapglfkamaaGreat
open Go.Proofs
attribute [local irreducible] Go.Sy.G Go.Sy.DR
structure Bx (Q:Prop):Prop where out:Q
theorem sE {α:Sort _} {a b:α} {K:Prop} (e:a=b) (h:K):a=b∧K:=⟨e,h⟩
theorem xE {α:Sort _} {a b:α} {K:a=b→Prop} (e:a=b) (h:K e):∃ e:a=b,K e:=⟨e,h⟩
theorem sL {a b:Int} {K:Prop} (e:a≤b) (h:K):a≤b∧K:=⟨e,h⟩
theorem xL {a b:Int} {K:a≤b→Prop} (e:a≤b) (h:K e):∃ e:a≤b,K e:=⟨e,h⟩
theorem sM {a b:Nat} {K:Prop} (e:a≤b) (h:K):a≤b∧K:=⟨e,h⟩
theorem sT {a b:Nat} {K:Prop} (e:a<b) (h:K):a<b∧K:=⟨e,h⟩
theorem xT {a b:Nat} {K:a<b→Prop} (e:a<b) (h:K e):∃ e:a<b,K e:=⟨e,h⟩
theorem sN {a b:Int} {K:Prop} (e:a≠b) (h:K):a≠b∧K:=⟨e,h⟩
theorem sI {a:Int} {K:Prop} (e:I64 a) (h:K):I64 a∧K:=⟨e,h⟩
theorem ct {p q:Prop} {b:Bool} (h:q) (e:b=true→False:=by
 intro _h
 first | exact absurd _h qx | exact Bool.false_ne_true (Eq.trans (Eq.symm (by with_reducible assumption)) _h) | (simp at _h;done) | (simp at _h;omega)):(b=true→p)∧(b=false→q):=⟨fun x=>(e x).elim,fun _=>h⟩
theorem cf {p q:Prop} {b:Bool} (h:p) (e:b=false→False:=by
 intro _h
 first | exact absurd _h qx | exact Bool.false_ne_true (Eq.trans (Eq.symm _h) (by with_reducible assumption)) | (simp at _h;done) | (simp at _h;omega)):(b=true→p)∧(b=false→q):=⟨fun _=>h,fun x=>(e x).elim⟩
theorem S {P Q:Prop} (h:Q) (e:Bx Q→P:=by
 intro hb
 first | refine rg ?_ | refine rd qq ?_ | skip
 conv=>whnf
 repeat (first
  | ((first | refine aF ?_ | refine aT ?_ | refine ct ?_ | refine cf ?_);(first | refine rg ?_ | refine rd qq ?_);(conv=>whnf))
  | ((first | refine⟨(by kernel_rfl:Aai _ _=true),?_⟩ | refine sI (by unfold I64;omega) ?_);(conv=>whnf)))
 exact hb.out):P:=e ⟨h⟩
theorem T {P Q:Prop} (h:Q) (e:Bx Q→P:=by
 intro hb
 refine S ?_
 repeat ((first | refine sE (by exact rfl) ?_ | refine sL (by first | omega | decide) ?_ | refine xL (by first | omega | decide) ?_ | refine sT (by first | omega | decide) ?_ | refine xT (by first | omega | decide) ?_ | refine sM (by first | omega | decide) ?_ | refine sN (by first | omega | decide) ?_ | refine xE (by exact rfl) ?_);refine S ?_)
 exact hb.out):P:=e ⟨h⟩
theorem D {P:Prop} (h:P:=by
 apply Ac
 ·exact E
 ·(repeat (first | exact ResVs.nil | (apply ResVs.cons;(first | exact .tmp | exact .cell rfl rfl rfl rfl))))
 ·exact E
 ·exact E):P:=h
theorem U {P:Prop} (h:P:=by
 refine⟨?_,?_,E,E⟩
 ·repeat (first | exact trivial | exact rfl | refine⟨rfl,rfl,?_⟩)
 ·repeat (first | exact trivial | refine⟨.inl rfl,rfl,?_⟩ | refine⟨.inr rfl,rfl,?_⟩)):P:=h
theorem W {P:Prop} (h:P:=by
 repeat (first | exact trivial | exact rfl | refine⟨rfl,?_⟩)):P:=h
theorem V {P:Prop} (h:P:=by
 repeat (first | exact trivial | refine⟨.inl rfl,?_⟩ | refine⟨.inr rfl,?_⟩)):P:=h
theorem C {P:Program} {f:FuncId} {fn:Func} {c:Code} {A:List SV} {R:SV} {Z Q:Prop} (hs:Sy.Spec P f A [] R []) (hf:Fun P f fn c) (h:Q) (e:Sy.Spec P f A [] R []→Fun P f fn c→Bx Q→Z:=by
 intro hs hf hb
 first | refine Ag hs hf rfl rfl rfl rfl rfl ?_ | refine Au hs hf rfl rfl rfl qq rfl ?_
 refine T ?_
 exact hb.out):Z:=e hs hf ⟨h⟩
theorem X {C:Cx} {k:List KI} {s:SS} {all:Array Oper} {o:Oper} {rest:List Oper} {V:Up} {Q:Prop} (hg:Good C.P o s V) (h:Q) (hd:Oo C.n o=true:=by exact rfl) (hw:Dn C.n all o s=some true:=by exact rfl) (e:Bx Q→G C (.ops all rest::k) (s.upd o.dst V):=by
 intro hb
 refine T ?_
 exact hb.out):G C (.ops all (o::rest)::k) s:=Ah hg hd hw (e ⟨h⟩)
theorem Xd {C:Cx} {k:List KI} {s:SS} {all:Array Oper} {done:List Stp} {o:Oper} {rest:List Oper} {V:Up} {Q:Prop} (hg:Good C.P o s V) (h:Q) (hi:all[done.length]? = some o:=by kernel_rfl) (hw:Dn C.n all o s=some true:=by exact rfl) (hn:(Ex o || Jh o)=false:=by exact rfl) (e:Bx Q→DR C k all (done++[⟨done.length,o,V,true⟩]) rest (s.upd o.dst V):=by
 intro hb
 refine T ?_
 exact hb.out):DR C k all done (o::rest) s:=Bo hg hi hw (e ⟨h⟩) hn
theorem Xe {C:Cx} {k:List KI} {s:SS} {all:Array Oper} {done:List Stp} {o:Oper} {rest:List Oper} {V:Up} {Q:Prop} (hg:Good C.P o s V) (h:Q) (hk:KeepL s V.objs:=by exact W) (hi:all[done.length]? = some o:=by kernel_rfl) (hw:Dn C.n all o s=some true:=by exact rfl) (hn:(Ex o || Jh o)=false:=by exact rfl) (e:Bx Q→DR C k all (done++[⟨done.length,o,⟨V.v,V.rd++V.ws,[]⟩,true⟩]) rest (s.upd o.dst ⟨V.v,V.rd++V.ws,[]⟩):=by
 intro hb
 refine T ?_
 exact hb.out):DR C k all done (o::rest) s:=stepD2 hg hk hi hw (e ⟨h⟩) hn
end Go.Sy.YteinjapglfkamaaGreat
namespace Go.Sy.YteinjapglfkamaaGreat
open Go.Proofs
attribute [local irreducible] Go.Sy.G Go.Sy.DR
set_option maxRecDepth 100000
set_option maxHeartbeats 4000000
theorem Wm (l:List Hop) (p:Hop→Bool) (f:FuncId) (first cap:List SV) (hc:(SV.clo (.func f) first cap).inn []=true) (hf:∀ x∈l,E9 Tryz.prog f (first++[Bp x]++cap) (Ad (p x))) (hl:An l) :
  Sy.Spec Tryz.prog 41 [.sl 4 Bp l,.clo (.func f) first cap] [] (Aa (Cb p l)) []:=Ab Γ hm 100 F41 Tryz.ntmps41 rfl fun F hF=>by
 unfold An at hl
 have hin:∀ x:Hop,B8 [] (first++[Bp x]++cap)=true:=fun x=>Cn hc rfl
 conv=>whnf
 refine A2 l.length (fun j=>C7 (fun _ x=>!(p x)) l j) (fun j=>[(0,.sl 4 Bp l),(1,.clo (.func f) first cap),(7,Aa l.length),(8,Aa j)]) (fun _=>[]) [] (Ax _ _) ⟨⟨E,E,Bb _,hc,E,E,E,E,Y⟩,Y,E,E⟩ ?_
 intro j hj hI
 refine rg ?_;conv=>whnf
 refine⟨fun h=>?_,fun h=>?_⟩
 ·have h:=of_decide_eq_true h
  have hj2:j<l.length:=by omega
  refine rg ?_;conv=>whnf
  refine⟨E,by omega,by omega,?_⟩
  conv=>whnf
  refine Ds (hf l[j] (List.getElem_mem hj2)) E E E (by simp only[hin];rfl) E E ?_
  refine rg ?_;conv=>whnf
  refine⟨fun h2=>?_,fun h2=>?_⟩
  ·refine rg ?_;conv=>whnf
   refine Ac E (.cons .tmp .nil) (congrArg Aa ?_) E
   exact C9 hj2 (fun i hi hij=>by simpa using hI i hi hij) h2
  ·refine rg ?_;conv=>whnf
   refine⟨by unfold I64;omega,?_⟩
   conv=>whnf
   exact A0 [] hI hj2 (As hI hj2 (by simp[h2])) ⟨⟨E,E,Bb _,hc,E,E,E,E,Y⟩,Y,E,E⟩
 ·have h:=of_decide_eq_false h
  refine rg ?_;conv=>whnf
  refine Ac E (.cons .tmp .nil) (congrArg Aa ?_) E
  exact Dv fun i hi=>by simpa using hI i hi qn
theorem Aeg (h:Hop):Sy.Spec Tryz.prog 42 [Bp h] [] (Ad (decide (h.kind=3))) []:=Ab Γ hm 100 F42 Tryz.ntmps42 rfl fun F hF=>by
 refine T ?_
 exact D
theorem Agt {α:Type} {p:α→Bool} {l:List α} {i:Int} (h:Cb p l=i) (h0:0≤i):∃ hi:i.toNat<l.length,p l[i.toNat]=true:=by
 rcases Kw p l with ⟨h1,_⟩ | ⟨k,hk,h1,h2,_⟩
 ·omega
 ·have e:i.toNat=k:=by omega
  subst e
  exact⟨hk,h2⟩
theorem Adx (a:Nat) (h:a<4294967296):PacketOK (Ld a):=⟨by show 0≤255;decide,by show 0≤65535;decide,by show 64≤255;decide,by show 17≤255;decide,by show 1<4294967296;decide,h⟩
theorem Ajl (a:Nat):(ipPutT (Ld a)).1.length=20:=by
 rw[ipPutT,if_neg (by show ¬ 1480<0;decide)]
 show (Ec (Ld a) _++[]).length=20
 rw[List.append_nil]
 rfl
theorem Ab9 {n:Net} (hu:Ei n) (d:Int):0≤(nth n.irbs d).addr∧(nth n.irbs d).addr<4294967296:=by
 rw[nth]
 cases h:n.irbs[d.toNat]? with
 | none=>exact⟨by decide,by decide⟩
 | some x=>exact hu x (List.mem_of_getElem? h)
theorem Tu {n:Net} (hu:Ei n) (l:List Hop):FrameOK (frameW n l):=by
 unfold frameW
 split
 ·have:=Ab9 hu (nth n.domains (nth l (Es l-1)).domain).irb
  refine⟨?_,by show 2203318222849<281474976710656;decide,by show 2048≤65535;decide,?_⟩
  ·show 2199023255552+(irbOf n l).addr.toNat<281474976710656
   unfold irbOf
   omega
  ·show (ipPutT _).1.length≤1504
   rw[Ajl];decide
 ·exact⟨by decide,by decide,by decide,by decide⟩
theorem S9 (n:Net) (hn:n.Fin) (hu:Ei n) (l:List Hop) (hl:An l) (hla:∀ h∈l,0≤h.addr∧h.addr<4294967296) :
  Sy.Spec Tryz.prog 14 [Ap n,.sl 4 Bp l] [] (.tup [.sl 1 Ai (wayBytes n l).1,Aa (wayBytes n l).2]) []:=Ab Γ hm 100 F14 Tryz.ntmps14 rfl fun F hF=>by
 have hres:=wayBytes.eq_1 n l
 generalize wayBytes n l=res at *
 have hr:=Bd n hn
 have hl2:=hl
 unfold An at hl2
 conv=>whnf
 refine⟨fun h=>?_,fun h=>?_⟩
 ·have h0:l=[]:=List.eq_nil_of_length_eq_zero (by have:=of_decide_eq_true h;omega)
  rw[if_neg (fun x=>x.2.1 h0)]at hres
  subst hres
  refine T ?_
  refine Ao 4 1 Ai E ?_
  exact D
 have h0:0<l.length:=by have:=of_decide_eq_false h;omega
 clear h
 have hne:l≠[]:=fun e=>by rw[e]at h0;simp at h0
 refine Be 2 8 (Ap n) E E E ?_
 refine T ?_
 refine C hr F23 ?_
 cases hb:Af n
 ·rw[if_neg (fun x=>by rw[hb]at x;cases x.1)]at hres
  subst hres
  refine T ?_
  refine Ao 4 1 Ai E ?_
  exact D
 refine T ?_
 refine A2 l.length (fun j=>C7 (stepB n l) l j) (fun j=>[(1,.sl 4 Bp l),(2,.ref 8 (Ap n) 0),(6,.ptr 6 0),(22,.sl 4 Bp l),(23,Aa l.length),(24,Aa j)]) (fun _=>[(6,.box [A9 281474976710655,A9 2203318222849,Aa 34997,.val (.slice none 0 0)])]) [] (Ax _ _) U ?_
 intro j hj hI
 refine T ?_
 refine⟨fun h=>?_,fun h=>?_⟩
 ·have hlt:j<l.length:=by have:=of_decide_eq_true h;omega
  have hj0:((j:Nat):Int).toNat<l.length:=by simpa using hlt
  obtain ⟨x,hoo⟩:∃ x,l[j]=x:=⟨_,rfl⟩
  have e1:l[((j:Nat):Int).toNat]'hj0=x:=hoo
  have hst:=stepB.eq_1 n l j x
  have hbad:stepB n l j x=false→res=([],2):=fun h2=>by
   rw[if_neg (fun y=>by have:=allB_iff.1 y.2.2 j hlt;rw[hoo,h2]at this;cases this)]at hres
   exact hres
  clear h
  refine S ?_
  refine⟨E,by omega,hj0,?_⟩
  rw[e1]
  by_cases hd1:x.domain<0
  ·have hres:=hbad (by rw[hst,Qz qn,Bool.false_and])
   subst hres
   refine T ?_
   refine Ao 4 1 Ai E ?_
   exact D
  by_cases hd2:(n.domains.length:Int)≤x.domain
  ·have hres:=hbad (by rw[hst,Qz qn,Bool.false_and])
   subst hres
   refine T ?_
   refine Ao 4 1 Ai E ?_
   exact D
  have hpl:=I1 (n:=n.domains.length) (i:=x.domain) qn
  rw[hpl,Bool.true_and]at hst
  by_cases hk:x.kind=3
  rotate_left
  ·rw[decide_eq_false hk,Bool.false_and]at hst
   refine T ?_
   exact A0 [] hI hlt (As hI hlt (by rw[hoo];exact hst)) U
  rw[decide_eq_true hk,Bool.true_and]at hst
  by_cases hj1:j=0
  ·have hres:=hbad (by rw[hst,decide_eq_true hj1];rfl)
   subst hres
   refine T ?_
   refine Ao 4 1 Ai E ?_
   exact D
  rw[decide_eq_false hj1,Bool.false_or]at hst
  have hk1:((j:Int)-1).toNat<l.length:=by omega
  have hpr:=hI (j-1) qn qn
  have hpr2:Ak (l[((j:Int)-1).toNat]'hk1).domain n.domains.length=true:=by
   have e:((j:Int)-1).toNat=j-1:=by omega
   simp only[e]
   unfold stepB at hpr
   simp only[Bool.and_eq_true]at hpr
   exact hpr.1
  have hpi:=placeB_iff.1 hpr2
  rw[Am hk1,Am hpi.2]at hst
  by_cases hir:(n.domains[(l[((j:Int)-1).toNat]'hk1).domain.toNat]'hpi.2).irb<0
  ·have hres:=hbad (by rw[hst,decide_eq_true hir];rfl)
   subst hres
   refine T ?_
   refine⟨fun _=>?_,fun h=>absurd hir (of_decide_eq_false h)⟩
   refine T ?_
   refine Ao 4 1 Ai E ?_
   exact D
  rw[decide_eq_false hir]at hst
  refine T ?_
  refine⟨fun h=>absurd (of_decide_eq_true h) hir,fun _=>?_⟩
  refine T ?_
  exact A0 [] hI hlt (As hI hlt (by rw[hoo];exact hst)) U
 ·have hjj:j=l.length:=by have:=of_decide_eq_false h;omega
  subst hjj
  clear h
  have hall:Cj (stepB n l) l=true:=allB_iff.2 fun i hi=>hI i hi hi
  rw[if_pos ⟨hb,hne,hall⟩]at hres
  subst hres
  have qi:=Wm l (fun h=>decide (h.kind=3)) 42 [] [] rfl (fun x hx=>⟨⟨_,_,F42⟩,Aeg x⟩) hl
  have hri:Cb (fun h=>decide (h.kind=3)) l=Es l:=rfl
  rw[hri]at qi
  have hlt:=D6 (fun h:Hop=>decide (h.kind=3)) l
  have his:=fun h0=>Agt hri h0
  rw[hri]at hlt
  have q7:=Ia (frameW n l) (Tu hu l)
  have hfw:=frameW.eq_1 n l
  have hirb:=irbOf.eq_1 n l
  generalize irbOf n l=ib at *
  generalize Es l=r at *
  refine T ?_
  refine C qi F41 ?_
  refine⟨fun h=>?_,fun h=>?_⟩
  ·have h1:0<r:=of_decide_eq_true h
   rw[if_pos h1]at hfw
   obtain ⟨hr0,hr3⟩:=his qn
   have hst:=allB_iff.1 hall r.toNat hr0
   have hk1:(r-1).toNat<l.length:=by omega
   have hpr2:Ak (l[(r-1).toNat]'hk1).domain n.domains.length=true:=by
    have hpr:=allB_iff.1 hall (r-1).toNat hk1
    unfold stepB at hpr
    simp only[Bool.and_eq_true]at hpr
    exact hpr.1
   have hpi:=placeB_iff.1 hpr2
   unfold stepB at hst
   rw[hr3,show ((r.toNat:Int)-1)=r-1 by omega,Am hk1,Am hpi.2]at hst
   simp only[Bool.and_eq_true,Bool.true_and,Bool.not_eq_true',Bool.or_eq_false_iff,decide_eq_false_iff_not]at hst
   have hin:=(Tx hb hpi.2).resolve_left qn
   have hin1:0≤(n.domains[(l[(r-1).toNat]'hk1).domain.toNat]'hpi.2).irb∧(n.domains[(l[(r-1).toNat]'hk1).domain.toNat]'hpi.2).irb.toNat<n.irbs.length:=by unfold InIrbs at hin;omega
   rw[Am hk1,Am hpi.2,Am hin1.2]at hirb
   rw[Am hr0]at hfw
   have ha:=hla _ (List.getElem_mem hr0)
   have hae:=Int.toNat_of_nonneg ha.1
   have hxa:=hu _ (List.getElem_mem hin1.2)
   have hxe:=Int.toNat_of_nonneg hxa.1
   have q5:Sy.Spec Tryz.prog 43 [.agg [Aa 0,Aa 0,Aa 64,Aa 17,Bm 1,Bm ((l[r.toNat]'hr0).addr.toNat:Nat),.sl 1 Ai []]] [] (.tup [.sl 1 Ai (ipPutT (Ld (l[r.toNat]'hr0).addr.toNat)).1,Aa (ipPutT (Ld (l[r.toNat]'hr0).addr.toNat)).2]) []:=Z7 (Ld (l[r.toNat]'hr0).addr.toNat) (Adx _ qn) (by show 0<100000;decide)
   rw[hae]at q5
   have q6:=Yv (n.irbs[(n.domains[(l[(r-1).toNat]'hk1).domain.toNat]'hpi.2).irb.toNat]'hin1.2).addr.toNat qn
   rw[hxe]at q6
   subst hirb
   rw[hfw]at q7 ⊢
   clear hfw
   generalize (ipPutT (Ld (l[r.toNat]'hr0).addr.toNat)).1=bo at *
   refine T ?_
   refine Amp 74 (.agg [Aa 0,Aa 0,Aa 64,Aa 17,Bm 1,Bm (l[r.toNat]'hr0).addr,.sl 1 Ai []]) (.agg (.cons (.refl _) (.cons (.refl _) (.cons (.refl _) (.cons (.refl _) (.cons (.refl _) (.cons (.refl _) (.cons .nil .nil)))))))) ?_
   refine C q5 F43 ?_
   refine C q6 F44 ?_
   refine Ah (Aj [(0,999)] E F45 q7 E Y E ⟨.inr E,Y⟩) E E ?_
   refine At 999 E ?_
   refine T ?_
   exact D
  ·have h1:¬ 0<r:=of_decide_eq_false h
   rw[if_neg h1]at hfw
   rw[hfw]at q7 ⊢
   clear hfw
   refine T ?_
   refine Amp 99 (.agg [A9 281474976710655,A9 Qp,Aa 34997,.sl 1 Ai []]) (.agg (.cons (.refl _) (.cons (.refl _) (.cons (.refl _) (.cons .nil .nil))))) ?_
   refine Ah (Aj [(0,999)] E F45 q7 E Y E ⟨.inr E,Y⟩) E E ?_
   refine At 999 E ?_
   refine T ?_
   exact D
theorem Ye (b:List UInt8):FrameOK (takeF b).1:=by
 by_cases h:(takeF b).2=0
 ·exact Vn h
 ·rw[Ahd h];exact Cw
theorem Aba {f:FrameM} (hf:FrameOK f) (v:Nat) (hv:v≤4094):FrameOK (tagT f v).1:=by
 by_cases h:(tagT f v).2=0
 ·exact Aj5 hf v hv h
 ·unfold tagT at h ⊢
  split
  ·exact Cw
  ·rename_i h1
   rw[if_neg h1]at h
   split
   ·exact Cw
   ·rename_i h2
    rw[if_neg h2]at h
    exact absurd E h
theorem Qg {n:Net} (hu:Ei n) (l:List Hop):(wayBytes n l).1.length≤1518:=by
 unfold wayBytes
 split
 ·show (M1 _).length≤1518
  rw[Ew]
  have:=(Tu hu l).body
  omega
 ·show 0≤1518;decide
theorem Ad3 (n:Net) (hn:n.Fin) (hu:Ei n) (hb:Af n=true) (port:Int) (hp:0≤port∧port.toNat<n.ports.length) (l:List Hop) (hl:An l) (hla:∀ h∈l,S6 n h) (h0:0<l.length) :
  Sy.Spec Tryz.prog 55 [Ap n,Aa port,.sl 4 Bp l] [] (Dx (injectW n port l)) []:=Ab Γ hm 100 F55 Tryz.ntmps55 rfl fun F hF=>by
 have hk0:(0:Int).toNat<l.length:=h0
 have hd:=hla _ (List.getElem_mem hk0)
 have q1:=S9 n hn hu l hl (fun h hh=>(hla h hh).2)
 have hwl:=Qg (n:=n) hu l
 have hv:=O9 hb hd.1.2
 have hres:=injectW.eq_1 n port l
 rw[Am hk0,Am hd.1.2,Am hp.2]at hres
 generalize injectW n port l=res at *
 obtain ⟨ve,hve⟩:∃ v:Nat,(n.domains[(l[(0:Int).toNat]'hk0).domain.toNat]'hd.1.2).vlan=v:=⟨_,(Int.toNat_of_nonneg qn).symm⟩
 have hd1:0≤(l[(0:Int).toNat]'hk0).domain∧(l[(0:Int).toNat]'hk0).domain.toNat<n.domains.length:=hd.1
 have q3:=fun f hf=>Abb f ve hf qn
 have ho:=fun f hf=>Aba (f:=f) hf ve qn
 rw[← hve]at q3 ho
 clear hve
 generalize wayBytes n l=bb at *
 have q2:=Kz bb.1 qn
 have hf:=Ye bb.1
 generalize takeF bb.1=tk at *
 have q3:=q3 _ hf
 have q4:=Ia _ (ho _ hf)
 clear ho
 conv=>whnf
 refine Be 3 8 (Ap n) E E E ?_
 refine T ?_
 refine C q1 F14 ?_
 refine⟨fun h=>?_,fun h=>?_⟩
 ·have hv2:(n.domains[(l[(0:Int).toNat]'hk0).domain.toNat]'hd.1.2).vlan≠(n.ports[port.toNat]'hp.2).native:=by simpa using h
  rw[if_pos hv2]at hres
  clear h hv hv2
  generalize tagT tk.1 (n.domains[(l[(0:Int).toNat]'hk0).domain.toNat]'hd.1.2).vlan=tg at *
  subst hres
  refine T ?_
  refine C q2 F121 ?_
  refine C q3 F122 ?_
  refine Ah (Aj [(0,55)] E F45 q4 E Y E ⟨.inr E,Y⟩) E E ?_
  refine At 55 E ?_
  refine T ?_
  refine Bc 6 [Aa 1,Aa port,Aa 0,Aa 0,.sl 1 Ai (M1 tg.1),.sl 1 Ad []] E (.cons (.refl _) (.cons (.refl _) (.cons (.refl _) (.cons (.refl _) (.cons (.refl _) (.cons .nil .nil)))))) ?_
  exact D
 ·have hv2:¬ (n.domains[(l[(0:Int).toNat]'hk0).domain.toNat]'hd.1.2).vlan≠(n.ports[port.toNat]'hp.2).native:=by simpa using h
  rw[if_neg hv2]at hres
  subst hres
  refine T ?_
  refine Bc 6 [Aa 1,Aa port,Aa 0,Aa 0,.sl 1 Ai bb.1,.sl 1 Ad []] E (.cons (.refl _) (.cons (.refl _) (.cons (.refl _) (.cons (.refl _) (.cons (.refl _) (.cons .nil .nil)))))) ?_
  exact D
abbrev stO (n:Net) (s:GoM):Obs:=[(0,.box (Ll n 1 s.m.now s.m.injected s.m.drops)),(1,.box (Hm n s.m.up s.d)),(2,.row 1 Jo s.m.tables),(3,.row 1 K7 s.m.queues),(5,.box [.ptr 0 0]),(6,.box [.osl 7]),(7,.row 6 Dx s.out)]
abbrev stN (n:Net) (s:GoM):Obs:=[(0,.box (Ll n 4 s.m.now s.m.injected s.m.drops)),(1,.non),(2,.row 1 Jo s.m.tables),(3,.row 1 K7 s.m.queues),(4,.box (Hm n s.m.up s.d)),(5,.box [.ptr 0 0]),(6,.box [.osl 8]),(7,.non),(8,.row 6 Dx s.out)]
abbrev doSV:SV:=.clo (.func 51) [] [.ptr 5 0,.ptr 6 0]
abbrev pkO (n:Net) (s:GoM):Obs:=[(0,.box (Ll n 1 s.m.now s.m.injected s.m.drops)),(1,.box (Hm n s.m.up s.d)),(2,.row 1 Jo s.m.tables),(3,.row 1 K7 s.m.queues),(5,.box [.ptr 0 0]),(6,.box [.osl 7]),(7,.row 6 Dx s.out),(9,.box [doSV])]
abbrev pkN (n:Net) (s:GoM):Obs:=[(0,.box (Ll n 4 s.m.now s.m.injected s.m.drops)),(1,.non),(2,.row 1 Jo s.m.tables),(3,.row 1 K7 s.m.queues),(4,.box (Hm n s.m.up s.d)),(5,.box [.ptr 0 0]),(6,.box [.osl 8]),(7,.non),(8,.row 6 Dx s.out),(9,.box [doSV])]
theorem Ajr (n:Net) (hn:n.Fin) (hm1:n.Num) (s:GoM) (J D:Int) (hm0:MacOK n s.m J D) (hJ:J<900000000000) (hD0:0≤D) (hD:D≤900000000000) (hlen:s.out.length<1000000) (x:StepM) (hb:x.bytes.length<100000) :
  Sy.Spec Tryz.prog 51 [Dx x,.ptr 5 0,.ptr 6 0] (stO n s) (.tup []) (stN n (doW n s x)):=Ab Γ hm 100 F51 Tryz.ntmps51 rfl fun F hF=>by
 have q1:=Aki n hn hm1 s.m s.d J D hm0 hJ hD0 hD x hb
 have hres:=doW.eq_1 n s x
 generalize doT n s.m x=r at *
 generalize doD n s.m s.d x=dd at *
 generalize doW n s x=res at *
 subst hres
 conv=>whnf
 refine X (So (d:=900) E E E) ?_
 refine X (Aj [] E F52 q1 E W E V) ?_
 refine X (Al Γ.toTy 8 E E E E E (.row E) (.lit (e:=Dx) (l:=[x]) E E) qy (by simp;omega) (by simp;omega)) ?_
 exact Ba E .nil [] (stN n ⟨r.1,dd,s.out++[x]⟩) (fun _ h=>h) E E U
theorem Amu (n:Net) (hn:n.Fin) (hm1:n.Num) (m:MacM) (d:Bool) (J D:Int) (hm0:MacOK n m J D) (hJ:J<900000000000) (hD0:0≤D) (hD:D≤900000000000) (x:StepM) (hb:x.bytes.length<100000) :
  Sy.Spec Tryz.prog 51 [Dx x,.ptr 5 0,.ptr 6 0] [(0,.box (Ll n 1 m.now m.injected m.drops)),(1,.box (Hm n m.up d)),(2,.row 1 Jo m.tables),(3,.row 1 K7 m.queues),(5,.box [.ptr 0 0]),(6,.box [.val (.slice none 0 0)])] (.tup [])
   [(0,.box (Ll n 4 (doW n ⟨m,d,[]⟩ x).m.now (doW n ⟨m,d,[]⟩ x).m.injected (doW n ⟨m,d,[]⟩ x).m.drops)),(1,.non),(2,.row 1 Jo (doW n ⟨m,d,[]⟩ x).m.tables),(3,.row 1 K7 (doW n ⟨m,d,[]⟩ x).m.queues),(4,.box (Hm n (doW n ⟨m,d,[]⟩ x).m.up (doW n ⟨m,d,[]⟩ x).d)),(5,.box [.ptr 0 0]),(6,.box [.osl 8]),(8,.row 6 Dx (doW n ⟨m,d,[]⟩ x).out)]:=Ab Γ hm 100 F51 Tryz.ntmps51 rfl fun F hF=>by
 have q1:=Aki n hn hm1 m d J D hm0 hJ hD0 hD x hb
 have hres:=doW.eq_1 n ⟨m,d,[]⟩ x
 dsimp only at hres
 generalize doT n m x=r at *
 generalize doD n m d x=dd at *
 generalize doW n ⟨m,d,[]⟩ x=res at *
 subst hres
 conv=>whnf
 refine X (So (d:=900) E E E) ?_
 refine X (Aj [] E F52 q1 E W E V) ?_
 refine X (Al Γ.toTy 8 E E E E E .nil (.lit (e:=Dx) (l:=[x]) E E) qy qy qy) ?_
 exact Ba E .nil [] [(0,.box (Ll n 4 r.1.now r.1.injected r.1.drops)),(1,.non),(2,.row 1 Jo r.1.tables),(3,.row 1 K7 r.1.queues),(4,.box (Hm n r.1.up dd)),(5,.box [.ptr 0 0]),(6,.box [.osl 8]),(8,.row 6 Dx ([]++[x]))] (fun _ h=>h) E E U
theorem Aiw {P:Program} {o:Oper} {s:SS} {x y:Operand} {at_:Array TypeId} {k k':IntKind} {m n r:Int} (hr:(if m<n then n else m)=r) (h:o.op=.call ⟨.builtin .max,#[x,y],at_⟩)
  (hx:ev s x=.val (.int k m)) (hy:ev s y=.val (.int k' n)):Good P o s ⟨.val (.int k r),[],[]⟩:=by
 subst hr
 exact Good.pure fun κ a w _ hr ho=>by
  have h1:=hr x (by simp[h,Op.operands,Call.operands])
  have h2:=hr y (by simp[h,Op.operands,Call.operands])
  rw[hx]at h1
  rw[hy]at h2
  refine⟨.int k (if m<n then n else m),?_,by simp[Rd]⟩
  simp[execOp,h,resolve,invoke,builtin,Builtin.max_,Builtin.max2,h1.val,h2.val]
theorem Vh (n:Net) (hn:n.Fin) (hm1:n.Num) (s:GoM) (J D:Int) (hm0:MacOK n s.m J D) (hJ:J<900000000000) (hD0:0≤D) (hD:D≤900000000000) (hlen:s.out.length<1000000) (dom:Int) :
  Sy.Spec Tryz.prog 53 [Aa dom,.ptr 9 0,.ptr 5 0] (pkO n s) (.tup []) (pkN n (Wa n s dom)):=Ab Γ hm 100 F53 Tryz.ntmps53 rfl fun F hF=>by
 have hqo:=D5 hm0 dom
 have q1:=Ahm n s.m s.d dom hqo
 have q2:=Ajr n hn hm1 s J D hm0 hJ hD0 hD hlen (pickX s.m dom) (by show 0<100000;decide)
 rw[Wa]
 generalize doW n s (pickX s.m dom)=res at *
 have hpx:=pickX.eq_1 s.m dom
 have hql:(if Ak dom s.m.queues.length=true then queueL s.m dom else []).length<1000000:=by
  have:=hqo.1
  split
  ·omega
  ·simp
 generalize (if Ak dom s.m.queues.length=true then queueL s.m dom else [])=qs at *
 obtain ⟨v,hv⟩:∃ v:Int,(if (qs.length:Int)-1<0 then 0 else (qs.length:Int)-1)=v:=⟨_,rfl⟩
 rw[hv]at hpx
 generalize pickX s.m dom=px at *
 subst hpx
 refine T ?_
 refine Xe (Aj [] E F54 q1 E W E V) ?_
 refine Xd (Aiw hv E E E) ?_
 refine Xd (Ey [] [] (Cp E E F51) q2 (.cons (.agg (.cons (.refl _) (.cons (.refl _) (.cons (.refl _) (.cons (.refl _) (.cons .nil (.cons .nil .nil))))))) (.cons (.refl _) (.cons (.refl _) .nil))) W E V E) ?_
 exact Ba E .nil [] (pkN n res) (fun _ h=>h) E E U
end Go.Sy.YteinjapglfkamaaGreat
namespace Go.Sy.YteinjapglfkamaaGreat
open Go.Proofs
theorem Aak {n:Net} (hn:n.Fin) (hm1:n.Num) {s:GoM} {J D:Int} (h:MacOK n s.m J D) (hJ:0≤J) (hD:0≤D) (x:StepM):MacOK n (doW n s x).m (J+1) (D+4294967298)∧(doW n s x).out.length=s.out.length+1 :=
 ⟨doT_ok hn hm1 h hJ hD x,by simp[doW]⟩
theorem Alg {n:Net} (hn:n.Fin) (hm1:n.Num) {s:GoM} {J D:Int} (h:MacOK n s.m J D) (hJ:0≤J) (hD:0≤D) (x:Hop):MacOK n (linkW n s x).m (J+1) (D+4294967298)∧(linkW n s x).out.length≤s.out.length+1:=by
 unfold linkW
 split
 ·have:=Aak hn hm1 h hJ hD ⟨5,0,0,0,[],upW n x⟩
  exact⟨this.1,by omega⟩
 ·exact⟨h.mono qn qn,by omega⟩
theorem Alx {n:Net} (hn:n.Fin) (hm1:n.Num) (from_:Int) (l:List Hop):∀ k:Nat,MacOK n (goW n from_ l k).m (1+2 * k) ((1+2 * k) * 4294967298)∧(goW n from_ l k).out.length≤1+2 * k
 | 0=>by
  have:=Aak hn hm1 (s:=⟨newT n,false,[]⟩) (Ago n) (Int.le_refl _) (Int.le_refl _) (injectW n from_ l)
  rw[goW]
  exact⟨this.1.mono qn qn,by rw[this.2];simp⟩
 | k+1=>by
  obtain ⟨h1,h2⟩:=Alx hn hm1 from_ l k
  rw[goW]
  have h3:=Alg hn hm1 h1 qn qn (nth l ((k+1:Nat):Int))
  have h4:=Aak hn hm1 h3.1 qn qn (pickX (linkW n (goW n from_ l k) (nth l ((k+1:Nat):Int))).m (nth l ((k:Nat):Int)).domain)
  refine⟨h4.1.mono qn qn,?_⟩
  have h5:=h4.2
  unfold Wa
  omega
theorem Acs {n:Net} (hu:Ei n) (hb:Af n=true) (from_:Int) {l:List Hop} (h0:0<l.length) (hla:∀ h∈l,S6 n h):(injectW n from_ l).bytes.length<100000:=by
 have hk0:(0:Int).toNat<l.length:=h0
 have hd:=hla _ (List.getElem_mem hk0)
 have hv:=O9 hb hd.1.2
 show (if _ then _ else _:List UInt8).length<100000
 rw[Am hk0,Am hd.1.2]
 obtain ⟨ve,hve⟩:∃ v:Nat,(n.domains[(l[(0:Int).toNat]'hk0).domain.toNat]'hd.1.2).vlan=v:=⟨_,(Int.toNat_of_nonneg qn).symm⟩
 rw[hve]
 split
 ·rw[Ew]
  have:=(Aba (Ye (wayBytes n l).1) ve qn).body
  omega
 ·have:=Qg (n:=n) hu l
  omega
attribute [local irreducible] Go.Sy.G Go.Sy.DR
set_option maxRecDepth 100000
set_option maxHeartbeats 8000000
theorem Vg (n:Net) (hn:n.Fin) (hm1:n.Num) (hu:Ei n) (from_ to:Int) :
  Sy.Spec Tryz.prog 16 [Ap n,Aa from_,Aa to] [] (.tup [.sl 6 Dx (wscriptT n from_ to).1,Aa (wscriptT n from_ to).2]) []:=Ab Γ hm 100 F16 Tryz.ntmps16 rfl fun F hF=>by
 have hlk:=wscriptT.eq_1 n from_ to
 generalize wscriptT n from_ to=res at *
 have h1:=Qf n from_
 have h2:=Qf n to
 have hls:=hn.links
 unfold An at hls
 conv=>whnf
 refine Be 3 8 (Ap n) E E E ?_
 refine T ?_
 refine C h1 F22 ?_
 cases hf:I5 n from_
 ·rw[if_neg (fun x=>by rw[hf]at x;cases x.1)]at hlk
  subst hlk
  refine T ?_
  refine Ao 6 6 Dx E ?_
  exact D
 refine T ?_
 refine C h2 F22 ?_
 cases ht:I5 n to
 ·rw[if_neg (fun x=>by rw[ht]at x;cases x.2.1)]at hlk
  subst hlk
  refine T ?_
  refine Ao 6 6 Dx E ?_
  exact D
 refine T ?_
 refine⟨fun h=>?_,fun h=>?_⟩
 ·rw[if_neg (fun x=>x.2.2.1 (by simpa using h))]at hlk
  subst hlk
  refine T ?_
  refine Ao 6 6 Dx E ?_
  exact D
 have hne:from_≠to:=by simpa using h
 clear h
 refine T ?_
 cases hok:okB n (upsT n)
 ·rw[if_neg (fun x=>by rw[hok]at x;cases x.2.2.2)]at hlk
  subst hlk
  refine C (Aeb n hn hok) F50 ?_
  refine Ao 6 6 Dx E ?_
  exact D
 rw[if_pos ⟨hf,ht,hne,hok⟩]at hlk
 refine X (Aj [(0,800),(1,801),(2,802),(3,803)] E F50 (Am6 n hn hok) E Y E V) ?_
 have q2:=wayS n hn hu from_ to
 have hfac:=@wayT_facts n hu from_ to
 have hlnk:=@way_links n from_ to
 have hsh:An (wayT n from_ to).1∨True:=.inr trivial
 generalize wayT n from_ to=wr at *
 obtain ⟨l,ok⟩:=wr
 cases ok
 ·rw[if_neg qy]at hlk
  subst hlk
  refine C q2 F9 ?_
  refine Ao 6 6 Dx E ?_
  exact D
 rw[if_pos rfl]at hlk
 obtain ⟨hla,hlen,hlne,hb⟩:=hfac rfl
 have hlk2:=hlnk rfl
 clear hfac hlnk hsh
 dsimp only at *
 have hfe:=Aok hb
 have h0:0<l.length:=List.length_pos_iff.2 hlne
 have hsl:An l:=by unfold An;omega
 have hp:=Sf hf
 have q3:=Ad3 n hn hu hb from_ hp l hsl hla h0
 have q4:=Amu n hn hm1 (newT n) false 0 0 (Ago n) qn qn qn (injectW n from_ l) (Acs hu hb from_ h0 hla)
 rw[show doW n ⟨newT n,false,[]⟩ (injectW n from_ l)=goW n from_ l 0 from rfl]at q4
 refine C q2 F9 ?_
 refine C q3 F55 ?_
 refine Xd (Ca [(0,800),(1,801),(2,802),(3,803),(4,804),(5,8),(6,12),(8,805)] (Cp E E F51) q4 E W E V) ?_
 have hdl:(l.drop 1).length=l.length-1:=by simp
 refine X (Oj (lo:=1) (hi:=l.length) Γ.toTy (l.drop 1) E E E E (.inr ⟨_,_,E,E⟩) (.inl ⟨E,E⟩) qn (Nat.le_refl _) (by rw[List.take_length])) ?_
 clear q2 q3 q4
 refine A3 (l.drop 1).length (fun j=>[(3,.ref 8 (Ap n) 0),(10,.sl 4 Bp l),(12,.ptr 6 0),(13,.ptr 9 0),(14,.clo (.func 53) [] [.ptr 9 0,.ptr 5 0]),(58,.sl 4 Bp (l.drop 1)),(59,Aa (l.drop 1).length),(60,Aa j)]) (fun j=>pkO n (goW n from_ l j))
  [(0,800),(1,804),(2,802),(3,803),(5,8),(6,12),(7,805),(9,13)] U ?_
 intro j hj
 obtain ⟨hm0,hol⟩:=Alx hn hm1 from_ l j
 refine T ?_
 refine⟨fun h=>?_,fun h=>?_⟩
 ·have hlt:j<(l.drop 1).length:=by have:=of_decide_eq_true h;omega
  have hj0:((j:Nat):Int).toNat<(l.drop 1).length:=by simpa using hlt
  have hk1:((j+1:Nat):Int).toNat<l.length:=by omega
  have hk0:((j:Nat):Int).toNat<l.length:=by omega
  have hgs:goW n from_ l (j+1)=Wa n (linkW n (goW n from_ l j) (l[((j+1:Nat):Int).toNat]'hk1)) (l[((j:Nat):Int).toNat]'hk0).domain:=by rw[goW,Am hk1,Am hk0]
  have e1:(l.drop 1)[((j:Nat):Int).toNat]'hj0=l[((j+1:Nat):Int).toNat]'hk1:=by
   rw[List.getElem_drop]
   congr 1
   omega
  have hxl:=hlk2 _ (List.getElem_mem hk1)
  generalize l[((j+1:Nat):Int).toNat]'hk1=x at *
  generalize goW n from_ l j=s at *
  have hgl:=linkW.eq_1 n s x
  clear h
  refine S ?_
  refine⟨E,by omega,hj0,?_⟩
  rw[e1]
  refine T ?_
  refine⟨fun h=>?_,fun h=>?_⟩
  ·have hk:x.kind=1:=by simpa using h
   rw[if_pos hk]at hgl
   obtain ⟨hp1,hl0,hl1⟩:=hxl hk
   have hup:=upW.eq_1 n x
   rw[Am hp1.2]at hl0 hl1 hup
   have q6:=Ajr n hn hm1 s _ _ hm0 qn qn qn qn ⟨5,0,0,0,[],upW n x⟩ (by show 0<100000;decide)
   obtain ⟨hm2,hol2⟩:=Aak hn hm1 hm0 qn qn ⟨5,0,0,0,[],upW n x⟩
   rw[← hgl]at q6 hm2 hol2
   rw[hup]at q6
   clear hgl hup
   generalize linkW n s x=s1 at *
   have q7:=Vh n hn hm1 s1 _ _ hm2 qn qn qn qn (l[((j:Nat):Int).toNat]'hk0).domain
   rw[← hgs]at q7
   clear h
   refine T ?_
   refine X (Bl Γ.toTy (d:=71) (n:=n.links.length) Ad false E E E E E E E E qn qn E E E) ?_
   refine⟨by rw[List.length_replicate];exact hl1,?_⟩
   conv=>whnf
   refine⟨E,(by rw[List.length_replicate];exact hl1),true,E,E,?_⟩
   refine T ?_
   refine At 71 E ?_
   refine X (Ey [(4,40),(8,41)] [] (Cp E E F51) q6 (.cons (.agg (.cons (.refl _) (.cons (.refl _) (.cons (.refl _) (.cons (.refl _) (.cons .nil (.cons (.refl _) .nil))))))) (.cons (.refl _) (.cons (.refl _) .nil))) W E V E) ?_
   refine X (Ca [(1,40),(7,41),(4,42),(8,43)] (Cp E E F53) q7 E W E V) ?_
   exact Av [(1,42),(7,43)] hlt U
  ·have hk:¬ x.kind=1:=by simpa using h
   rw[if_neg hk]at hgl
   rw[hgl]at hgs
   have q7:=Vh n hn hm1 s _ _ hm0 qn qn qn qn (l[((j:Nat):Int).toNat]'hk0).domain
   rw[← hgs]at q7
   clear h
   refine T ?_
   refine X (Ca [(4,42),(8,43)] (Cp E E F53) q7 E W E V) ?_
   exact Av [(1,42),(7,43)] hlt U
 ·have hjj:j=(l.drop 1).length:=by have:=of_decide_eq_false h;omega
  subst hjj
  have hkl:((l.length:Int)-1).toNat<l.length:=by omega
  have hend:Anz n from_ l=Wa n (goW n from_ l (l.drop 1).length) (l[((l.length:Int)-1).toNat]'hkl).domain:=by rw[Anz,Am hkl,hdl]
  have q7:=Vh n hn hm1 _ _ _ hm0 qn qn qn qn (l[((l.length:Int)-1).toNat]'hkl).domain
  rw[← hend]at q7
  clear hend
  generalize Anz n from_ l=s2 at *
  generalize goW n from_ l (l.drop 1).length=s at *
  subst hlk
  clear h
  refine T ?_
  refine X (Ca [(4,42),(8,43)] (Cp E E F53) q7 E W E V) ?_
  refine At 43 E ?_
  exact D
end Go.Sy.YteinjapglfkamaaGreat
namespace Go.Sy
open Go.ChangeShapes Go.WideShapes Go.ChangeAt Go.RowKit
section
variable {H:Type} (enc:TypeId × Value→H) (P:Program) (W:World)
def Op1 (t:TypeId) {α:Type} (e:α→SV) (p:α→Prop):Prop :=
 ∀ n c y,DataW.trod enc P W 0 (fun _=>true) true n t [c]=some y→∃ x,p x∧Rd κ0 W (e x) c∧c.oneCell'=true
def OpN (t:TypeId) {α:Type} (e:α→SV) (p:α→Prop) (sz:Nat):Prop :=
 ∀ n cs y,DataW.trod enc P W 0 (fun _=>true) true n t cs=some y→∃ x,p x∧cs.length=sz∧Ones cs∧RdL κ0 W (cellsOf (e x)) cs
variable {enc P W}
theorem B3 {t:TypeId} {k:IntKind} (ht:P.underlying t=some (.int k)):Op1 enc P W t (fun z=>.val (.int k z)) (fun z=>(Lit.int k z).wf=true):=fun n c y h=>by
 obtain ⟨z,e,_,hw⟩:=DataW.trod_int ht h
 have e:c=.int k z:=by simpa using e
 subst e
 exact⟨z,hw,by simp[Rd],E⟩
theorem Aew {t:TypeId} (ht:P.underlying t=some .string):Op1 enc P W t Yg (fun s=>s.size≤maxLen):=fun n c y h=>by
 obtain ⟨z,e,_,hw⟩:=DataW.trod_string ht h
 have e:c=.string z:=by simpa using e
 subst e
 exact⟨z,hw,by simp[Yg,Rd],E⟩
theorem Agn {t:TypeId} {k:IntKind} (ht:P.underlying t=some (.int k)):OpN enc P W t (fun z=>.val (.int k z)) (fun z=>(Lit.int k z).wf=true) 1:=fun n cs y h=>by
 obtain ⟨z,rfl,_,hw⟩:=DataW.trod_int ht h
 refine⟨z,hw,E,fun c hc=>by simp at hc;subst hc;rfl,?_⟩
 simp[cellsOf,RdL,Rd]
theorem Y9 {base:Nat} {a:Addr} {n:Nat} {cs:List Value} (h:W.cells? base a n=some cs):cs.length=n∧∀ j (_:j<n),W.cell? (a.add j)=cs[j]?:=by
 unfold World.cells? at h
 split at h
 ·refine⟨by simpa using mapM_some_length h,fun j hj=>?_⟩
  exact mapM_some_get h j j (by simp[hj])
 ·cases h
theorem D1 {t et:TypeId} {α:Type} {e:α→SV} {p:α→Prop} {sz:Nat} (ht:P.underlying t=some (.slice et)) (hsz:P.cellsOf et=sz) (h0:0<sz) (hb:∀ x,(e x).boxed=true) (hd:∀ x,(e x).data=true) (hO:OpN enc P W et e p sz) :
  Op1 enc P W t (fun l:List α=>.sl sz e l) (fun l=>(∀ x∈l,p x)∧l.length≤maxLen):=fun n c y h=>by
 rcases DataW.trod_slice ht h with ⟨hcs,_⟩ | ⟨a,len,cap,elems,rest,m,rfl,hcs,_,_,hlc,hcm,hel,hget,_⟩
 ·have hc:c=.slice none 0 0:=by simpa using hcs
  subst hc
  refine⟨[],⟨by simp,Nat.zero_le _⟩,?_,E⟩
  simp only[Rd,RdD]
  exact .inl ⟨Y,none,0,E⟩
 ·have hc:c=.slice (some a) len cap:=by simpa using hcs
  subst hc
  rw[hsz]at hget
  have hall:∀ i:Fin len,∃ x,p x∧∃ cs,W.cells? 0 (a.add (i * sz)) sz=some cs∧cs.length=sz∧Ones cs∧RdL κ0 W (cellsOf (e x)) cs:=fun i=>by
   have h1:=hget i.1 i.2
   rw[List.getElem?_eq_getElem qn]at h1
   obtain ⟨cs,h2,h3⟩:=Option.bind_eq_some_iff.1 h1
   obtain ⟨x,h4,h5,h6,h7⟩:=hO _ _ _ h3
   exact⟨x,h4,cs,h2,h5,h6,h7⟩
  let xs:Fin len→α:=fun i=>Classical.choose (hall i)
  have hxs:∀ i,p (xs i)∧∃ cs,W.cells? 0 (a.add (i.1 * sz)) sz=some cs∧cs.length=sz∧Ones cs∧RdL κ0 W (cellsOf (e (xs i))) cs:=fun i=>Classical.choose_spec (hall i)
  refine⟨List.ofFn xs,⟨fun x hx=>?_,by simp;omega⟩,?_,E⟩
  ·obtain ⟨i,rfl⟩:=List.mem_ofFn.1 hx
   exact(hxs i).1
  ·simp only[Rd,RdD]
   by_cases hl:len=0
   ·subst hl
    exact .inl ⟨by simp,_,_,E⟩
   ·have hcell:∀ i:Fin len,∀ j,j<sz→∃ v,W.cell? ((a.add (i.1 * sz)).add j)=some v:=fun i j hj=>by
     obtain ⟨_,cs,h1,h2,_⟩:=hxs i
     have:=(Y9 h1).2 j hj
     rw[List.getElem?_eq_getElem qn]at this
     exact⟨_,this⟩
    obtain ⟨b,off,spot⟩:=a
    have hspot:spot=none:=by
     obtain ⟨v,hv⟩:=hcell ⟨0,by omega⟩ 0 h0
     simpa [Addr.add] using World.cell?_spot hv
    subst hspot
    have hadd:∀ i j,((⟨b,off,none⟩:Addr).add i).add j=⟨b,off+i+j,none⟩:=fun i j=>by rw[Addr.add_lit,Addr.add_lit]
    refine .inr ⟨b,off,cap,by simp,by simpa using hlc,?_,?_,fun i hi=>?_⟩
    ·rintro (⟨k,hk⟩ | hk)
     ·cases hk
     ·exact hk
    ·obtain ⟨v,hv⟩:=hcell ⟨0,by omega⟩ 0 h0
     rw[hadd]at hv
     rcases Nat.lt_or_ge b W.heap.size with h | h
     ·exact h
     ·simp[World.cell?,Array.getElem?_eq_none h]at hv
    ·simp only[List.length_ofFn]at hi
     obtain ⟨_,cs,h1,h2,h3,h4⟩:=hxs ⟨i,hi⟩
     obtain ⟨u,g1,g2⟩:=Rd.of_cells (hb _) h3 h4
     refine⟨u,?_,?_,by rw[g2];exact h3,fun j hj=>?_⟩
     ·rw[List.getElem_ofFn]
      exact Rd.data _ _ (hd _) g1
     ·have:u.cells.toList.length=sz:=by rw[g2,h2]
      simpa using this
     ·have:=(Y9 h1).2 j hj
      rw[hadd]at this
      rw[this,← g2]
      simp
end
end Go.Sy
namespace Go.Sy.YteinjapglfkamaaGreat
open Go.Proofs Go.ChangeShapes Go.WideShapes Go.ChangeAt Go.RowKit
set_option maxRecDepth 100000
section
variable {H:Type} {enc:TypeId × Value→H} {W:World}
def wI (k:IntKind) (z:Int):Prop:=(Lit.int k z).wf=true
theorem U4:Op1 enc Tryz.prog W 56 (fun l:List Int=>.sl 1 (fun z=>.val (.int .i64 z)) l) (fun l=>(∀ z∈l,wI .i64 z)∧l.length≤maxLen) :=
 D1 Tryz.underlying56 (by kernel_rfl:Tryz.prog.cellsOf 3=1) qx (fun _=>rfl) (fun _=>rfl) (Agn Tryz.underlying3)
theorem And:Op1 enc Tryz.prog W 70 (fun l:List Int=>.sl 1 (fun z=>.val (.int .u32 z)) l) (fun l=>(∀ z∈l,wI .u32 z)∧l.length≤maxLen) :=
 D1 Tryz.underlying70 (by kernel_rfl:Tryz.prog.cellsOf 75=1) qx (fun _=>rfl) (fun _=>rfl) (Agn Tryz.underlying75)
def Device.In (x:Device):Prop:=wI .i64 x.row∧wI .i64 x.prio∧x.name.size≤maxLen∧wI .u64 x.mac∧wI .u32 x.vtep
theorem Aez:OpN enc Tryz.prog W 77 Bj Device.In 5:=fun n cs y h=>by
 obtain ⟨xs,m,_,_,hlen,hx,hg⟩:=DataW.trod_struct Tryz.underlying77 h
 have hlen:cs.length=5:=hlen.trans (by kernel_rfl:Tryz.prog.cellsOf 77=5)
 have hx:xs.length=5:=hx
 match cs,hlen with
 | [c0,c1,c2,c3,c4],_ =>
  have g0:DataW.trod enc Tryz.prog W 0 (fun _=>true) true m 3 (([c0,c1,c2,c3,c4].drop 0).take (Tryz.prog.cellsOf 3))=xs[0]?:=hg 0 _ rfl
  rw[(by kernel_rfl:Tryz.prog.cellsOf 3=1),List.getElem?_eq_getElem qn]at g0
  obtain ⟨z0,p0,r0,o0⟩:=B3 Tryz.underlying3 _ _ _ g0
  have g1:DataW.trod enc Tryz.prog W 0 (fun _=>true) true m 3 (([c0,c1,c2,c3,c4].drop 1).take (Tryz.prog.cellsOf 3))=xs[1]?:=hg 1 _ rfl
  rw[(by kernel_rfl:Tryz.prog.cellsOf 3=1),List.getElem?_eq_getElem qn]at g1
  obtain ⟨z1,p1,r1,o1⟩:=B3 Tryz.underlying3 _ _ _ g1
  have g2:DataW.trod enc Tryz.prog W 0 (fun _=>true) true m 9 (([c0,c1,c2,c3,c4].drop 2).take (Tryz.prog.cellsOf 9))=xs[2]?:=hg 2 _ rfl
  rw[(by kernel_rfl:Tryz.prog.cellsOf 9=1),List.getElem?_eq_getElem qn]at g2
  obtain ⟨z2,p2,r2,o2⟩:=Aew Tryz.underlying9 _ _ _ g2
  have g3:DataW.trod enc Tryz.prog W 0 (fun _=>true) true m 57 (([c0,c1,c2,c3,c4].drop 3).take (Tryz.prog.cellsOf 57))=xs[3]?:=hg 3 _ rfl
  rw[(by kernel_rfl:Tryz.prog.cellsOf 57=1),List.getElem?_eq_getElem qn]at g3
  obtain ⟨z3,p3,r3,o3⟩:=B3 Tryz.underlying57 _ _ _ g3
  have g4:DataW.trod enc Tryz.prog W 0 (fun _=>true) true m 75 (([c0,c1,c2,c3,c4].drop 4).take (Tryz.prog.cellsOf 75))=xs[4]?:=hg 4 _ rfl
  rw[(by kernel_rfl:Tryz.prog.cellsOf 75=1),List.getElem?_eq_getElem qn]at g4
  obtain ⟨z4,p4,r4,o4⟩:=B3 Tryz.underlying75 _ _ _ g4
  refine⟨⟨z0,z1,z2,z3,z4⟩,⟨p0,p1,p2,p3,p4⟩,E,fun c hc=>?_,?_⟩
  ·simp only[List.mem_cons,List.not_mem_nil,or_false]at hc
   rcases hc with rfl | rfl | rfl | rfl | rfl<;>assumption
  ·simp only[Bj,cellsOf,RdL]
   exact⟨_,_,E,r0,_,_,E,r1,_,_,E,r2,_,_,E,r3,_,_,E,r4,E⟩
def Port.In (x:Port):Prop:=wI .i64 x.row∧wI .i64 x.dev∧wI .i64 x.native∧wI .i64 x.cost∧wI .i64 x.link∧x.name.size≤maxLen∧((∀ z∈x.tagged,wI .i64 z)∧x.tagged.length≤maxLen)
theorem Ak3:OpN enc Tryz.prog W 67 A6 Port.In 7:=fun n cs y h=>by
 obtain ⟨xs,m,_,_,hlen,hx,hg⟩:=DataW.trod_struct Tryz.underlying67 h
 have hlen:cs.length=7:=hlen.trans (by kernel_rfl:Tryz.prog.cellsOf 67=7)
 have hx:xs.length=7:=hx
 match cs,hlen with
 | [c0,c1,c2,c3,c4,c5,c6],_ =>
  have g0:DataW.trod enc Tryz.prog W 0 (fun _=>true) true m 3 (([c0,c1,c2,c3,c4,c5,c6].drop 0).take (Tryz.prog.cellsOf 3))=xs[0]?:=hg 0 _ rfl
  rw[(by kernel_rfl:Tryz.prog.cellsOf 3=1),List.getElem?_eq_getElem qn]at g0
  obtain ⟨z0,p0,r0,o0⟩:=B3 Tryz.underlying3 _ _ _ g0
  have g1:DataW.trod enc Tryz.prog W 0 (fun _=>true) true m 3 (([c0,c1,c2,c3,c4,c5,c6].drop 1).take (Tryz.prog.cellsOf 3))=xs[1]?:=hg 1 _ rfl
  rw[(by kernel_rfl:Tryz.prog.cellsOf 3=1),List.getElem?_eq_getElem qn]at g1
  obtain ⟨z1,p1,r1,o1⟩:=B3 Tryz.underlying3 _ _ _ g1
  have g2:DataW.trod enc Tryz.prog W 0 (fun _=>true) true m 3 (([c0,c1,c2,c3,c4,c5,c6].drop 2).take (Tryz.prog.cellsOf 3))=xs[2]?:=hg 2 _ rfl
  rw[(by kernel_rfl:Tryz.prog.cellsOf 3=1),List.getElem?_eq_getElem qn]at g2
  obtain ⟨z2,p2,r2,o2⟩:=B3 Tryz.underlying3 _ _ _ g2
  have g3:DataW.trod enc Tryz.prog W 0 (fun _=>true) true m 3 (([c0,c1,c2,c3,c4,c5,c6].drop 3).take (Tryz.prog.cellsOf 3))=xs[3]?:=hg 3 _ rfl
  rw[(by kernel_rfl:Tryz.prog.cellsOf 3=1),List.getElem?_eq_getElem qn]at g3
  obtain ⟨z3,p3,r3,o3⟩:=B3 Tryz.underlying3 _ _ _ g3
  have g4:DataW.trod enc Tryz.prog W 0 (fun _=>true) true m 3 (([c0,c1,c2,c3,c4,c5,c6].drop 4).take (Tryz.prog.cellsOf 3))=xs[4]?:=hg 4 _ rfl
  rw[(by kernel_rfl:Tryz.prog.cellsOf 3=1),List.getElem?_eq_getElem qn]at g4
  obtain ⟨z4,p4,r4,o4⟩:=B3 Tryz.underlying3 _ _ _ g4
  have g5:DataW.trod enc Tryz.prog W 0 (fun _=>true) true m 9 (([c0,c1,c2,c3,c4,c5,c6].drop 5).take (Tryz.prog.cellsOf 9))=xs[5]?:=hg 5 _ rfl
  rw[(by kernel_rfl:Tryz.prog.cellsOf 9=1),List.getElem?_eq_getElem qn]at g5
  obtain ⟨z5,p5,r5,o5⟩:=Aew Tryz.underlying9 _ _ _ g5
  have g6:DataW.trod enc Tryz.prog W 0 (fun _=>true) true m 56 (([c0,c1,c2,c3,c4,c5,c6].drop 6).take (Tryz.prog.cellsOf 56))=xs[6]?:=hg 6 _ rfl
  rw[(by kernel_rfl:Tryz.prog.cellsOf 56=1),List.getElem?_eq_getElem qn]at g6
  obtain ⟨z6,p6,r6,o6⟩:=U4 _ _ _ g6
  refine⟨⟨z0,z1,z2,z3,z4,z5,z6⟩,⟨p0,p1,p2,p3,p4,p5,p6⟩,E,fun c hc=>?_,?_⟩
  ·simp only[List.mem_cons,List.not_mem_nil,or_false]at hc
   rcases hc with rfl | rfl | rfl | rfl | rfl | rfl | rfl<;>assumption
  ·simp only[A6,cellsOf,RdL]
   exact⟨_,_,E,r0,_,_,E,r1,_,_,E,r2,_,_,E,r3,_,_,E,r4,_,_,E,r5,_,_,E,r6,E⟩
def Link.In (x:Link):Prop:=wI .i64 x.row∧wI .i64 x.a∧wI .i64 x.b
theorem Ak4:OpN enc Tryz.prog W 167 Ce Link.In 3:=fun n cs y h=>by
 obtain ⟨xs,m,_,_,hlen,hx,hg⟩:=DataW.trod_struct Tryz.underlying167 h
 have hlen:cs.length=3:=hlen.trans (by kernel_rfl:Tryz.prog.cellsOf 167=3)
 have hx:xs.length=3:=hx
 match cs,hlen with
 | [c0,c1,c2],_ =>
  have g0:DataW.trod enc Tryz.prog W 0 (fun _=>true) true m 3 (([c0,c1,c2].drop 0).take (Tryz.prog.cellsOf 3))=xs[0]?:=hg 0 _ rfl
  rw[(by kernel_rfl:Tryz.prog.cellsOf 3=1),List.getElem?_eq_getElem qn]at g0
  obtain ⟨z0,p0,r0,o0⟩:=B3 Tryz.underlying3 _ _ _ g0
  have g1:DataW.trod enc Tryz.prog W 0 (fun _=>true) true m 3 (([c0,c1,c2].drop 1).take (Tryz.prog.cellsOf 3))=xs[1]?:=hg 1 _ rfl
  rw[(by kernel_rfl:Tryz.prog.cellsOf 3=1),List.getElem?_eq_getElem qn]at g1
  obtain ⟨z1,p1,r1,o1⟩:=B3 Tryz.underlying3 _ _ _ g1
  have g2:DataW.trod enc Tryz.prog W 0 (fun _=>true) true m 3 (([c0,c1,c2].drop 2).take (Tryz.prog.cellsOf 3))=xs[2]?:=hg 2 _ rfl
  rw[(by kernel_rfl:Tryz.prog.cellsOf 3=1),List.getElem?_eq_getElem qn]at g2
  obtain ⟨z2,p2,r2,o2⟩:=B3 Tryz.underlying3 _ _ _ g2
  refine⟨⟨z0,z1,z2⟩,⟨p0,p1,p2⟩,E,fun c hc=>?_,?_⟩
  ·simp only[List.mem_cons,List.not_mem_nil,or_false]at hc
   rcases hc with rfl | rfl | rfl<;>assumption
  ·simp only[Ce,cellsOf,RdL]
   exact⟨_,_,E,r0,_,_,E,r1,_,_,E,r2,E⟩
def Domain.In (x:Domain):Prop:=wI .i64 x.dev∧wI .i64 x.vlan∧wI .i64 x.vni∧wI .i64 x.irb∧wI .i64 x.row∧((∀ z∈x.peers,wI .i64 z)∧x.peers.length≤maxLen)
theorem Aey:OpN enc Tryz.prog W 69 Ar Domain.In 6:=fun n cs y h=>by
 obtain ⟨xs,m,_,_,hlen,hx,hg⟩:=DataW.trod_struct Tryz.underlying69 h
 have hlen:cs.length=6:=hlen.trans (by kernel_rfl:Tryz.prog.cellsOf 69=6)
 have hx:xs.length=6:=hx
 match cs,hlen with
 | [c0,c1,c2,c3,c4,c5],_ =>
  have g0:DataW.trod enc Tryz.prog W 0 (fun _=>true) true m 3 (([c0,c1,c2,c3,c4,c5].drop 0).take (Tryz.prog.cellsOf 3))=xs[0]?:=hg 0 _ rfl
  rw[(by kernel_rfl:Tryz.prog.cellsOf 3=1),List.getElem?_eq_getElem qn]at g0
  obtain ⟨z0,p0,r0,o0⟩:=B3 Tryz.underlying3 _ _ _ g0
  have g1:DataW.trod enc Tryz.prog W 0 (fun _=>true) true m 3 (([c0,c1,c2,c3,c4,c5].drop 1).take (Tryz.prog.cellsOf 3))=xs[1]?:=hg 1 _ rfl
  rw[(by kernel_rfl:Tryz.prog.cellsOf 3=1),List.getElem?_eq_getElem qn]at g1
  obtain ⟨z1,p1,r1,o1⟩:=B3 Tryz.underlying3 _ _ _ g1
  have g2:DataW.trod enc Tryz.prog W 0 (fun _=>true) true m 3 (([c0,c1,c2,c3,c4,c5].drop 2).take (Tryz.prog.cellsOf 3))=xs[2]?:=hg 2 _ rfl
  rw[(by kernel_rfl:Tryz.prog.cellsOf 3=1),List.getElem?_eq_getElem qn]at g2
  obtain ⟨z2,p2,r2,o2⟩:=B3 Tryz.underlying3 _ _ _ g2
  have g3:DataW.trod enc Tryz.prog W 0 (fun _=>true) true m 3 (([c0,c1,c2,c3,c4,c5].drop 3).take (Tryz.prog.cellsOf 3))=xs[3]?:=hg 3 _ rfl
  rw[(by kernel_rfl:Tryz.prog.cellsOf 3=1),List.getElem?_eq_getElem qn]at g3
  obtain ⟨z3,p3,r3,o3⟩:=B3 Tryz.underlying3 _ _ _ g3
  have g4:DataW.trod enc Tryz.prog W 0 (fun _=>true) true m 3 (([c0,c1,c2,c3,c4,c5].drop 4).take (Tryz.prog.cellsOf 3))=xs[4]?:=hg 4 _ rfl
  rw[(by kernel_rfl:Tryz.prog.cellsOf 3=1),List.getElem?_eq_getElem qn]at g4
  obtain ⟨z4,p4,r4,o4⟩:=B3 Tryz.underlying3 _ _ _ g4
  have g5:DataW.trod enc Tryz.prog W 0 (fun _=>true) true m 56 (([c0,c1,c2,c3,c4,c5].drop 5).take (Tryz.prog.cellsOf 56))=xs[5]?:=hg 5 _ rfl
  rw[(by kernel_rfl:Tryz.prog.cellsOf 56=1),List.getElem?_eq_getElem qn]at g5
  obtain ⟨z5,p5,r5,o5⟩:=U4 _ _ _ g5
  refine⟨⟨z0,z1,z2,z3,z4,z5⟩,⟨p0,p1,p2,p3,p4,p5⟩,E,fun c hc=>?_,?_⟩
  ·simp only[List.mem_cons,List.not_mem_nil,or_false]at hc
   rcases hc with rfl | rfl | rfl | rfl | rfl | rfl<;>assumption
  ·simp only[Ar,cellsOf,RdL]
   exact⟨_,_,E,r0,_,_,E,r1,_,_,E,r2,_,_,E,r3,_,_,E,r4,_,_,E,r5,E⟩
def Static.In (x:Static):Prop:=wI .i64 x.row∧wI .i64 x.domain∧wI .i64 x.port∧wI .u64 x.mac
theorem Aex:OpN enc Tryz.prog W 171 Bh Static.In 4:=fun n cs y h=>by
 obtain ⟨xs,m,_,_,hlen,hx,hg⟩:=DataW.trod_struct Tryz.underlying171 h
 have hlen:cs.length=4:=hlen.trans (by kernel_rfl:Tryz.prog.cellsOf 171=4)
 have hx:xs.length=4:=hx
 match cs,hlen with
 | [c0,c1,c2,c3],_ =>
  have g0:DataW.trod enc Tryz.prog W 0 (fun _=>true) true m 3 (([c0,c1,c2,c3].drop 0).take (Tryz.prog.cellsOf 3))=xs[0]?:=hg 0 _ rfl
  rw[(by kernel_rfl:Tryz.prog.cellsOf 3=1),List.getElem?_eq_getElem qn]at g0
  obtain ⟨z0,p0,r0,o0⟩:=B3 Tryz.underlying3 _ _ _ g0
  have g1:DataW.trod enc Tryz.prog W 0 (fun _=>true) true m 3 (([c0,c1,c2,c3].drop 1).take (Tryz.prog.cellsOf 3))=xs[1]?:=hg 1 _ rfl
  rw[(by kernel_rfl:Tryz.prog.cellsOf 3=1),List.getElem?_eq_getElem qn]at g1
  obtain ⟨z1,p1,r1,o1⟩:=B3 Tryz.underlying3 _ _ _ g1
  have g2:DataW.trod enc Tryz.prog W 0 (fun _=>true) true m 3 (([c0,c1,c2,c3].drop 2).take (Tryz.prog.cellsOf 3))=xs[2]?:=hg 2 _ rfl
  rw[(by kernel_rfl:Tryz.prog.cellsOf 3=1),List.getElem?_eq_getElem qn]at g2
  obtain ⟨z2,p2,r2,o2⟩:=B3 Tryz.underlying3 _ _ _ g2
  have g3:DataW.trod enc Tryz.prog W 0 (fun _=>true) true m 57 (([c0,c1,c2,c3].drop 3).take (Tryz.prog.cellsOf 57))=xs[3]?:=hg 3 _ rfl
  rw[(by kernel_rfl:Tryz.prog.cellsOf 57=1),List.getElem?_eq_getElem qn]at g3
  obtain ⟨z3,p3,r3,o3⟩:=B3 Tryz.underlying57 _ _ _ g3
  refine⟨⟨z0,z1,z2,z3⟩,⟨p0,p1,p2,p3⟩,E,fun c hc=>?_,?_⟩
  ·simp only[List.mem_cons,List.not_mem_nil,or_false]at hc
   rcases hc with rfl | rfl | rfl | rfl<;>assumption
  ·simp only[Bh,cellsOf,RdL]
   exact⟨_,_,E,r0,_,_,E,r1,_,_,E,r2,_,_,E,r3,E⟩
def Flood.In (x:Flood):Prop:=wI .i64 x.row∧wI .i64 x.dev∧wI .i64 x.vni∧((∀ z∈x.addrs,wI .u32 z)∧x.addrs.length≤maxLen)
theorem Aid:OpN enc Tryz.prog W 72 Bv Flood.In 4:=fun n cs y h=>by
 obtain ⟨xs,m,_,_,hlen,hx,hg⟩:=DataW.trod_struct Tryz.underlying72 h
 have hlen:cs.length=4:=hlen.trans (by kernel_rfl:Tryz.prog.cellsOf 72=4)
 have hx:xs.length=4:=hx
 match cs,hlen with
 | [c0,c1,c2,c3],_ =>
  have g0:DataW.trod enc Tryz.prog W 0 (fun _=>true) true m 3 (([c0,c1,c2,c3].drop 0).take (Tryz.prog.cellsOf 3))=xs[0]?:=hg 0 _ rfl
  rw[(by kernel_rfl:Tryz.prog.cellsOf 3=1),List.getElem?_eq_getElem qn]at g0
  obtain ⟨z0,p0,r0,o0⟩:=B3 Tryz.underlying3 _ _ _ g0
  have g1:DataW.trod enc Tryz.prog W 0 (fun _=>true) true m 3 (([c0,c1,c2,c3].drop 1).take (Tryz.prog.cellsOf 3))=xs[1]?:=hg 1 _ rfl
  rw[(by kernel_rfl:Tryz.prog.cellsOf 3=1),List.getElem?_eq_getElem qn]at g1
  obtain ⟨z1,p1,r1,o1⟩:=B3 Tryz.underlying3 _ _ _ g1
  have g2:DataW.trod enc Tryz.prog W 0 (fun _=>true) true m 3 (([c0,c1,c2,c3].drop 2).take (Tryz.prog.cellsOf 3))=xs[2]?:=hg 2 _ rfl
  rw[(by kernel_rfl:Tryz.prog.cellsOf 3=1),List.getElem?_eq_getElem qn]at g2
  obtain ⟨z2,p2,r2,o2⟩:=B3 Tryz.underlying3 _ _ _ g2
  have g3:DataW.trod enc Tryz.prog W 0 (fun _=>true) true m 70 (([c0,c1,c2,c3].drop 3).take (Tryz.prog.cellsOf 70))=xs[3]?:=hg 3 _ rfl
  rw[(by kernel_rfl:Tryz.prog.cellsOf 70=1),List.getElem?_eq_getElem qn]at g3
  obtain ⟨z3,p3,r3,o3⟩:=And _ _ _ g3
  refine⟨⟨z0,z1,z2,z3⟩,⟨p0,p1,p2,p3⟩,E,fun c hc=>?_,?_⟩
  ·simp only[List.mem_cons,List.not_mem_nil,or_false]at hc
   rcases hc with rfl | rfl | rfl | rfl<;>assumption
  ·simp only[Bv,cellsOf,RdL]
   exact⟨_,_,E,r0,_,_,E,r1,_,_,E,r2,_,_,E,r3,E⟩
def Vrf.In (x:Vrf):Prop:=wI .i64 x.row∧wI .i64 x.dev∧x.name.size≤maxLen∧((∀ z∈x.imports,wI .i64 z)∧x.imports.length≤maxLen)∧((∀ z∈x.exports,wI .i64 z)∧x.exports.length≤maxLen)
theorem Ang:OpN enc Tryz.prog W 74 Cq Vrf.In 5:=fun n cs y h=>by
 obtain ⟨xs,m,_,_,hlen,hx,hg⟩:=DataW.trod_struct Tryz.underlying74 h
 have hlen:cs.length=5:=hlen.trans (by kernel_rfl:Tryz.prog.cellsOf 74=5)
 have hx:xs.length=5:=hx
 match cs,hlen with
 | [c0,c1,c2,c3,c4],_ =>
  have g0:DataW.trod enc Tryz.prog W 0 (fun _=>true) true m 3 (([c0,c1,c2,c3,c4].drop 0).take (Tryz.prog.cellsOf 3))=xs[0]?:=hg 0 _ rfl
  rw[(by kernel_rfl:Tryz.prog.cellsOf 3=1),List.getElem?_eq_getElem qn]at g0
  obtain ⟨z0,p0,r0,o0⟩:=B3 Tryz.underlying3 _ _ _ g0
  have g1:DataW.trod enc Tryz.prog W 0 (fun _=>true) true m 3 (([c0,c1,c2,c3,c4].drop 1).take (Tryz.prog.cellsOf 3))=xs[1]?:=hg 1 _ rfl
  rw[(by kernel_rfl:Tryz.prog.cellsOf 3=1),List.getElem?_eq_getElem qn]at g1
  obtain ⟨z1,p1,r1,o1⟩:=B3 Tryz.underlying3 _ _ _ g1
  have g2:DataW.trod enc Tryz.prog W 0 (fun _=>true) true m 9 (([c0,c1,c2,c3,c4].drop 2).take (Tryz.prog.cellsOf 9))=xs[2]?:=hg 2 _ rfl
  rw[(by kernel_rfl:Tryz.prog.cellsOf 9=1),List.getElem?_eq_getElem qn]at g2
  obtain ⟨z2,p2,r2,o2⟩:=Aew Tryz.underlying9 _ _ _ g2
  have g3:DataW.trod enc Tryz.prog W 0 (fun _=>true) true m 56 (([c0,c1,c2,c3,c4].drop 3).take (Tryz.prog.cellsOf 56))=xs[3]?:=hg 3 _ rfl
  rw[(by kernel_rfl:Tryz.prog.cellsOf 56=1),List.getElem?_eq_getElem qn]at g3
  obtain ⟨z3,p3,r3,o3⟩:=U4 _ _ _ g3
  have g4:DataW.trod enc Tryz.prog W 0 (fun _=>true) true m 56 (([c0,c1,c2,c3,c4].drop 4).take (Tryz.prog.cellsOf 56))=xs[4]?:=hg 4 _ rfl
  rw[(by kernel_rfl:Tryz.prog.cellsOf 56=1),List.getElem?_eq_getElem qn]at g4
  obtain ⟨z4,p4,r4,o4⟩:=U4 _ _ _ g4
  refine⟨⟨z0,z1,z2,z3,z4⟩,⟨p0,p1,p2,p3,p4⟩,E,fun c hc=>?_,?_⟩
  ·simp only[List.mem_cons,List.not_mem_nil,or_false]at hc
   rcases hc with rfl | rfl | rfl | rfl | rfl<;>assumption
  ·simp only[Cq,cellsOf,RdL]
   exact⟨_,_,E,r0,_,_,E,r1,_,_,E,r2,_,_,E,r3,_,_,E,r4,E⟩
def Irb.In (x:Irb):Prop:=wI .i64 x.row∧wI .i64 x.domain∧wI .i64 x.vrf∧wI .u32 x.addr∧wI .i64 x.bits
theorem Ani:OpN enc Tryz.prog W 119 Cd Irb.In 5:=fun n cs y h=>by
 obtain ⟨xs,m,_,_,hlen,hx,hg⟩:=DataW.trod_struct Tryz.underlying119 h
 have hlen:cs.length=5:=hlen.trans (by kernel_rfl:Tryz.prog.cellsOf 119=5)
 have hx:xs.length=4:=hx
 match cs,hlen with
 | [c0,c1,c2,c3,c4],_ =>
  have g0:DataW.trod enc Tryz.prog W 0 (fun _=>true) true m 3 (([c0,c1,c2,c3,c4].drop 0).take (Tryz.prog.cellsOf 3))=xs[0]?:=hg 0 _ rfl
  rw[(by kernel_rfl:Tryz.prog.cellsOf 3=1),List.getElem?_eq_getElem qn]at g0
  obtain ⟨z0,p0,r0,o0⟩:=B3 Tryz.underlying3 _ _ _ g0
  have g1:DataW.trod enc Tryz.prog W 0 (fun _=>true) true m 3 (([c0,c1,c2,c3,c4].drop 1).take (Tryz.prog.cellsOf 3))=xs[1]?:=hg 1 _ rfl
  rw[(by kernel_rfl:Tryz.prog.cellsOf 3=1),List.getElem?_eq_getElem qn]at g1
  obtain ⟨z1,p1,r1,o1⟩:=B3 Tryz.underlying3 _ _ _ g1
  have g2:DataW.trod enc Tryz.prog W 0 (fun _=>true) true m 3 (([c0,c1,c2,c3,c4].drop 2).take (Tryz.prog.cellsOf 3))=xs[2]?:=hg 2 _ rfl
  rw[(by kernel_rfl:Tryz.prog.cellsOf 3=1),List.getElem?_eq_getElem qn]at g2
  obtain ⟨z2,p2,r2,o2⟩:=B3 Tryz.underlying3 _ _ _ g2
  have g3:DataW.trod enc Tryz.prog W 0 (fun _=>true) true m 117 (([c0,c1,c2,c3,c4].drop 3).take (Tryz.prog.cellsOf 117))=xs[3]?:=hg 3 _ rfl
  rw[(by kernel_rfl:Tryz.prog.cellsOf 117=2),List.getElem?_eq_getElem qn]at g3
  obtain ⟨ys,m',_,_,_,hy,hg'⟩:=DataW.trod_struct Tryz.underlying117 g3
  have hy:ys.length=2:=hy
  have q0:DataW.trod enc Tryz.prog W 0 (fun _=>true) true m' 75 (([c3,c4].drop 0).take (Tryz.prog.cellsOf 75))=ys[0]?:=hg' 0 _ rfl
  have q1:DataW.trod enc Tryz.prog W 0 (fun _=>true) true m' 3 (([c3,c4].drop 1).take (Tryz.prog.cellsOf 3))=ys[1]?:=hg' 1 _ rfl
  rw[(by kernel_rfl:Tryz.prog.cellsOf 75=1),List.getElem?_eq_getElem qn]at q0
  rw[(by kernel_rfl:Tryz.prog.cellsOf 3=1),List.getElem?_eq_getElem qn]at q1
  obtain ⟨z3,p3,r3,o3⟩:=B3 Tryz.underlying75 _ _ _ q0
  obtain ⟨z4,p4,r4,o4⟩:=B3 Tryz.underlying3 _ _ _ q1
  refine⟨⟨z0,z1,z2,z3,z4⟩,⟨p0,p1,p2,p3,p4⟩,E,fun c hc=>?_,?_⟩
  ·simp only[List.mem_cons,List.not_mem_nil,or_false]at hc
   rcases hc with rfl | rfl | rfl | rfl | rfl<;>assumption
  ·simp only[Cd,cellsOf,RdL]
   exact⟨_,_,E,r0,_,_,E,r1,_,_,E,r2,_,_,E,r3,_,_,E,r4,E⟩
structure Net.In (n:Net):Prop where
 devices:(∀ x∈n.devices,Device.In x)∧n.devices.length≤maxLen
 ports:(∀ x∈n.ports,Port.In x)∧n.ports.length≤maxLen
 links:(∀ x∈n.links,Link.In x)∧n.links.length≤maxLen
 domains:(∀ x∈n.domains,Domain.In x)∧n.domains.length≤maxLen
 statics:(∀ x∈n.statics,Static.In x)∧n.statics.length≤maxLen
 floods:(∀ x∈n.floods,Flood.In x)∧n.floods.length≤maxLen
 vrfs:(∀ x∈n.vrfs,Vrf.In x)∧n.vrfs.length≤maxLen
 irbs:(∀ x∈n.irbs,Irb.In x)∧n.irbs.length≤maxLen
theorem Anh:OpN enc Tryz.prog W 31 Ap Net.In 8:=fun n cs y h=>by
 obtain ⟨xs,m,_,_,hlen,hx,hg⟩:=DataW.trod_struct Tryz.underlying31 h
 have hlen:cs.length=8:=hlen.trans (by kernel_rfl:Tryz.prog.cellsOf 31=8)
 have hx:xs.length=8:=hx
 match cs,hlen with
 | [c0,c1,c2,c3,c4,c5,c6,c7],_ =>
  have g0:DataW.trod enc Tryz.prog W 0 (fun _=>true) true m 22 (([c0,c1,c2,c3,c4,c5,c6,c7].drop 0).take (Tryz.prog.cellsOf 22))=xs[0]?:=hg 0 _ rfl
  rw[(by kernel_rfl:Tryz.prog.cellsOf 22=1),List.getElem?_eq_getElem qn]at g0
  obtain ⟨z0,p0,r0,o0⟩:=D1 Tryz.underlying22 (by kernel_rfl:Tryz.prog.cellsOf 77=5) qx (fun _=>rfl) (fun _=>rfl) Aez _ _ _ g0
  have g1:DataW.trod enc Tryz.prog W 0 (fun _=>true) true m 23 (([c0,c1,c2,c3,c4,c5,c6,c7].drop 1).take (Tryz.prog.cellsOf 23))=xs[1]?:=hg 1 _ rfl
  rw[(by kernel_rfl:Tryz.prog.cellsOf 23=1),List.getElem?_eq_getElem qn]at g1
  obtain ⟨z1,p1,r1,o1⟩:=D1 Tryz.underlying23 (by kernel_rfl:Tryz.prog.cellsOf 67=7) qx (fun _=>rfl) (fun _=>rfl) Ak3 _ _ _ g1
  have g2:DataW.trod enc Tryz.prog W 0 (fun _=>true) true m 24 (([c0,c1,c2,c3,c4,c5,c6,c7].drop 2).take (Tryz.prog.cellsOf 24))=xs[2]?:=hg 2 _ rfl
  rw[(by kernel_rfl:Tryz.prog.cellsOf 24=1),List.getElem?_eq_getElem qn]at g2
  obtain ⟨z2,p2,r2,o2⟩:=D1 Tryz.underlying24 (by kernel_rfl:Tryz.prog.cellsOf 167=3) qx (fun _=>rfl) (fun _=>rfl) Ak4 _ _ _ g2
  have g3:DataW.trod enc Tryz.prog W 0 (fun _=>true) true m 25 (([c0,c1,c2,c3,c4,c5,c6,c7].drop 3).take (Tryz.prog.cellsOf 25))=xs[3]?:=hg 3 _ rfl
  rw[(by kernel_rfl:Tryz.prog.cellsOf 25=1),List.getElem?_eq_getElem qn]at g3
  obtain ⟨z3,p3,r3,o3⟩:=D1 Tryz.underlying25 (by kernel_rfl:Tryz.prog.cellsOf 69=6) qx (fun _=>rfl) (fun _=>rfl) Aey _ _ _ g3
  have g4:DataW.trod enc Tryz.prog W 0 (fun _=>true) true m 26 (([c0,c1,c2,c3,c4,c5,c6,c7].drop 4).take (Tryz.prog.cellsOf 26))=xs[4]?:=hg 4 _ rfl
  rw[(by kernel_rfl:Tryz.prog.cellsOf 26=1),List.getElem?_eq_getElem qn]at g4
  obtain ⟨z4,p4,r4,o4⟩:=D1 Tryz.underlying26 (by kernel_rfl:Tryz.prog.cellsOf 171=4) qx (fun _=>rfl) (fun _=>rfl) Aex _ _ _ g4
  have g5:DataW.trod enc Tryz.prog W 0 (fun _=>true) true m 27 (([c0,c1,c2,c3,c4,c5,c6,c7].drop 5).take (Tryz.prog.cellsOf 27))=xs[5]?:=hg 5 _ rfl
  rw[(by kernel_rfl:Tryz.prog.cellsOf 27=1),List.getElem?_eq_getElem qn]at g5
  obtain ⟨z5,p5,r5,o5⟩:=D1 Tryz.underlying27 (by kernel_rfl:Tryz.prog.cellsOf 72=4) qx (fun _=>rfl) (fun _=>rfl) Aid _ _ _ g5
  have g6:DataW.trod enc Tryz.prog W 0 (fun _=>true) true m 28 (([c0,c1,c2,c3,c4,c5,c6,c7].drop 6).take (Tryz.prog.cellsOf 28))=xs[6]?:=hg 6 _ rfl
  rw[(by kernel_rfl:Tryz.prog.cellsOf 28=1),List.getElem?_eq_getElem qn]at g6
  obtain ⟨z6,p6,r6,o6⟩:=D1 Tryz.underlying28 (by kernel_rfl:Tryz.prog.cellsOf 74=5) qx (fun _=>rfl) (fun _=>rfl) Ang _ _ _ g6
  have g7:DataW.trod enc Tryz.prog W 0 (fun _=>true) true m 29 (([c0,c1,c2,c3,c4,c5,c6,c7].drop 7).take (Tryz.prog.cellsOf 29))=xs[7]?:=hg 7 _ rfl
  rw[(by kernel_rfl:Tryz.prog.cellsOf 29=1),List.getElem?_eq_getElem qn]at g7
  obtain ⟨z7,p7,r7,o7⟩:=D1 Tryz.underlying29 (by kernel_rfl:Tryz.prog.cellsOf 119=5) qx (fun _=>rfl) (fun _=>rfl) Ani _ _ _ g7
  refine⟨⟨z0,z1,z2,z3,z4,z5,z6,z7⟩,⟨p0,p1,p2,p3,p4,p5,p6,p7⟩,E,fun c hc=>?_,?_⟩
  ·simp only[List.mem_cons,List.not_mem_nil,or_false]at hc
   rcases hc with rfl | rfl | rfl | rfl | rfl | rfl | rfl | rfl<;>assumption
  ·simp only[Ap,cellsOf,RdL]
   exact⟨_,_,E,r0,_,_,E,r1,_,_,E,r2,_,_,E,r3,_,_,E,r4,_,_,E,r5,_,_,E,r6,_,_,E,r7,E⟩
theorem Ah6 {t:TypeId} {fs:Array Field} {α:Type} {e:α→SV} {p:α→Prop} {sz base:Nat} {v:Value} {d:DataW H} {ps:List MemPlace} (ht:Tryz.prog.underlying t=some (.struct fs)) (hO:OpN enc Tryz.prog W t e p sz) (he:∀ x,e x=.agg (cellsOf (e x)))
  (hval:Value.okWide Tryz.prog W .any base t v) (h1:DataW.Trod enc Tryz.prog W 0 (fun _=>true) true t v d ps):∃ x,p x∧Rd κ0 W (e x) v:=by
 obtain ⟨cs,rfl,_⟩:=okWide_struct ht hval
 obtain ⟨fuel,hf⟩:=h1
 obtain ⟨x,h1,_,h2,h3⟩:=hO _ _ _ hf
 refine⟨x,h1,?_⟩
 rw[he x]
 simp only[Rd]
 exact⟨cs.toList,by simp,by simpa [Value.cells] using h2,by simpa [Value.cells] using h3⟩
theorem rd_net {base:Nat} {v:Value} {d:DataW H} {ps:List MemPlace} (hval:Value.okWide Tryz.prog W .any base 31 v) (h1:DataW.Trod enc Tryz.prog W 0 (fun _=>true) true 31 v d ps):∃ n:Net,n.In∧Rd κ0 W (Ap n) v :=
 Ah6 Tryz.underlying31 Anh (fun _=>rfl) hval h1
theorem Aks {t et:TypeId} {α:Type} {e:α→SV} {p:List α→Prop} {sz base:Nat} {v:Value} {d:DataW H} {ps:List MemPlace} (ht:Tryz.prog.underlying t=some (.slice et)) (hO:Op1 enc Tryz.prog W t (fun l:List α=>.sl sz e l) p)
  (hval:Value.okWide Tryz.prog W .any base t v) (h1:DataW.Trod enc Tryz.prog W 0 (fun _=>true) true t v d ps):∃ l,p l∧Rd κ0 W (.sl sz e l) v:=by
 obtain ⟨a,len,cap,rfl⟩:=okWide_slice ht hval
 obtain ⟨fuel,hf⟩:=h1
 obtain ⟨x,h1,h2,_⟩:=hO _ _ _ hf
 exact⟨x,h1,h2⟩
end
end Go.Sy.YteinjapglfkamaaGreat
namespace Go.Sy.YteinjapglfkamaaGreat
open Go.Proofs
attribute [local irreducible] Go.Sy.G Go.Sy.DR
set_option maxRecDepth 100000
set_option maxHeartbeats 8000000
def netW37:Net:=⟨[⟨0,0,⟨#[97]⟩,0,0⟩],[⟨0,0,10,1,-1,⟨#[112]⟩,[]⟩,⟨0,0,10,1,-1,⟨#[113]⟩,[]⟩,⟨0,0,20,1,-1,⟨#[114]⟩,[]⟩],[],[⟨0,10,0,-1,0,[]⟩,⟨0,20,0,-1,0,[]⟩],[],[],[],[]⟩
theorem Aaf:netW37.Fin:=by
 constructor<;>first | (unfold An;decide) | (intro x hx;unfold An;simp only[netW37,List.mem_cons,List.not_mem_nil,or_false]at hx;first | (subst hx;decide) | (rcases hx with rfl | rfl<;>decide) | (rcases hx with rfl | rfl | rfl<;>decide) | exact hx.elim)
theorem Ak5:netW37.Num:=by
 refine⟨fun x hx=>?_,fun x hx=>?_⟩
 ·simp only[netW37,List.mem_cons,List.not_mem_nil,or_false]at hx
  subst hx
  decide
 ·cases hx
theorem S3:Ei netW37:=fun x hx=>by cases hx
def bytesW37:List UInt8:=M1 ⟨281474976710655,Qp,34997,[]⟩
theorem Ahr:wscriptT netW37 0 1=([⟨1,0,0,0,bytesW37,[]⟩,⟨2,0,0,0,[],[]⟩],0):=by kernel_rfl
theorem Ahq:wscriptT netW37 0 2=([],31):=by kernel_rfl
theorem wayW37:wayT netW37 0 1=([⟨0,0,0,0⟩],true):=by kernel_rfl
theorem wayB37:wayBytes netW37 []=([],2):=by kernel_rfl
theorem Ama:bytesW37.length=14:=by kernel_rfl
theorem Vf:Sy.Spec Tryz.prog 8 [] [] (Ad true) []:=Ab Γ hm 100 F8 Tryz.ntmps8 rfl fun F hF=>by
 have q1:=Vg netW37 Aaf Ak5 S3 0 1
 have q2:=Vg netW37 Aaf Ak5 S3 0 2
 have q3:=wayS netW37 Aaf S3 0 1
 have q4:=S9 netW37 Aaf S3 [] (by unfold An;decide) (fun h hh=>by cases hh)
 have hbl:=Ama
 rw[Ahr]at q1
 rw[Ahq]at q2
 rw[wayW37]at q3
 rw[wayB37]at q4
 generalize bytesW37=bs at *
 dsimp only at q1 q2 q3 q4
 conv=>whnf
 refine Iz 11 Bj netW37.devices E E ?_
 refine At 11 E ?_
 refine Aav 15 (netW37.ports.map A6) E (.cons (.agg (.cons (.refl _) (.cons (.refl _) (.cons (.refl _) (.cons (.refl _) (.cons (.refl _) (.cons (.refl _) (.cons .nil .nil)))))))) (.cons (.agg (.cons (.refl _) (.cons (.refl _) (.cons (.refl _) (.cons (.refl _) (.cons (.refl _) (.cons (.refl _) (.cons .nil .nil)))))))) (.cons (.agg (.cons (.refl _) (.cons (.refl _) (.cons (.refl _) (.cons (.refl _) (.cons (.refl _) (.cons (.refl _) (.cons .nil .nil)))))))) .nil))) E ?_
 refine Iz 15 A6 netW37.ports E E ?_
 refine At 15 E ?_
 refine Aav 18 (netW37.domains.map Ar) E (.cons (.agg (.cons (.refl _) (.cons (.refl _) (.cons (.refl _) (.cons (.refl _) (.cons (.refl _) (.cons .nil .nil))))))) (.cons (.agg (.cons (.refl _) (.cons (.refl _) (.cons (.refl _) (.cons (.refl _) (.cons (.refl _) (.cons .nil .nil))))))) .nil)) E ?_
 refine Iz 18 Ar netW37.domains E E ?_
 refine At 18 E ?_
 refine Bc 1 (Ak7 netW37) E (.cons (.refl _) (.cons (.refl _) (.cons .nil (.cons (.refl _) (.cons .nil (.cons .nil (.cons .nil (.cons .nil .nil)))))))) ?_
 refine Amp 21 (Ap netW37) (.agg (.cons (.refl _) (.cons (.refl _) (.cons .nil (.cons (.refl _) (.cons .nil (.cons .nil (.cons .nil (.cons .nil .nil))))))))) ?_
 refine C q1 F16 ?_
 refine C q2 F16 ?_
 refine C q3 F9 ?_
 refine X (Afh [] [] E F14 q4 (.cons (.refl _) (.cons .nil .nil)) Y E Y E) ?_
 refine⟨Nat.zero_lt_two,?_⟩
 refine T ?_
 refine⟨Nat.zero_lt_two,?_⟩
 refine T ?_
 refine⟨Nat.one_lt_two,?_⟩
 refine T ?_
 exact D
theorem toldS (l:List Hop) (hl:l.length<2147483648):Sy.Spec Tryz.prog 13 [.sl 4 Bp l] [] (.sl 4 Bp l) []:=Ab Γ hm 100 F13 Tryz.ntmps13 rfl fun F hF=>by
 conv=>whnf
 refine Cf 3 1000 4 Bp E E ?_
 refine A3 l.length (fun j=>[(3,.osl 1000),(6,.sl 4 Bp l),(7,Aa l.length),(8,Aa j)]) (fun j=>[(1000,.row 4 Bp (l.take j))]) [] U ?_
 intro j hj
 refine T ?_
 refine⟨fun h=>?_,fun h=>?_⟩
 ·have hlt:j<l.length:=by have:=of_decide_eq_true h;omega
  have hj0:((j:Nat):Int).toNat<l.length:=by simpa using hlt
  have hs:l.take (j+1)=l.take j++[l[((j:Nat):Int).toNat]'hj0]:=List.take_succ_eq_append_getElem hlt
  refine T ?_
  refine X (Al Γ.toTy 15 E E E E E (.row E) (.lit (e:=Bp) (l:=[l[((j:Nat):Int).toNat]'hj0]) E E) qy (by simp;omega) (by simp;omega)) ?_
  exact Av [(1000,15)] hlt ⟨⟨E,E,E,E,E,E,E,E,Y⟩,⟨.inl (congrArg (Ob.row 4 Bp) hs),E,Y⟩,E,E⟩
 ·have hjj:j=l.length:=by have:=of_decide_eq_false h;omega
  subst hjj
  rw[List.take_length]
  refine T ?_
  refine At 1000 E ?_
  exact D
end Go.Sy.YteinjapglfkamaaGreat
namespace Go.Sy.YteinjapglfkamaaGreat
open Go.Proofs
attribute [local irreducible] Go.Sy.G Go.Sy.DR
set_option maxRecDepth 20000
set_option maxHeartbeats 8000000
structure WayD where
 (hops:List Hop) (routed:Bool)
instance:Inhabited WayD:=⟨⟨[],false⟩⟩
end Go.Sy.YteinjapglfkamaaGreat
namespace Go.Sy.YteinjapglfkamaaGreat
open Go.Proofs
structure Met (n:Net) (S:Srch):Prop where
 ok:S.OK n
 bk:Backs S.list
 dom:∀ f∈S.list,f.hop.domain=f.domain
 m:∀ d:Int,0≤d∧d.toNat<n.domains.length→∀ k:Int,(k=0∨k=1)→(M2 S d k=true↔∃ f∈S.list,f.domain=d∧f.kind=k)
theorem Ab8 {l:List Bool} {a b:Nat} (hb:b<l.length):(l.set a true)[b]? = if a=b then some true else l[b]?:=by
 rw[List.getElem?_set]
 split
 ·rename_i h;subst h;simp[hb]
 ·rfl
theorem Ae2 {n:Net} {S:Srch} (hS:S.OK n) {d k:Int} (hd:0≤d∧d.toNat<n.domains.length) (hk:k=0∨k=1) (h:Hop) (a:Int) (d2 k2:Int) (hd2:0≤d2∧d2.toNat<n.domains.length) (hk2:k2=0∨k2=1) :
  M2 (Im S d k h a) d2 k2=true↔M2 S d2 k2=true∨(d2=d∧k2=k):=by
 have h0:d2.toNat<S.m0.length:=by rw[hS.l0];exact hd2.2
 have h1:d2.toNat<S.m1.length:=by rw[hS.l1];exact hd2.2
 have e:(d.toNat=d2.toNat)↔d2=d:=by omega
 rcases hk with rfl | rfl<;>rcases hk2 with rfl | rfl
 ·rw[Im,if_pos rfl,M2,if_pos rfl,M2,if_pos rfl,nth,nth,Ab8 h0]
  by_cases h:d2=d
  ·rw[if_pos (e.2 h)];simp[h]
  ·rw[if_neg (fun x=>h (e.1 x))];simp[h]
 ·rw[Im,if_pos rfl,M2,if_neg qx,M2,if_neg qx]
  simp
 ·rw[Im,if_neg qx,M2,if_pos rfl,M2,if_pos rfl]
  simp
 ·rw[Im,if_neg qx,M2,if_neg qx,M2,if_neg qx,nth,nth,Ab8 h1]
  by_cases h:d2=d
  ·rw[if_pos (e.2 h)];simp[h]
  ·rw[if_neg (fun x=>h (e.1 x))];simp[h]
theorem O3 (S:Srch) (d k:Int) (h:Hop) (a:Int):(Im S d k h a).list=S.list++[⟨d,k,h,a⟩]:=by
 rw[Im];split<;>rfl
theorem Met.meet {n:Net} {S:Srch} (hS:Met n S) {d k:Int} (hd:0≤d∧d.toNat<n.domains.length) (hk:k=0∨k=1) {h:Hop} (hh:h.domain=d) {a:Int} (ha:-1≤a∧a<S.list.length):Met n (meetT S d k h a) where
 ok:=hS.ok.meet hd hk h a
 bk:=(hS.bk.meet d k h ha).1
 dom:=by
  rw[meetT]
  split
  ·exact hS.dom
  ·rw[O3]
   intro f hf
   rcases List.mem_append.1 hf with h1 | h1
   ·exact hS.dom f h1
   ·rw[List.mem_singleton.1 h1];exact hh
 m:=by
  rw[meetT]
  split
  ·exact hS.m
  ·intro d2 hd2 k2 hk2
   rw[Ae2 hS.ok hd hk h a d2 k2 hd2 hk2,hS.m d2 hd2 k2 hk2,O3]
   constructor
   ·rintro (⟨f,hf,h1⟩ | ⟨rfl,rfl⟩)
    ·exact⟨f,List.mem_append_left _ hf,h1⟩
    ·exact⟨_,List.mem_append_right _ (List.mem_singleton.2 E),E,E⟩
   ·rintro ⟨f,hf,h1,h2⟩
    rcases List.mem_append.1 hf with h3 | h3
    ·exact .inl ⟨f,h3,h1,h2⟩
    ·rw[List.mem_singleton.1 h3]at h1 h2
     exact .inr ⟨h1.symm,h2.symm⟩
end Go.Sy.YteinjapglfkamaaGreat
namespace Go.Sy.YteinjapglfkamaaGreat
open Go.Proofs
attribute [local irreducible] Go.Sy.G Go.Sy.DR
set_option maxRecDepth 20000
set_option maxHeartbeats 8000000
theorem Yl (S:Srch) (d k:Int) (h:Hop) (a:Int):∃ m,(meetT S d k h a).list=S.list++m:=by
 rw[meetT]
 split
 ·exact⟨[],by simp⟩
 ·exact⟨_,O3 S d k h a⟩
theorem Met.ext1 {n:Net} {k i:Int} (hk:k=0∨k=1):∀ {l:List Hop} {S:Srch},Met n S→(-1≤i∧i<S.list.length)→(∀ h∈l,0≤h.domain∧h.domain.toNat<n.domains.length)→Met n (ext1 S k i l)∧∃ m,(ext1 S k i l).list=S.list++m
 | [],S,h,_,_=>⟨h,[],by simp[Sy.YteinjapglfkamaaGreat.ext1]⟩
 | x::l,S,h,hi,hl=>by
  have h1:=h.meet (hl x qy) hk (h:=x) rfl hi
  obtain ⟨m,hm2⟩:=Yl S x.domain k x i
  obtain ⟨h3,m2,h4⟩:=Met.ext1 hk (l:=l) h1 ⟨hi.1,by rw[hm2,List.length_append];omega⟩ (fun y hy=>hl y (by simp[hy]))
  exact⟨h3,m++m2,by rw[← List.append_assoc,← hm2];exact h4⟩
theorem Met.ext2 {n:Net} {i:Int}:∀ {l:List Lead} {S:Srch},Met n S→(-1≤i∧i<S.list.length)→(∀ h∈l,0≤h.domain∧h.domain.toNat<n.domains.length)→Met n (ext2 S i l)∧∃ m,(ext2 S i l).list=S.list++m
 | [],S,h,_,_=>⟨h,[],by simp[Sy.YteinjapglfkamaaGreat.ext2]⟩
 | x::l,S,h,hi,hl=>by
  have h1:=h.meet (hl x qy) (.inr rfl) (h:=⟨3,0,x.domain,x.addr⟩) rfl hi
  obtain ⟨m,hm2⟩:=Yl S x.domain 1 ⟨3,0,x.domain,x.addr⟩ i
  obtain ⟨h3,m2,h4⟩:=Met.ext2 (l:=l) h1 ⟨hi.1,by rw[hm2,List.length_append];omega⟩ (fun y hy=>hl y (by simp[hy]))
  exact⟨h3,m++m2,by rw[← List.append_assoc,← hm2];exact h4⟩
end Go.Sy.YteinjapglfkamaaGreat
namespace Go.Sy.YteinjapglfkamaaGreat
open Go.Proofs
theorem Wn {α:Type} (p:α→Bool) (l:List α) (j:Nat) (hj:j<l.length):Cb p (l.take (j+1))=if 0≤Cb p (l.take j) then Cb p (l.take j) else if p l[j]=true then (j:Int) else -1:=by
 rw[List.take_succ_eq_append_getElem hj]
 unfold Cb
 rw[List.findIdx?_append]
 cases h:(l.take j).findIdx? p with
 | some i=>simp
 | none =>
  simp only[List.findIdx?_singleton,Option.none_or]
  cases hp:p l[j]
  ·simp
  ·simp[Nat.min_eq_left (Nat.le_of_lt hj)]
attribute [local irreducible] Go.Sy.G Go.Sy.DR
set_option maxRecDepth 100000
set_option maxHeartbeats 8000000
theorem Aej (n:Net) (hn:n.Fin) (hu:Ei n) (l:List Hop) (hl:An l) (hla:∀ h∈l,0≤h.addr∧h.addr<4294967296) :
  Sy.Spec Tryz.prog 15 [Ap n,.sl 4 Bp l] [] (.tup [.sl 1 Ai (wayBytes n l).1,Aa (wayBytes n l).2]) []:=Ab Γ hm 100 F15 Tryz.ntmps15 rfl fun F hF=>by
 have hres:=wayBytes.eq_1 n l
 generalize wayBytes n l=res at *
 have hr:=Abr n hn
 have hl2:=hl
 unfold An at hl2
 conv=>whnf
 refine Be 2 8 (Ap n) E E E ?_
 refine T ?_
 refine C hr F10 ?_
 cases hb:Af n
 ·rw[if_neg (fun x=>by rw[hb]at x;cases x.1)]at hres
  subst hres
  refine T ?_
  refine Ao 4 1 Ai E ?_
  exact D
 refine T ?_
 refine⟨fun h=>?_,fun h=>?_⟩
 ·have h0:l=[]:=List.eq_nil_of_length_eq_zero (by have:=of_decide_eq_true h;omega)
  rw[if_neg (fun x=>x.2.1 h0)]at hres
  subst hres
  refine T ?_
  refine Ao 4 1 Ai E ?_
  exact D
 have h0:0<l.length:=by have:=of_decide_eq_false h;omega
 clear h
 have hne:l≠[]:=fun e=>by rw[e]at h0;simp at h0
 refine T ?_
 refine A2 l.length (fun j=>C7 (stepB n l) l j) (fun j=>[(1,.sl 4 Bp l),(2,.ref 8 (Ap n) 0),(6,Aa (Es (l.take j))),(7,Aa j)]) (fun _=>[]) [] (Ax _ _) U ?_
 intro j hj hI
 refine T ?_
 refine⟨fun h=>?_,fun h=>?_⟩
 ·have hlt:j<l.length:=by have:=of_decide_eq_true h;omega
  have hj0:((j:Nat):Int).toNat<l.length:=by simpa using hlt
  have hts:=Wn (fun h:Hop=>decide (h.kind=3)) l j hlt
  have hrj:∀ k,Cb (fun h:Hop=>decide (h.kind=3)) (l.take k)=Es (l.take k):=fun _=>rfl
  rw[hrj,hrj]at hts
  obtain ⟨x,hoo⟩:∃ x,l[j]=x:=⟨_,rfl⟩
  have e1:l[((j:Nat):Int).toNat]'hj0=x:=hoo
  have hst:=stepB.eq_1 n l j x
  have hbad:stepB n l j x=false→res=([],2):=fun h2=>by
   rw[if_neg (fun y=>by have:=allB_iff.1 y.2.2 j hlt;rw[hoo,h2]at this;cases this)]at hres
   exact hres
  rw[hoo]at hts
  have qp:=B5 x.domain n.domains.length
  clear h hrj
  refine S ?_
  refine⟨E,by omega,hj0,?_⟩
  rw[e1]
  refine T ?_
  refine C qp F46 ?_
  cases hpl:Ak x.domain n.domains.length
  ·rw[hpl,Bool.false_and]at hst
   have hres:=hbad hst
   subst hres
   refine T ?_
   refine Ao 4 1 Ai E ?_
   exact D
  rw[hpl,Bool.true_and]at hst
  refine T ?_
  rw[e1]
  by_cases hk:x.kind=3
  rotate_left
  ·rw[decide_eq_false hk,Bool.false_and]at hst
   rw[if_neg (show ¬ decide (x.kind=3)=true by simp[hk])]at hts
   have hts2:Es (l.take (j+1))=Es (l.take j):=by
    have:=Anr (fun h:Hop=>decide (h.kind=3)) (l.take j)
    show Es (l.take (j+1))=_
    have e:Es (l.take j)=Cb (fun h:Hop=>decide (h.kind=3)) (l.take j):=rfl
    rw[hts]
    split<;>omega
   refine⟨fun _=>?_,fun h=>absurd (by simpa using h) hk⟩
   refine T ?_
   exact A0 [] hI hlt (As hI hlt (by rw[hoo];exact hst)) ⟨⟨E,E,E,E,congrArg Aa hts2,E,E,E,Y⟩,Y,E,E⟩
  rw[decide_eq_true hk,Bool.true_and]at hst
  rw[if_pos (decide_eq_true hk)]at hts
  refine⟨fun h=>absurd hk (by simpa using h),fun _=>?_⟩
  by_cases hj1:j=0
  ·have hres:=hbad (by rw[hst,decide_eq_true hj1];rfl)
   subst hres
   refine T ?_
   refine Ao 4 1 Ai E ?_
   exact D
  rw[decide_eq_false hj1,Bool.false_or]at hst
  have hk1:((j:Int)-1).toNat<l.length:=by omega
  have hpr:=hI (j-1) qn qn
  have hpr2:Ak (l[((j:Int)-1).toNat]'hk1).domain n.domains.length=true:=by
   have e:((j:Int)-1).toNat=j-1:=by omega
   simp only[e]
   unfold stepB at hpr
   simp only[Bool.and_eq_true]at hpr
   exact hpr.1
  have hpi:=placeB_iff.1 hpr2
  rw[Am hk1,Am hpi.2]at hst
  have hie:=Tx hb hpi.2
  by_cases hir:(n.domains[(l[((j:Int)-1).toNat]'hk1).domain.toNat]'hpi.2).irb=-1
  ·have hres:=hbad (by rw[hst,decide_eq_true qn];rfl)
   subst hres
   refine T ?_
   refine⟨fun _=>?_,fun h=>absurd hir (by simpa using h)⟩
   refine T ?_
   refine Ao 4 1 Ai E ?_
   exact D
  have hin:=hie.resolve_left hir
  rw[decide_eq_false (by unfold InIrbs at hin;omega)]at hst
  clear hie hbad
  refine T ?_
  refine⟨fun h=>absurd (by simpa using h) hir,fun _=>?_⟩
  refine T ?_
  generalize hr1:Es (l.take j)=r at *
  refine⟨fun h=>?_,fun h=>?_⟩
  ·rw[if_neg (by have:=of_decide_eq_true h;omega)]at hts
   refine T ?_
   exact A0 [] hI hlt (As hI hlt (by rw[hoo];exact hst)) ⟨⟨E,E,E,E,congrArg Aa hts,E,E,E,Y⟩,Y,E,E⟩
  ·rw[if_pos (by have:=of_decide_eq_false h;omega)]at hts
   refine T ?_
   exact A0 [] hI hlt (As hI hlt (by rw[hoo];exact hst)) ⟨⟨E,E,E,E,congrArg Aa hts,E,E,E,Y⟩,Y,E,E⟩
 ·have hjj:j=l.length:=by have:=of_decide_eq_false h;omega
  subst hjj
  clear h
  rw[List.take_length]
  have hall:Cj (stepB n l) l=true:=allB_iff.2 fun i hi=>hI i hi hi
  rw[if_pos ⟨hb,hne,hall⟩]at hres
  subst hres
  have hri:Cb (fun h=>decide (h.kind=3)) l=Es l:=rfl
  have hlt:=D6 (fun h:Hop=>decide (h.kind=3)) l
  have his:=fun h0=>Agt hri h0
  rw[hri]at hlt
  have q7:=Ah5 (frameW n l) (Tu hu l)
  have hfw:=frameW.eq_1 n l
  have hirb:=irbOf.eq_1 n l
  generalize irbOf n l=ib at *
  generalize Es l=r at *
  refine T ?_
  refine⟨fun h=>?_,fun h=>?_⟩
  ·have h1:0<r:=of_decide_eq_true h
   rw[if_pos h1]at hfw
   obtain ⟨hr0,hr3⟩:=his qn
   have hst:=allB_iff.1 hall r.toNat hr0
   have hk1:(r-1).toNat<l.length:=by omega
   have hpr2:Ak (l[(r-1).toNat]'hk1).domain n.domains.length=true:=by
    have hpr:=allB_iff.1 hall (r-1).toNat hk1
    unfold stepB at hpr
    simp only[Bool.and_eq_true]at hpr
    exact hpr.1
   have hpi:=placeB_iff.1 hpr2
   unfold stepB at hst
   rw[hr3,show ((r.toNat:Int)-1)=r-1 by omega,Am hk1,Am hpi.2]at hst
   simp only[Bool.and_eq_true,Bool.true_and,Bool.not_eq_true',Bool.or_eq_false_iff,decide_eq_false_iff_not]at hst
   have hin:=(Tx hb hpi.2).resolve_left qn
   have hin1:0≤(n.domains[(l[(r-1).toNat]'hk1).domain.toNat]'hpi.2).irb∧(n.domains[(l[(r-1).toNat]'hk1).domain.toNat]'hpi.2).irb.toNat<n.irbs.length:=by unfold InIrbs at hin;omega
   rw[Am hk1,Am hpi.2,Am hin1.2]at hirb
   rw[Am hr0]at hfw
   have ha:=hla _ (List.getElem_mem hr0)
   have hae:=Int.toNat_of_nonneg ha.1
   have hxa:=hu _ (List.getElem_mem hin1.2)
   have hxe:=Int.toNat_of_nonneg hxa.1
   have q5:Sy.Spec Tryz.prog 48 [.agg [Aa 0,Aa 0,Aa 64,Aa 17,Bm 1,Bm ((l[r.toNat]'hr0).addr.toNat:Nat),.sl 1 Ai []]] [] (.tup [.sl 1 Ai (ipPutT (Ld (l[r.toNat]'hr0).addr.toNat)).1,Aa (ipPutT (Ld (l[r.toNat]'hr0).addr.toNat)).2]) []:=Ah4 (Ld (l[r.toNat]'hr0).addr.toNat) (Adx _ qn) (by show 0<100000;decide)
   rw[hae]at q5
   have q6:=Akr (n.irbs[(n.domains[(l[(r-1).toNat]'hk1).domain.toNat]'hpi.2).irb.toNat]'hin1.2).addr.toNat qn
   rw[hxe]at q6
   subst hirb
   rw[hfw]at q7 ⊢
   clear hfw
   generalize (ipPutT (Ld (l[r.toNat]'hr0).addr.toNat)).1=bo at *
   refine T ?_
   refine C q6 F47 ?_
   refine Amp 87 (.agg [Aa 0,Aa 0,Aa 64,Aa 17,Bm 1,Bm (l[r.toNat]'hr0).addr,.sl 1 Ai []]) (.agg (.cons (.refl _) (.cons (.refl _) (.cons (.refl _) (.cons (.refl _) (.cons (.refl _) (.cons (.refl _) (.cons .nil .nil)))))))) ?_
   refine C q5 F48 ?_
   refine Ah (Aj [(0,999)] E F49 q7 E Y E ⟨.inr E,Y⟩) E E ?_
   refine At 999 E ?_
   refine T ?_
   exact D
  ·have h1:¬ 0<r:=of_decide_eq_false h
   rw[if_neg h1]at hfw
   rw[hfw]at q7 ⊢
   clear hfw
   refine T ?_
   refine Amp 92 (.agg [A9 281474976710655,A9 Qp,Aa 34997,.sl 1 Ai []]) (.agg (.cons (.refl _) (.cons (.refl _) (.cons (.refl _) (.cons .nil .nil))))) ?_
   refine Ah (Aj [(0,999)] E F49 q7 E Y E ⟨.inr E,Y⟩) E E ?_
   refine At 999 E ?_
   refine T ?_
   exact D
end Go.Sy.YteinjapglfkamaaGreat
namespace Go.Sy.YteinjapglfkamaaGreat
open Go.Proofs Go.ChangeShapes Go.WideShapes Go.ChangeAt Go.RowKit
set_option maxRecDepth 100000
section
variable {H:Type} {enc:TypeId × Value→H} {W:World}
def Hop.In (x:Hop):Prop:=wI .i64 x.kind∧wI .i64 x.port∧wI .i64 x.domain∧wI .u32 x.addr
theorem Anj:OpN enc Tryz.prog W 93 Bp Hop.In 4:=fun n cs y h=>by
 obtain ⟨xs,m,_,_,hlen,hx,hg⟩:=DataW.trod_struct Tryz.underlying93 h
 have hlen:cs.length=4:=hlen.trans (by kernel_rfl:Tryz.prog.cellsOf 93=4)
 have hx:xs.length=4:=hx
 match cs,hlen with
 | [c0,c1,c2,c3],_ =>
  have g0:DataW.trod enc Tryz.prog W 0 (fun _=>true) true m 3 (([c0,c1,c2,c3].drop 0).take (Tryz.prog.cellsOf 3))=xs[0]?:=hg 0 _ rfl
  rw[(by kernel_rfl:Tryz.prog.cellsOf 3=1),List.getElem?_eq_getElem qn]at g0
  obtain ⟨z0,p0,r0,o0⟩:=B3 Tryz.underlying3 _ _ _ g0
  have g1:DataW.trod enc Tryz.prog W 0 (fun _=>true) true m 3 (([c0,c1,c2,c3].drop 1).take (Tryz.prog.cellsOf 3))=xs[1]?:=hg 1 _ rfl
  rw[(by kernel_rfl:Tryz.prog.cellsOf 3=1),List.getElem?_eq_getElem qn]at g1
  obtain ⟨z1,p1,r1,o1⟩:=B3 Tryz.underlying3 _ _ _ g1
  have g2:DataW.trod enc Tryz.prog W 0 (fun _=>true) true m 3 (([c0,c1,c2,c3].drop 2).take (Tryz.prog.cellsOf 3))=xs[2]?:=hg 2 _ rfl
  rw[(by kernel_rfl:Tryz.prog.cellsOf 3=1),List.getElem?_eq_getElem qn]at g2
  obtain ⟨z2,p2,r2,o2⟩:=B3 Tryz.underlying3 _ _ _ g2
  have g3:DataW.trod enc Tryz.prog W 0 (fun _=>true) true m 75 (([c0,c1,c2,c3].drop 3).take (Tryz.prog.cellsOf 75))=xs[3]?:=hg 3 _ rfl
  rw[(by kernel_rfl:Tryz.prog.cellsOf 75=1),List.getElem?_eq_getElem qn]at g3
  obtain ⟨z3,p3,r3,o3⟩:=B3 Tryz.underlying75 _ _ _ g3
  refine⟨⟨z0,z1,z2,z3⟩,⟨p0,p1,p2,p3⟩,E,fun c hc=>?_,?_⟩
  ·simp only[List.mem_cons,List.not_mem_nil,or_false]at hc
   rcases hc with rfl | rfl | rfl | rfl<;>assumption
  ·simp only[Bp,cellsOf,RdL]
   exact⟨_,_,E,r0,_,_,E,r1,_,_,E,r2,_,_,E,r3,E⟩
theorem Ane:Op1 enc Tryz.prog W 34 (fun l:List Hop=>.sl 4 Bp l) (fun l=>(∀ x∈l,Hop.In x)∧l.length≤maxLen) :=
 D1 Tryz.underlying34 (by kernel_rfl:Tryz.prog.cellsOf 93=4) qx (fun _=>rfl) (fun _=>rfl) Anj
end
end Go.Sy.YteinjapglfkamaaGreat
namespace Go.Sy.YteinjapglfkamaaGreat
open Go.Proofs
attribute [local irreducible] Go.Sy.G Go.Sy.DR
set_option maxRecDepth 100000
set_option maxHeartbeats 4000000
theorem Adl (b:ByteArray):(b == b)=true:=by
 show (b.data == b.data)=true
 simp
end Go.Sy.YteinjapglfkamaaGreat
namespace Go.Sy.YteinjapglfkamaaGreat
open Go.Proofs
attribute [local irreducible] Go.Sy.G Go.Sy.DR
set_option maxRecDepth 100000
set_option maxHeartbeats 8000000
theorem Ajs {n:Net} (h:n.In):Ei n:=fun x hx=>by
 have:=(h.irbs.1 x hx).2.2.2.1
 simp only[wI,Lit.wf,decide_eq_true_eq,Bool.and_eq_true]at this
 exact⟨this.1,Int.lt_of_le_of_lt this.2 qx⟩
theorem Xn (n:Net) (hin:n.In) (l:List Hop) (hl:∀ h∈l,Hop.In h):Sy.Spec Tryz.prog 4 [Ap n,.sl 4 Bp l] [] (Ad true) []:=Ab Γ hm 100 F4 Tryz.ntmps4 rfl fun F hF=>by
 conv=>whnf
 refine Be 2 8 (Ap n) E E E ?_
 refine T ?_
 refine C (greatS n) F7 ?_
 refine⟨fun hg=>?_,fun hg=>?_⟩
 ·refine T ?_
  refine C Vf F8 ?_
  exact D
 have hn:=Aae hg
 have hu:=Ajs hin
 refine T ?_
 refine⟨fun h=>?_,fun h=>?_⟩
 ·refine T ?_
  refine C Vf F8 ?_
  exact D
 have hlen:l.length≤200:=by have:=of_decide_eq_false h;omega
 clear h
 have hla:∀ h∈l,0≤h.addr∧h.addr<4294967296:=fun h hh=>by
  have:=(hl h hh).2.2.2
  simp only[wI,Lit.wf,decide_eq_true_eq,Bool.and_eq_true]at this
  exact⟨this.1,Int.lt_of_le_of_lt this.2 qx⟩
 have q1:=S9 n hn hu l (by unfold An;omega) hla
 have q2:=Aej n hn hu l (by unfold An;omega) hla
 have q4:=toldS l qn
 generalize wayBytes n l=b at *
 refine T ?_
 refine C q1 F14 ?_
 refine C q4 F13 ?_
 refine C q2 F15 ?_
 refine X (H9 Γ.toTy (bs:=b.1) E E E E E E E .sl) ?_
 refine X (H9 Γ.toTy (bs:=b.1) E E E E E E E .sl) ?_
 refine⟨fun _=>?_,fun h=>False.elim (by simp[Adl]at h)⟩
 refine T ?_
 refine C Vf F8 ?_
 exact D
end Go.Sy.YteinjapglfkamaaGreat
namespace Go.Proofs.YteinjapglfkamaaGreat
open Go.ChangeShapes Go.WideShapes Go.ChangeAt Go.RowKit
set_option maxRecDepth 100000
theorem Lg:Tryz.checked.prog.inPlace 4=Rows.witnessBytesRow.inPlace:=by kernel_rfl
theorem Jn:Tryz.checked.prog.unfollowed 4=Rows.witnessBytesRow.unfollowed:=by kernel_rfl
theorem Le:Tryz.checked.prog.recurses 4=Rows.witnessBytesRow.recurses:=by kernel_rfl
theorem Ou:Tryz.checked.prog.varsNamed 4=Rows.witnessBytesRow.named:=by kernel_rfl
theorem Qe:Tryz.checked.prog.liftsFinal=Rows.witnessBytesRow.lifted:=by kernel_rfl
theorem Lf:laidOutB Tryz.checked.prog=true:=by kernel_rfl
theorem Ox:Tryz.checked.prog.mayEnter=true:=by kernel_rfl
theorem Ov:Tryz.checked.prog.stopsHeard=true:=by kernel_rfl
theorem Ow:joinedFacts Tryz.checked.prog 4 Tryz.f4 Rows.witnessBytesSpec Rows.witnessBytesRow=true:=by
 unfold joinedFacts
 rw[Lg,Jn,Le,Ou,Qe,Lf,Ox,Ov]
 kernel_rfl
end Go.Proofs.YteinjapglfkamaaGreat
