/-
  K40 K41 K42 K8 K9 K10 K11 K15 K16 K17 K18 K19 K20 K21 K22 K23 K12 K13 K14 K24 K43 K44 Z5 Z6: parts of a proof, joined by program.
-/
import Derived.Test.YteinjapglfkamaaGreatXD7
import Derived.Test.YteinjapglfkamaaGreatXD4
import Derived.Test.YteinjapglfkamaaGreatXD6
import Derived.Test.YteinjapglfkamaaGreatXD5
namespace Go.Sy.YteinjapglfkamaaGreat
open Go.Proofs
attribute [local irreducible] Go.Sy.G Go.Sy.DR
set_option maxRecDepth 100000
set_option maxHeartbeats 4000000
theorem S2 {n:Net} {i:Int} (h:Ai i n.irbs.length=true):InIrbs n i:=by
 have:=Ba h
 exact⟨this.1,by omega⟩
theorem Al2 {p:PacketM} (h:PacketOK p):PacketOK (Ahe p):=⟨h.tos,h.id,by have:=h.ttl;show p.ttl-1≤255;omega,h.proto,h.src,h.dst⟩
theorem Aad (p:PacketM):ipPutT (Ahe p)=if 1480<p.body.length then ([],14) else (U8 (Ahe p),0):=rfl
theorem Am0 (n:Net) (hn:n.Fin) (hm0:n.Num) (irb:Int) (f:FrameM) (hf:FrameOK f) :
  Sy.Spec Tryz.prog 233 [Aj n,Aa irb,Bc f] [] (.tup [Aa (hopT n irb f).1,Bc (hopT n irb f).2.1,Aa (hopT n irb f).2.2]) []:=cT F233 Tryz.ntmps233 fun F hF=>by
 have hres:=hopT.eq_1 n irb f
 generalize hopT n irb f=res at *
 have hr:=B0 n hn
 have hb:=hf.body
 conv=>whnf
 refine⟨fun h=>?_,fun h=>?_⟩
 ·have hp:Ai irb n.irbs.length=false:=by
   cases hx:Ai irb n.irbs.length
   ·rfl
   ·have:=Ba hx;have:=of_decide_eq_true h;omega
  rw[if_pos (.inl hp)]at hres
  subst hres
  (refine oT ?_;refine bT ?_)
  refine Ar 7 zF E (.cons (.refl _) (.cons (.refl _) (.cons (.refl _) (.cons .nil .nil)))) ?_
  exact dN
 have h0:0≤irb:=qB h
 clear h
 refine oO ?_
 refine⟨fun h=>?_,fun h=>?_⟩
 ·have hp:Ai irb n.irbs.length=false:=by
   cases hx:Ai irb n.irbs.length
   ·rfl
   ·have:=Ba hx;have:=of_decide_eq_true h;omega
  rw[if_pos (.inl hp)]at hres
  subst hres
  refine oT ?_
  refine Ar 7 zF E (.cons (.refl _) (.cons (.refl _) (.cons (.refl _) (.cons .nil .nil)))) ?_
  exact dN
 have h1:irb<n.irbs.length:=qB h
 clear h
 have hpl:Ai irb n.irbs.length=true:=Di ⟨h0,h1⟩
 refine oO ?_
 refine c0 hr F23 ?_
 cases hbn:Ae n
 ·rw[if_pos (.inr hbn)]at hres
  subst hres
  refine oT ?_
  refine Ar 7 zF E (.cons (.refl _) (.cons (.refl _) (.cons (.refl _) (.cons .nil .nil)))) ?_
  exact dN
 rw[if_neg (by simp[hbn,hpl])]at hres
 refine A3 3 8 (Aj n) E E E ?_
 refine A3 5 4 (Bc f) E E E ?_
 refine oF ?_
 refine⟨fun h=>?_,fun h=>?_⟩
 ·rw[if_pos (by have:¬ (f.typ:Int)=2048:=(by simpa using h);omega)]at hres
  subst hres
  refine oO ?_
  refine Ar 7 zF E (.cons (.refl _) (.cons (.refl _) (.cons (.refl _) (.cons .nil .nil)))) ?_
  exact dN
 rw[if_neg (by have:(f.typ:Int)=2048:=(by simpa using h);omega)]at hres
 clear h
 have q1:=Alz f.body qn
 have hok:=@Aac f.body
 generalize ipTakeT f.body=tk at *
 obtain ⟨p,e⟩:=tk
 dsimp only at hres q1 hok
 refine oO ?_
 refine c0 q1 F297 ?_
 refine oO ?_
 by_cases he:e=0
 rotate_left
 ·rw[if_pos he]at hres
  subst hres
  refine⟨fun h=>absurd (show e=0 by simpa using h) he,fun _=>?_⟩
  refine oO ?_
  refine⟨fun _=>?_,fun h=>absurd (show e=0 by simpa using h) he⟩
  refine oO ?_
  refine Ar 7 zF E (.cons (.refl _) (.cons (.refl _) (.cons (.refl _) (.cons .nil .nil)))) ?_
  exact dN
 subst he
 rw[if_neg qz]at hres
 obtain ⟨hpo,hpb⟩:=hok rfl
 have hpt:=hpo.ttl
 have hpd:=hpo.dst
 have q2:=ipHopS p qn hpt
 (refine⟨fun _=>?_,fun h=>False.elim (absurd h qy)⟩;refine rg ?_;conv=>whnf)
 by_cases ht:p.ttl≤1
 ·rw[if_pos ht]at hres
  subst hres
  rw[hop1,if_pos ht]at q2
  refine c0 q2 F298 ?_
  refine oT ?_
  refine Ar 7 zF E (.cons (.refl _) (.cons (.refl _) (.cons (.refl _) (.cons .nil .nil)))) ?_
  exact dN
 rw[if_neg ht]at hres
 rw[hop1,if_neg ht]at q2
 refine c0 q2 F298 ?_
 have q3:=As6 n hn hbn irb p.dst (S2 hpl)
 have hth:=fun h=>@Ag0 n irb p.dst h
 generalize lookT n irb p.dst=lk at *
 obtain ⟨to,ok⟩:=lk
 dsimp only at hres q3 hth
 refine oF ?_
 refine c0 q3 F271 ?_
 cases ok
 ·rw[if_pos rfl]at hres
  subst hres
  refine oT ?_
  refine Ar 7 zF E (.cons (.refl _) (.cons (.refl _) (.cons (.refl _) (.cons .nil .nil)))) ?_
  exact dN
 rw[if_neg qy]at hres
 have hto:=hth rfl
 have hpp:=Aad p
 have q4:=Al0 (Ahe p) (Al2 hpo) (by show p.body.length<100000;omega)
 rw[hpp]at q4
 clear hpp
 by_cases hl:1480<p.body.length
 ·rw[if_pos hl]at hres q4
  subst hres
  refine oF ?_
  refine c0 q4 F43 ?_
  refine oT ?_
  refine Ar 7 zF E (.cons (.refl _) (.cons (.refl _) (.cons (.refl _) (.cons .nil .nil)))) ?_
  exact dN
 rw[if_neg hl]at hres q4
 have ha:=hm0.addr _ (List.getElem_mem hto.2)
 rw[Ak hto.2]at hres
 obtain ⟨x,hx⟩:∃ x,n.irbs[to.toNat]'hto.2=x:=⟨_,rfl⟩
 rw[hx]at ha hres
 obtain ⟨a,hae⟩:=Int.eq_ofNat_of_zero_le ha.1
 have qh:=Ac6 a qn
 rw[← hae]at qh
 have qd:=Ac6 p.dst hpd
 subst hres
 refine oF ?_
 refine c0 q4 F43 ?_
 refine oF ?_
 refine⟨E,hto.1,hto.2,?_⟩
 rw[hx]
 conv=>whnf
 refine cD qd F44 ?_
 refine oD ?_
 refine⟨E,hto.1,hto.2,?_⟩
 rw[hx]
 conv=>whnf
 refine cD qh F44 ?_
 refine oD ?_
 refine kW ?_
 exact dN
theorem Ane (n:Net) (hn:n.Fin) (hm0:n.Num) (irb:Int) (f:FrameM) (hf:FrameOK f) :
  Sy.Spec Tryz.prog 255 [Aj n,Aa irb,Bc f] [] (.tup [Aa (hopT n irb f).1,Bc (hopT n irb f).2.1,Aa (hopT n irb f).2.2]) []:=cT F255 Tryz.ntmps255 fun F hF=>by
 have hres:=hopT.eq_1 n irb f
 generalize hopT n irb f=res at *
 have hr:=Dy n hn
 have hpS:=A8 irb n.irbs.length
 have hb:=hf.body
 conv=>whnf
 refine A3 3 8 (Aj n) E E E ?_
 refine A3 5 4 (Bc f) E E E ?_
 refine oO ?_
 refine c0 hr F10 ?_
 cases hbn:Ae n
 ·rw[if_pos (.inr hbn)]at hres
  subst hres
  (refine oT ?_;refine bT ?_)
  refine Ar 7 zF E (.cons (.refl _) (.cons (.refl _) (.cons (.refl _) (.cons .nil .nil)))) ?_
  exact dN
 refine oF ?_
 refine c0 hpS F46 ?_
 cases hpl:Ai irb n.irbs.length
 ·rw[if_pos (.inl hpl)]at hres
  subst hres
  refine oT ?_
  refine Ar 7 zF E (.cons (.refl _) (.cons (.refl _) (.cons (.refl _) (.cons .nil .nil)))) ?_
  exact dN
 rw[if_neg (by simp[hbn,hpl])]at hres
 refine oF ?_
 refine⟨fun h=>?_,fun h=>?_⟩
 ·rw[if_pos (by have:¬ (f.typ:Int)=2048:=(by simpa using h);omega)]at hres
  subst hres
  refine oO ?_
  refine Ar 7 zF E (.cons (.refl _) (.cons (.refl _) (.cons (.refl _) (.cons .nil .nil)))) ?_
  exact dN
 rw[if_neg (by have:(f.typ:Int)=2048:=(by simpa using h);omega)]at hres
 clear h
 have q1:=Zj f.body qn
 have hok:=@Aac f.body
 generalize ipTakeT f.body=tk at *
 obtain ⟨p,e⟩:=tk
 dsimp only at hres q1 hok
 refine oO ?_
 refine c0 q1 F317 ?_
 refine oO ?_
 by_cases he:e=0
 rotate_left
 ·rw[if_pos he]at hres
  subst hres
  refine⟨fun _=>?_,fun h=>absurd (show e=0 by simpa using h) he⟩
  refine oO ?_
  refine Ar 7 zF E (.cons (.refl _) (.cons (.refl _) (.cons (.refl _) (.cons .nil .nil)))) ?_
  exact dN
 subst he
 rw[if_neg qz]at hres
 obtain ⟨hpo,hpb⟩:=hok rfl
 have hpt:=hpo.ttl
 have hpd:=hpo.dst
 have q2:=Ani p qn hpt
 (refine⟨fun h=>False.elim (absurd h qy),fun _=>?_⟩;refine rg ?_;conv=>whnf)
 by_cases ht:p.ttl≤1
 ·rw[if_pos ht]at hres
  subst hres
  rw[hop1,if_pos ht]at q2
  refine c0 q2 F318 ?_
  refine oT ?_
  refine Ar 7 zF E (.cons (.refl _) (.cons (.refl _) (.cons (.refl _) (.cons .nil .nil)))) ?_
  exact dN
 rw[if_neg ht]at hres
 rw[hop1,if_neg ht]at q2
 refine c0 q2 F318 ?_
 have q3:=Air n hn hbn hm0.addr irb p.dst (S2 hpl) qn
 have hth:=fun h=>@Ag0 n irb p.dst h
 generalize lookT n irb p.dst=lk at *
 obtain ⟨to,ok⟩:=lk
 dsimp only at hres q3 hth
 refine oF ?_
 refine c0 q3 F214 ?_
 cases ok
 ·rw[if_pos rfl]at hres
  subst hres
  refine oT ?_
  refine Ar 7 zF E (.cons (.refl _) (.cons (.refl _) (.cons (.refl _) (.cons .nil .nil)))) ?_
  exact dN
 rw[if_neg qy]at hres
 have hto:=hth rfl
 have hpp:=Aad p
 have q4:=Acj (Ahe p) (Al2 hpo) (by show p.body.length<100000;omega)
 rw[hpp]at q4
 clear hpp
 by_cases hl:1480<p.body.length
 ·rw[if_pos hl]at hres q4
  subst hres
  refine oF ?_
  refine c0 q4 F48 ?_
  refine oT ?_
  refine Ar 7 zF E (.cons (.refl _) (.cons (.refl _) (.cons (.refl _) (.cons .nil .nil)))) ?_
  exact dN
 rw[if_neg hl]at hres q4
 have ha:=hm0.addr _ (List.getElem_mem hto.2)
 rw[Ak hto.2]at hres
 obtain ⟨x,hx⟩:∃ x,n.irbs[to.toNat]'hto.2=x:=⟨_,rfl⟩
 rw[hx]at ha hres
 obtain ⟨a,hae⟩:=Int.eq_ofNat_of_zero_le ha.1
 have qh:=Ma a qn
 rw[← hae]at qh
 have qd:=Ma p.dst hpd
 subst hres
 refine oF ?_
 refine c0 q4 F48 ?_
 refine oF ?_
 refine⟨E,hto.1,hto.2,?_⟩
 rw[hx]
 conv=>whnf
 refine cD qd F47 ?_
 refine oD ?_
 refine cD qh F47 ?_
 refine oD ?_
 refine kW ?_
 exact dN
theorem Akn (f:FrameM) (hb:f.body.length<100000):Sy.Spec Tryz.prog 247 [Bc f] [] (Bc f) []:=cT F247 Tryz.ntmps247 fun F hF=>by
 conv=>whnf
 refine Ad (B5 Γ.toTy (d:=7) (n:=f.body.length) Ag 0 E E E E E E E E qn qn E E E) E E ?_
 refine oO ?_
 refine Ad (Wp Γ.toTy (l:=List.replicate f.body.length 0) (m:=f.body) E E E E E .sl) E E ?_
 refine oO ?_
 refine Ao 7 E ?_
 refine oO ?_
 refine Aq E (.cons (.cell E E E E) .nil) ?_ E
 show SV.agg [_,_,_,.sl 1 Ag f.body]=SV.agg [_,_,_,.sl 1 Ag (f.body.take (List.replicate f.body.length (0:UInt8)).length++(List.replicate f.body.length (0:UInt8)).drop f.body.length)]
 have e:f.body.take (List.replicate f.body.length (0:UInt8)).length++(List.replicate f.body.length (0:UInt8)).drop f.body.length=f.body:=by
  rw[List.length_replicate,List.take_length,List.drop_eq_nil_of_le qz,List.append_nil]
 rw[e]
 rfl
theorem Ae1 (q:QueuedM) (hb:q.frame.body.length<100000):Sy.Spec Tryz.prog 180 [A0 q] [] (A0 q) []:=cT F180 Tryz.ntmps180 fun F hF=>by
 have qc:=Akn q.frame hb
 conv=>whnf
 refine c0 qc F247 ?_
 refine oO ?_
 exact dN
def Q3 (l:List QueuedM):Prop:=∀ q∈l,q.frame.body.length<100000
theorem Atr (l:List QueuedM) (hl:l.length<1000000) (hb:Q3 l):Sy.Spec Tryz.prog 179 [.sl 7 A0 l] [] (.osl 0) [(0,.row 7 A0 l)]:=cT F179 Tryz.ntmps179 fun F hF=>by
 conv=>whnf
 refine Bm 3 1000 7 A0 E E ?_
 refine At l.length (fun j=>[(3,.osl 1000),(6,.sl 7 A0 l),(7,Aa l.length),(8,Aa j)]) (fun j=>[(1000,.row 7 A0 (l.take j))]) [] ⟨⟨E,E,E,E,E,E,E,E,Y⟩,⟨.inl E,E,Y⟩,E,E⟩ ?_
 intro j hj
 refine oO ?_
 refine⟨fun h=>?_,fun h=>?_⟩
 ·have hlt:j<l.length:=qA h
  have hj0:((j:Nat):Int).toNat<l.length:=by simpa using hlt
  obtain ⟨q,hq⟩:∃ q,l[j]=q:=⟨_,rfl⟩
  have e1:l[((j:Nat):Int).toNat]'hj0=q:=hq
  have hs:l.take (j+1)=l.take j++[q]:=by rw[List.take_succ_eq_append_getElem hlt,hq]
  have hqb:=hb q (by rw[← hq];exact List.getElem_mem hlt)
  have hll:(l.take j).length=j:=by rw[List.length_take];omega
  clear h
  refine oO ?_
  refine⟨E,by omega,hj0,?_⟩
  rw[e1]
  conv=>whnf
  refine c0 (Ae1 q hqb) F180 ?_
  refine oO ?_
  refine Ad (Ac Γ.toTy 16 E E E E E (.row E) (.lit (e:=A0) (l:=[q]) E E) qz (by rw[hll];simp;omega) (by rw[hll];simp;omega)) E E ?_
  refine oO ?_
  refine iW ?_
  exact An [(1000,16)] hlt ⟨⟨E,E,E,E,E,E,E,E,Y⟩,⟨.inl (congrArg (Ob.row 7 A0) hs),E,Y⟩,E,E⟩
 ·have hjj:j=l.length:=qB h
  subst hjj
  rw[List.take_length]
  refine oO ?_
  exact done E (.cons .tmp .nil) [(0,1000)] [(0,.row 7 A0 l)] (fun _ h=>h) E E ⟨Y,⟨.inl E,E,Y⟩,E,E⟩
theorem Agj (l:List QueuedM) (q:QueuedM) (hl:l.length<1000000) (hb:Q3 l) (hqb:q.frame.body.length<100000) :
  Sy.Spec Tryz.prog 228 [.sl 7 A0 l,A0 q] [] (.tup [.sl 7 A0 (pushT l q).1,Ab (pushT l q).2]) []:=cT F228 Tryz.ntmps228 fun F hF=>by
 have hres:=pushT.eq_1 l q
 generalize pushT l q=res at *
 conv=>whnf
 refine Ad (Af [(0,55)] E F179 (Atr l hl hb) E Y E ⟨.inr E,Y⟩) E E ?_
 refine oO ?_
 refine⟨fun h=>?_,fun h=>?_⟩
 ·rw[if_pos (qA h)]at hres
  subst hres
  refine oO ?_
  refine Ao 55 E ?_
  exact dN
 ·rw[if_neg (qB h)]at hres
  subst hres
  refine oO ?_
  refine c0 (Ae1 q hqb) F180 ?_
  refine oO ?_
  refine Ad (Ac Γ.toTy 17 E E E E E (.row E) (.lit (e:=A0) (l:=[q]) E E) qy (by simp;omega) (by simp;omega)) E E ?_
  refine Ao 17 E ?_
  refine oO ?_
  exact dN
theorem Aiw (l:List QueuedM) (q:QueuedM) (hl:l.length<1000000) :
  Sy.Spec Tryz.prog 188 [.sl 7 A0 l,A0 q] [] (.tup [.sl 7 A0 (pushT l q).1,Ab (pushT l q).2]) []:=cT F188 Tryz.ntmps188 fun F hF=>by
 have hres:=pushT.eq_1 l q
 generalize pushT l q=res at *
 conv=>whnf
 refine Ad (Ac Γ.toTy 9 E E E E E (.lit (e:=A0) (l:=[]) E E) .sl qz (by simp;omega) (by simp;omega)) E E ?_
 refine oO ?_
 refine⟨fun h=>?_,fun h=>?_⟩
 ·rw[if_pos (qA h)]at hres
  subst hres
  refine oO ?_
  refine Ao 9 E ?_
  exact dN
 ·rw[if_neg (qB h)]at hres
  subst hres
  refine oO ?_
  refine Ad (Ac Γ.toTy 17 E E E E E (.row E) (.lit (e:=A0) (l:=[q]) E E) qy (by simp;omega) (by simp;omega)) E E ?_
  refine Ao 17 E ?_
  refine oO ?_
  exact dN
def Ok (l:List QueuedM) (at_:Int) (j:Nat):List QueuedM:=if 0≤at_∧at_<j then (l.take j).eraseIdx at_.toNat else l.take j
theorem Ain (l:List QueuedM) (at_:Int) {j:Nat} (h:j<l.length):Ok l at_ (j+1)=if (j:Int)≠at_ then Ok l at_ j++[l[j]] else Ok l at_ j:=by
 have hll:(l.take j).length=j:=by rw[List.length_take];omega
 unfold Ok
 rw[List.take_succ_eq_append_getElem h]
 by_cases h1:(j:Int)=at_
 ·rw[if_neg (show ¬ (j:Int)≠at_ from fun h=>h h1),if_pos (show 0≤at_∧at_<((j+1:Nat):Int) by omega),if_neg (show ¬ (0≤at_∧at_<(j:Int)) by omega),show at_.toNat=j by omega,List.eraseIdx_append_of_length_le qn,hll,Nat.sub_self]
  simp
 ·rw[if_pos (show (j:Int)≠at_ from h1)]
  by_cases h2:0≤at_∧at_<j
  ·rw[if_pos h2,if_pos (show 0≤at_∧at_<((j+1:Nat):Int) by omega),List.eraseIdx_append_of_lt_length qn]
  ·rw[if_neg h2,if_neg (show ¬ (0≤at_∧at_<((j+1:Nat):Int)) by omega)]
theorem Adz (l:List QueuedM) (at_:Int) (j:Nat):(Ok l at_ j).length≤l.length:=by
 unfold Ok
 split
 ·exact Nat.le_trans (List.length_eraseIdx_le _ _) (by rw[List.length_take];omega)
 ·rw[List.length_take];omega
theorem Aiv (l:List QueuedM) (at_:Int) (hl:l.length<1000000) :
  Sy.Spec Tryz.prog 191 [.sl 7 A0 l,Aa at_] [] (.tup [A0 (takeT l at_).1,.sl 7 A0 (takeT l at_).2.1,Ab (takeT l at_).2.2]) []:=cT F191 Tryz.ntmps191 fun F hF=>by
 have hres:=takeT.eq_1 l at_
 generalize takeT l at_=res at *
 conv=>whnf
 refine Bm 7 1000 7 A0 E E ?_
 refine At l.length (fun j=>[(0,.sl 7 A0 l),(1,Aa at_),(4,.ptr 4 0),(7,.osl 1000),(8,Aa j)]) (fun j=>[(4,.box [Aa 0,Aa 0,Aa 0,As 0,As 0,Aa 0,.val (.slice none 0 0)]),(1000,.row 7 A0 (Ok l at_ j))]) [(4,4),(1000,1000)] ⟨⟨E,E,E,E,E,E,E,E,E,E,Y⟩,⟨.inl E,E,.inl (congrArg (Ob.row 7 A0) (by simp[Ok])),E,Y⟩,E,E⟩ ?_
 intro j hj
 have hrl:=Adz l at_ j
 refine oO ?_
 refine⟨fun h=>?_,fun h=>?_⟩
 ·have hlt:j<l.length:=qA h
  have hj0:((j:Nat):Int).toNat<l.length:=by simpa using hlt
  have hs:=Ain l at_ hlt
  obtain ⟨q,hq⟩:∃ q,l[j]=q:=⟨_,rfl⟩
  have e1:l[((j:Nat):Int).toNat]'hj0=q:=hq
  rw[hq]at hs
  clear h
  refine oO ?_
  refine⟨fun h=>?_,fun h=>?_⟩
  ·rw[if_pos (by simpa using h)]at hs
   refine oO ?_
   refine⟨E,by omega,hj0,?_⟩
   rw[e1]
   conv=>whnf
   refine Ad (Ac Γ.toTy 24 E E E E E (.row E) (.lit (e:=A0) (l:=[q]) E E) qz (by simp;omega) (by simp;omega)) E E ?_
   refine oO ?_
   refine iW ?_
   exact An [(4,4),(1000,24)] hlt ⟨⟨E,E,E,E,E,E,E,E,E,E,Y⟩,⟨.inl E,E,.inl (congrArg (Ob.row 7 A0) hs),E,Y⟩,E,E⟩
  ·rw[if_neg (by simpa using h)]at hs
   refine oO ?_
   refine iW ?_
   exact An [(4,4),(1000,1000)] hlt ⟨⟨E,E,E,E,E,E,E,E,E,E,Y⟩,⟨.inl E,E,.inl (congrArg (Ob.row 7 A0) hs),E,Y⟩,E,E⟩
 have hjj:j=l.length:=qB h
 subst hjj
 clear h
 refine oO ?_
 have bad:at_<0∨(l.length:Int)≤at_→Ok l at_ l.length=l∧res=(noQ,l,false):=fun h=>by
  rw[if_pos h]at hres
  refine⟨?_,hres⟩
  rw[Ok,if_neg qn,List.take_length]
 refine⟨fun h=>?_,fun h=>?_⟩
 ·obtain ⟨b1,b2⟩:=bad (.inl (of_decide_eq_true h))
  subst b2
  rw[b1]
  refine oT ?_
  refine Ao 1000 E ?_
  refine Ar 4 [Aa 0,Aa 0,Aa 0,As 0,As 0,Aa 0,.sl 1 Ag []] E (.cons (.refl _) (.cons (.refl _) (.cons (.refl _) (.cons (.refl _) (.cons (.refl _) (.cons (.refl _) (.cons .nil .nil))))))) ?_
  exact dN
 have h0:0≤at_:=qB h
 clear h
 refine oO ?_
 refine⟨fun h=>?_,fun h=>?_⟩
 ·obtain ⟨b1,b2⟩:=bad (.inr (qA h))
  subst b2
  rw[b1]
  refine oO ?_
  refine Ao 1000 E ?_
  refine Ar 4 [Aa 0,Aa 0,Aa 0,As 0,As 0,Aa 0,.sl 1 Ag []] E (.cons (.refl _) (.cons (.refl _) (.cons (.refl _) (.cons (.refl _) (.cons (.refl _) (.cons (.refl _) (.cons .nil .nil))))))) ?_
  exact dN
 have h1:at_<l.length:=qB h
 clear h bad
 have hk:at_.toNat<l.length:=by omega
 rw[if_neg qn,List.getElem?_eq_getElem hk,Option.getD_some]at hres
 obtain ⟨q,hq⟩:∃ q,l[at_.toNat]'hk=q:=⟨_,rfl⟩
 rw[hq]at hres
 have hru:Ok l at_ l.length=l.eraseIdx at_.toNat:=by rw[Ok,if_pos ⟨h0,h1⟩,List.take_length]
 rw[hru]
 subst hres
 refine oO ?_
 refine⟨E,h0,hk,?_⟩
 rw[hq]
 conv=>whnf
 refine Ao 1000 E ?_
 exact dN
theorem Aja (l:List QueuedM) (at_:Int) (hl:l.length<1000000) (hb:Q3 l) :
  Sy.Spec Tryz.prog 120 [.sl 7 A0 l,Aa at_] [] (.tup [A0 (takeT l at_).1,.sl 7 A0 (takeT l at_).2.1,Ab (takeT l at_).2.2]) []:=cT F120 Tryz.ntmps120 fun F hF=>by
 have hres:=takeT.eq_1 l at_
 generalize takeT l at_=res at *
 conv=>whnf
 refine⟨fun h=>?_,fun h=>?_⟩
 ·rw[if_pos (.inl (of_decide_eq_true h))]at hres
  subst hres
  refine oT ?_
  refine Ad (Af [(0,55)] E F179 (Atr l hl hb) E Y E ⟨.inr E,Y⟩) E E ?_
  refine Ao 55 E ?_
  refine oO ?_
  refine Ar 4 [Aa 0,Aa 0,Aa 0,As 0,As 0,Aa 0,.sl 1 Ag []] E (.cons (.refl _) (.cons (.refl _) (.cons (.refl _) (.cons (.refl _) (.cons (.refl _) (.cons (.refl _) (.cons .nil .nil))))))) ?_
  exact dN
 have h0:0≤at_:=qB h
 clear h
 refine oO ?_
 refine⟨fun h=>?_,fun h=>?_⟩
 ·rw[if_pos (.inr (of_decide_eq_true h))]at hres
  subst hres
  refine oO ?_
  refine Ad (Af [(0,55)] E F179 (Atr l hl hb) E Y E ⟨.inr E,Y⟩) E E ?_
  refine Ao 55 E ?_
  refine oO ?_
  refine Ar 4 [Aa 0,Aa 0,Aa 0,As 0,As 0,Aa 0,.sl 1 Ag []] E (.cons (.refl _) (.cons (.refl _) (.cons (.refl _) (.cons (.refl _) (.cons (.refl _) (.cons (.refl _) (.cons .nil .nil))))))) ?_
  exact dN
 have h1:at_<l.length:=qB h
 clear h
 have hk:at_.toNat<l.length:=by omega
 have hne:l≠[]:=fun e=>by rw[e]at hk;simp at hk
 have hkk:((at_.toNat:Nat):Int)=at_:=by omega
 rw[if_neg qn,List.getElem?_eq_getElem hk,Option.getD_some]at hres
 obtain ⟨q,hq⟩:∃ q,l[at_.toNat]'hk=q:=⟨_,rfl⟩
 rw[hq]at hres
 have hqb:=hb q (by rw[← hq];exact List.getElem_mem hk)
 refine G_dat 0 90 E hne ?_
 intro B off cap hcap
 refine run Γ hm 3 ?_
 conv=>whnf
 refine Bd (Xl 90 (.inl E) E E) qq E ?_
 refine oD ?_
 refine⟨E,h0,hk,?_⟩
 rw[hq]
 conv=>whnf
 refine cD (Ae1 q hqb) F180 ?_
 refine oD ?_
 refine Bd (Abu (hi:=at_.toNat) Γ.toTy E E E E (congrArg (fun z=>SV.val (.int .i64 z)) hkk.symm) (congrArg (fun z=>SV.val (.int .i64 z)) hkk.symm) qn) qq E ?_
 refine Bd (Xl 90 (.inl E) E E) qq E ?_
 refine oD ?_
 refine iW ?_
 refine Bd (Be (lo:=at_.toNat+1) (hi:=l.length) Γ.toTy E E E E (.inr ⟨_,_,E,congrArg (fun z=>SV.val (.int .i64 z)) qn⟩) (.inl ⟨E,E⟩) qn (Nat.le_refl _)) qq E ?_
 have hll:((l.take l.length).drop (at_.toNat+1)).length=l.length-(at_.toNat+1):=by rw[List.length_drop,List.length_take];omega
 refine Bd (Ab0 Γ.toTy 90 E E E E E E (Nat.le_of_lt hk) E (by rw[hll];omega) (by rw[hll];omega)) qq E ?_
 have he:l.take at_.toNat++(l.take l.length).drop (at_.toNat+1)=l.eraseIdx at_.toNat:=by rw[List.take_length,List.eraseIdx_eq_take_drop_succ]
 have hel:(l.take at_.toNat++(l.take l.length).drop (at_.toNat+1)).length<1000000:=by rw[he,List.length_eraseIdx];split<;>omega
 have heb:Q3 (l.take at_.toNat++(l.take l.length).drop (at_.toNat+1)):=by rw[he];exact fun x hx=>hb x (List.mem_of_mem_eraseIdx hx)
 refine oD ?_
 refine Bd (Af [(0,55)] E F179 (Atr _ hel heb) E Y E ⟨.inr E,Y⟩) qq E ?_
 refine oD ?_
 refine kW ?_
 refine Ao 55 E ?_
 refine Aq E (.cons (.cell E E E E) (.cons .tmp (.cons .tmp .nil))) ?_ E
 subst hres
 show SV.tup [_,.sl 7 A0 (l.eraseIdx at_.toNat),_]=SV.tup [_,.sl 7 A0 (l.take at_.toNat++(l.take l.length).drop (at_.toNat+1)),_]
 rw[he]
 rfl
def Hf {α:Type} (q:α→Bool) (l:List α):Nat→Nat
 | 0=>0
 | j+1=>match l[j]? with
  | some x=>if q x=true then Hf q l j+1 else Hf q l j
  | none=>Hf q l j
def dfC {α:Type} (q:α→Bool) (l:List α):Nat→List α
 | 0=>l
 | j+1=>match l[j]? with
  | some x=>if q x=true then (dfC q l j).set (Hf q l j) x else dfC q l j
  | none=>dfC q l j
theorem Yo {α:Type} (q:α→Bool) (l:List α) (j:Nat):Hf q l j≤j:=by
 induction j with
 | zero=>exact Nat.le_refl _
 | succ j ih =>
  simp only[Hf]
  split
  ·split<;>omega
  ·omega
theorem T7 {α:Type} (q:α→Bool) (l:List α) (j:Nat):(dfC q l j).length=l.length:=by
 induction j with
 | zero=>rfl
 | succ j ih =>
  simp only[dfC]
  split
  ·split
   ·rw[List.length_set];exact ih
   ·exact ih
  ·exact ih
theorem Amd {α:Type} (q:α→Bool) (l:List α) (j k:Nat) (h:j≤k):(dfC q l j)[k]? = l[k]?:=by
 induction j with
 | zero=>rfl
 | succ j ih =>
  simp only[dfC]
  split
  ·split
   ·rw[List.getElem?_set_ne (by have:=Yo q l j;omega)];exact ih qn
   ·exact ih qn
  ·exact ih qn
theorem Ahx {α:Type} (q:α→Bool) (l:List α) (j:Nat) (h:j≤l.length):(dfC q l j).take (Hf q l j)=(l.take j).filter q:=by
 induction j with
 | zero=>rfl
 | succ j ih =>
  have hj:j<l.length:=by omega
  have ih:=ih qn
  have hc:=Yo q l j
  simp only[dfC,Hf,List.getElem?_eq_getElem hj]
  rw[List.take_add_one,List.getElem?_eq_getElem hj,List.filter_append]
  by_cases hq:q l[j]=true
  ·rw[if_pos hq,if_pos hq]
   have hlt:Hf q l j<((dfC q l j).set (Hf q l j) l[j]).length:=by rw[List.length_set,T7];omega
   rw[List.take_add_one,List.getElem?_eq_getElem hlt,List.getElem_set_self]
   rw[List.take_set_of_le (Nat.le_refl _),ih]
   simp[hq]
  ·rw[if_neg hq,if_neg hq,ih]
   simp[hq]
theorem Adf {α:Type} (q:α→Bool) (l:List α) (i:Nat) (hi:i≤l.length) (h:∀ k (hk:k<l.length),k<i→q l[k]=true):dfC q l i=l∧Hf q l i=i:=by
 induction i with
 | zero=>exact⟨rfl,rfl⟩
 | succ i ih =>
  obtain ⟨h1,h2⟩:=ih qn (fun k hk hki=>h k hk qn)
  have hil:i<l.length:=by omega
  simp only[dfC,Hf,List.getElem?_eq_getElem hil]
  rw[if_pos (h i hil qn),if_pos (h i hil qn),h1,h2]
  exact⟨List.set_getElem_self hil,E⟩
theorem I6 {α:Type} (p:α→Bool) (l:List α):(Dq p l=-1∧∀ x∈l,p x=false)∨∃ (i:Nat) (hi:i<l.length),Dq p l=i∧p l[i]=true∧∀ k (hk:k<l.length),k<i→p l[k]=false:=by
 unfold Dq
 cases h:l.findIdx? p with
 | none=>exact .inl ⟨rfl,by simpa using h⟩
 | some i =>
  rw[List.findIdx?_eq_some_iff_getElem]at h
  obtain ⟨hi,h1,h2⟩:=h
  exact .inr ⟨i,hi,E,h1,fun k hk hki=>by simpa using h2 k hki⟩
theorem Qv (l:List EntryM) (hl:l.length<2147483648):Sy.Spec Tryz.prog 243 [.sl 3 Al l] [] (.osl 0) [(0,.row 3 Al l)]:=cT F243 Tryz.ntmps243 fun F hF=>by
 conv=>whnf
 refine Ej E (.inl E) E E E .sl E E ?_
 intro b hb
 cases b
 ·refine oF ?_
  refine Ad (Ac Γ.toTy 7 E E E E E (.lit (e:=Al) (l:=[]) E E) .sl qz (by simp;omega) (by simp;omega)) E E ?_
  refine oO ?_
  exact done E (.cons .tmp .nil) [(0,7)] [(0,.row 3 Al l)] (fun _ h=>h) E E ⟨Y,⟨.inl E,E,Y⟩,E,E⟩
 ·have h0:l=[]:=List.eq_nil_of_length_eq_zero (hb rfl)
  subst h0
  refine oT ?_
  refine Bm 2 1000 3 Al E E ?_
  exact done E (.cons .tmp .nil) [(0,1000)] [(0,.row 3 Al [])] (fun _ h=>h) E E ⟨Y,⟨.inl E,E,Y⟩,E,E⟩
theorem Mi (l:List EntryM) (p:EntryM→Bool) (f:FuncId) (first cap:List SV) (hc:(SV.clo (.func f) first cap).inn []=true) (hf:∀ x∈l,J4 Tryz.prog f (first++[Al x]++cap) (Ab (p x))) (hl:Ap l) :
  Sy.Spec Tryz.prog 310 [.sl 3 Al l,.clo (.func f) first cap] [] (Aa (Dq p l)) []:=cT F310 Tryz.ntmps310 fun F hF=>by
 unfold Ap at hl
 have hin:∀ x:EntryM,Ct [] (first++[Al x]++cap)=true:=fun x=>Dv hc rfl
 conv=>whnf
 refine Ay l.length (fun j=>Dd (fun _ x=>!(p x)) l j) (fun j=>[(0,.sl 3 Al l),(1,.clo (.func f) first cap),(7,Aa l.length),(8,Aa j)]) (fun _=>[]) [] (A2 _ _) ⟨⟨E,E,Br _,hc,E,E,E,E,Y⟩,Y,E,E⟩ ?_
 intro j hj hI
 refine oO ?_
 refine⟨fun h=>?_,fun h=>?_⟩
 ·have h:=of_decide_eq_true h
  have hj2:j<l.length:=by omega
  refine oO ?_
  refine⟨E,by omega,by omega,?_⟩
  conv=>whnf
  refine Ef (hf l[j] (List.getElem_mem hj2)) E E E (by simp only[hin];rfl) E E ?_
  refine oO ?_
  refine⟨fun h2=>?_,fun h2=>?_⟩
  ·refine oO ?_
   refine Aq E (.cons .tmp .nil) (congrArg Aa ?_) E
   exact C3 hj2 (fun i hi hij=>by simpa using hI i hi hij) h2
  ·refine oO ?_
   refine iW ?_
   exact Av [] hI hj2 (A1 hI hj2 (by simp[h2])) ⟨⟨E,E,Br _,hc,E,E,E,E,Y⟩,Y,E,E⟩
 ·have h:=of_decide_eq_false h
  refine oO ?_
  refine Aq E (.cons .tmp .nil) (congrArg Aa ?_) E
  exact Dk (fun i hi=>by simpa using hI i hi qn)
theorem Vq (l:List EntryM) (p:EntryM→Bool) (f:FuncId) (first cap:List SV) (hc:(SV.clo (.func f) first cap).inn []=true) (hc0:(SV.clo (.func f) first cap).inn [0]=true) (hf:∀ x∈l,J4 Tryz.prog f (first++[Al x]++cap) (Ab (p x))) (hl:Ap l) :
  Sy.Spec Tryz.prog 245 [.osl 0,.clo (.func f) first cap] [(0,.row 3 Al l)] (.osl 1) [(0,.non),(1,.row 3 Al (l.filter fun x=>!(p x)))]:=cT F245 Tryz.ntmps245 fun F hF=>by
 have qi:=Mi l p f first cap hc hf hl
 unfold Ap at hl
 have hin:∀ x:EntryM,Ct [] (first++[Al x]++cap)=true:=fun x=>Dv hc rfl
 conv=>whnf
 refine Aa4 [0] qi F310 E (.cons (.row E E) (.cons (.refl _) .nil)) (by simp only[Ct,hc,Bool.and_true];rfl) E E ?_
 rcases I6 p l with ⟨h1,h2⟩ | ⟨i,hi,h1,h2,h3⟩
 ·rw[h1]
  have e1:(l.filter fun x=>!(p x))=l:=List.filter_eq_self.2 (fun x hx=>by simp[h2 x hx])
  rw[e1]
  refine oT ?_
  refine Alc 0 1000 [0,4] E E qy (by simp;exact⟨E,E⟩) ?_
  exact done E (.cons .tmp .nil) [(0,0),(1,1000)] _ (fun _ h=>h) E E ⟨Y,⟨.inl E,E,.inl E,E,Y⟩,E,E⟩
 obtain ⟨f1,f2⟩:=Adf (fun x=>!(p x)) l i qn (fun k hk hki=>by simp[h3 k hk hki])
 have g1:dfC (fun x=>!(p x)) l (i+1+0)=l:=by
  show dfC (fun x=>!(p x)) l (i+1)=l
  simp only[dfC,List.getElem?_eq_getElem hi]
  rw[if_neg (by simp[h2]),f1]
 have g2:Hf (fun x=>!(p x)) l (i+1+0)=i:=by
  show Hf (fun x=>!(p x)) l (i+1)=i
  simp only[Hf,List.getElem?_eq_getElem hi]
  rw[if_neg (by simp[h2]),f2]
 rw[h1]
 refine oF ?_
 refine iW ?_
 refine At (l.length-(i+1)) (fun j=>[(0,.osl 0),(1,.clo (.func f) first cap),(5,Aa (Hf (fun x=>!(p x)) l (i+1+j))),(6,Aa ((i+1+j:Nat)))]) (fun j=>[(0,.row 3 Al (dfC (fun x=>!(p x)) l (i+1+j)))]) []
  ⟨⟨rfl,rfl,Br _,hc0,congrArg Aa (congrArg Int.ofNat g2),rfl,congrArg (fun z=>SV.val (.int .i64 z)) qn,rfl,trivial⟩,⟨.inl (congrArg (Ob.row 3 Al) g1),rfl,trivial⟩,rfl,rfl⟩ ?_
 intro j hj
 have hcl:=Yo (fun x=>!(p x)) l (i+1+j)
 have hdl:=T7 (fun x=>!(p x)) l (i+1+j)
 have hget:=Amd (fun x=>!(p x)) l (i+1+j) (i+1+j) (Nat.le_refl _)
 have s1:∀ h:i+1+j<l.length,Hf (fun x=>!(p x)) l (i+1+(j+1))=if (!(p l[i+1+j]))=true then Hf (fun x=>!(p x)) l (i+1+j)+1 else Hf (fun x=>!(p x)) l (i+1+j):=fun hlt=>by
  show Hf (fun x=>!(p x)) l (i+1+j+1)=_
  simp only[Hf,List.getElem?_eq_getElem hlt]
 have s2:∀ h:i+1+j<l.length,dfC (fun x=>!(p x)) l (i+1+(j+1))=if (!(p l[i+1+j]))=true then (dfC (fun x=>!(p x)) l (i+1+j)).set (Hf (fun x=>!(p x)) l (i+1+j)) l[i+1+j] else dfC (fun x=>!(p x)) l (i+1+j):=fun hlt=>by
  show dfC (fun x=>!(p x)) l (i+1+j+1)=_
  simp only[dfC,List.getElem?_eq_getElem hlt]
 have htk:=fun h=>Ahx (fun x=>!(p x)) l (i+1+j) h
 obtain ⟨D,hD⟩:∃ D,dfC (fun x=>!(p x)) l (i+1+j)=D:=⟨_,rfl⟩
 obtain ⟨K,hK⟩:∃ K,Hf (fun x=>!(p x)) l (i+1+j)=K:=⟨_,rfl⟩
 rw[hD]at hdl hget s2 htk ⊢
 rw[hK]at hcl s1 s2 htk ⊢
 refine oO ?_
 refine⟨fun h=>?_,fun h=>?_⟩
 ·have hlt:i+1+j<l.length:=qA h
  have hfx:=hf l[i+1+j] (List.getElem_mem hlt)
  have s1:=s1 hlt
  have s2:=s2 hlt
  rw[List.getElem?_eq_getElem hlt,List.getElem?_eq_getElem qn]at hget
  have hget:=Option.some.inj hget
  obtain ⟨x,hx⟩:∃ x,l[i+1+j]=x:=⟨_,rfl⟩
  rw[hx]at hfx s1 s2 hget
  refine oO ?_
  refine⟨by omega,by simp;omega,?_⟩
  conv=>whnf
  refine⟨E,by omega,?_⟩
  rw[show D[((i+1+j:Nat):Int).toNat]'qn=x from hget]
  conv=>whnf
  refine Ef hfx E E E (by simp only[hin];rfl) E E ?_
  cases hpx:p x
  ·rw[hpx]at s1 s2
   refine oT ?_
   refine⟨by omega,by simp;omega,?_⟩
   conv=>whnf
   refine⟨E,by omega,x,E,E,?_⟩
   conv=>whnf
   refine iW ?_
   refine iW ?_
   exact An [] qn ⟨⟨E,E,Br _,hc0,congrArg Aa (congrArg Int.ofNat s1),E,congrArg (fun z=>SV.val (.int .i64 z)) qn,E,Y⟩,⟨.inl (congrArg (Ob.row 3 Al) s2),E,Y⟩,E,E⟩
  ·rw[hpx]at s1 s2
   refine oF ?_
   refine iW ?_
   exact An [] qn ⟨⟨E,E,Br _,hc0,congrArg Aa (congrArg Int.ofNat s1),E,congrArg (fun z=>SV.val (.int .i64 z)) qn,E,Y⟩,⟨.inl (congrArg (Ob.row 3 Al) s2),E,Y⟩,E,E⟩
 ·have hend:i+1+j=l.length:=qB h
  have hne:D≠[]:=fun h=>by rw[h]at hdl;simp at hdl;omega
  have htk:=htk qn
  rw[show l.take (i+1+j)=l from List.take_of_length_le qn]at htk
  refine Amj 0 [0] E hne (by simp;rfl) ?_
  intro b cap' hcap
  refine oO ?_
  refine Ad (Dh Γ.toTy E E E E (.inr ⟨_,_,E,E⟩) (.inl ⟨E,E⟩) qn qn) E E ?_
  refine oO ?_
  refine Ad (K4 Γ.toTy 0 (k:=K) E E E E qy E E E qn qn) E E ?_
  refine oO ?_
  refine Ad (Dh Γ.toTy E E E E (.inl ⟨E,E⟩) (.inr ⟨_,_,E,E⟩) qn qn) E E ?_
  refine oO ?_
  refine Yr 0 1000 [4] K E E (by rw[List.length_take];omega) (fun i hi=>?_) ?_
  ·rw[List.mem_singleton]at hi
   subst hi
   show SV.val (.slice (some (if cap'=0 then ⟨b,0,none⟩ else ⟨b,0 * 3,none⟩)) (K-0) (cap'-0))=_
   split<;>simp
  refine done E (.cons .tmp .nil) [(0,0),(1,1000)] _ (fun _ h=>h) E E ⟨Y,⟨.inl E,E,.inl ?_,E,Y⟩,E,E⟩
  rw[← htk]
  exact congrArg (Ob.row 3 Al) (by rw[List.take_take,Nat.min_self])
theorem Ab2 (l:List EntryM) (i:Nat) (hi:i<l.length) (_hl:Ap l) :
  Sy.Spec Tryz.prog 344 [.osl 0,Aa i,Aa ((i+1:Nat):Int)] [(0,.row 3 Al l)] (.osl 1) [(0,.non),(1,.row 3 Al (l.take i++l.drop (i+1)))]:=cT F344 Tryz.ntmps344 fun F hF=>by
 have hne:l≠[]:=fun h=>by rw[h]at hi;simp at hi
 ((conv=>whnf);repeat((first|refine aF ?_|refine aT ?_);(first|refine rG Γ hm ?_|refine rD Γ hm qq ?_);conv=>whnf))
 refine Amj 0 [0,8] E hne (by simp;exact⟨E,E⟩) ?_
 intro b cap hcap
 ((first|refine rG Γ hm ?_|refine rD Γ hm qq ?_);(conv=>whnf);repeat((first|refine aF ?_|refine aT ?_);(first|refine rG Γ hm ?_|refine rD Γ hm qq ?_);conv=>whnf))
 refine Ad (Abt Γ.toTy E E E E E E E qn qn hcap) E E ?_
 ((first|refine rG Γ hm ?_|refine rD Γ hm qq ?_);(conv=>whnf);repeat((first|refine aF ?_|refine aT ?_);(first|refine rG Γ hm ?_|refine rD Γ hm qq ?_);conv=>whnf))
 refine⟨fun h=>absurd h (by simp;omega),fun _=>?_⟩
 ((first|refine rG Γ hm ?_|refine rD Γ hm qq ?_);(conv=>whnf);repeat((first|refine aF ?_|refine aT ?_);(first|refine rG Γ hm ?_|refine rD Γ hm qq ?_);conv=>whnf))
 refine Bd (Dh Γ.toTy E E E E (.inl ⟨E,E⟩) (.inr ⟨_,_,E,E⟩) qn qn) qq E ?_
 ((first|refine rG Γ hm ?_|refine rD Γ hm qq ?_);(conv=>whnf);repeat((first|refine aF ?_|refine aT ?_);(first|refine rG Γ hm ?_|refine rD Γ hm qq ?_);conv=>whnf))
 refine Bd (Dh (hi:=l.length) Γ.toTy E E E E (.inr ⟨_,_,E,E⟩) (.inl ⟨E,E⟩) qn qn) qq E ?_
 ((first|refine rG Γ hm ?_|refine rD Γ hm qq ?_);(conv=>whnf);repeat((first|refine aF ?_|refine aT ?_);(first|refine rG Γ hm ?_|refine rD Γ hm qq ?_);conv=>whnf))
 have hif:(if cap=0 then (⟨b,0,none⟩:Addr) else ⟨b,0 * 3,none⟩)=⟨b,0,none⟩:=by split<;>simp
 refine Bd (X7 Γ.toTy 0 (n:=l.length) (i:=i) (j:=i+1) E E E (congrArg (fun z=>SV.val (.slice (some z) i cap)) hif) E E E E qn qn) qq E ?_
 ((first|refine rG Γ hm ?_|refine rD Γ hm qq ?_);(conv=>whnf);repeat((first|refine aF ?_|refine aT ?_);(first|refine rG Γ hm ?_|refine rD Γ hm qq ?_);conv=>whnf))
 refine⟨qq,?_⟩
 ((conv=>whnf);repeat((first|refine aF ?_|refine aT ?_);(first|refine rG Γ hm ?_|refine rD Γ hm qq ?_);conv=>whnf))
 refine Ad (Dh (lo:=i+(l.length-(i+1))) (hi:=l.length) Γ.toTy E E E E (.inr ⟨_,_,E,E⟩) (.inr ⟨_,_,E,E⟩) qn qn) E E ?_
 ((first|refine rG Γ hm ?_|refine rD Γ hm qq ?_);(conv=>whnf);repeat((first|refine aF ?_|refine aT ?_);(first|refine rG Γ hm ?_|refine rD Γ hm qq ?_);conv=>whnf))
 have hll:(l.take i++l.drop (i+1)).length=i+(l.length-(i+1)):=by rw[List.length_append,List.length_take,List.length_drop];omega
 refine Ad (K4 Γ.toTy 0 (k:=i+(l.length-(i+1))) E E E E qy E E E qn qn) E E ?_
 ((first|refine rG Γ hm ?_|refine rD Γ hm qq ?_);(conv=>whnf);repeat((first|refine aF ?_|refine aT ?_);(first|refine rG Γ hm ?_|refine rD Γ hm qq ?_);conv=>whnf))
 refine Yr 0 1000 [6] (i+(l.length-(i+1))) E E (by rw[List.length_take];omega) (by simp;rfl) ?_
 refine done E (.cons .tmp .nil) [(0,0),(1,1000)] _ (fun _ h=>h) E E ⟨Y,⟨.inl E,E,.inl ?_,E,Y⟩,E,E⟩
 exact congrArg (Ob.row 3 Al) (by rw[List.take_take,Nat.min_self];exact(List.take_of_length_le qn).symm)
theorem Wx (m:Nat) (h:m<18446744073709551616):Sy.Spec Tryz.prog 294 [As m] [] (Ab (Ex m)) []:=cT F294 Tryz.ntmps294 fun F hF=>by
 have q:=Md m h
 conv=>whnf
 refine⟨fun h1=>?_,fun h1=>?_⟩
 ·have h2:m≤281474976710655:=by simp at h1;omega
  refine oO ?_
  refine c0 q F226 ?_
  refine oO ?_
  exact Aq E (.cons .tmp .nil) (congrArg Ab (by rw[Ex,decide_eq_true h2,Bool.true_and])) E
 ·have h2:¬ m≤281474976710655:=by simp at h1;omega
  refine oO ?_
  exact Aq E (.cons .tmp .nil) (congrArg Ab (by rw[Ex,decide_eq_false h2,Bool.false_and])) E
theorem Tc (i:Int):Sy.Spec Tryz.prog 244 [Aa i] [] (Ab (Cu i)) []:=cT F244 Tryz.ntmps244 fun F hF=>by
 conv=>whnf
 (repeat' (first | (refine⟨fun h=>?_,fun h=>?_⟩<;>(repeat (first | simp only[decide_eq_true_eq]at h | simp only[decide_eq_false_iff_not]at h))<;>((refine oO ?_))) | (refine Aq rfl (.cons .tmp .nil) ?_ rfl)))
 all_goals (refine congrArg Ab ?_)
 all_goals grind [Cu]
theorem Amo (m:Nat) (e:EntryM):Sy.Spec Tryz.prog 342 [Al e,.ref 1 (As m) 0] [] (Ab (decide (e.mac=m))) []:=cT F342 Tryz.ntmps342 fun F hF=>by
 conv=>whnf
 refine Aq E (.cons .tmp .nil) ?_ E
 refine congrArg Ab ?_
 rw[Bool.eq_iff_iff];simp;omega
theorem V6 (t:List EntryM) (m:Nat) (hl:Ap t):Sy.Spec Tryz.prog 295 [.sl 3 Al t,As m] [] (Aa (Cz t m)) []:=cT F295 Tryz.ntmps295 fun F hF=>by
 have q:=Mi t (fun e=>decide (e.mac=m)) 342 [] [.ref 1 (As m) 0] rfl (fun x _=>⟨⟨_,_,F342⟩,Amo m x⟩) hl
 conv=>whnf
 refine A3 3 1 (As m) E E E ?_
 refine oO ?_
 refine c0 q F310 ?_
 refine oO ?_
 exact dN
theorem Apb (t:List EntryM) (m:Nat) (hl:Ap t):Sy.Spec Tryz.prog 349 [.sl 3 Al t,As m] [] (.tup [Aa (findE t m).1,Ab (findE t m).2]) []:=cT F349 Tryz.ntmps349 fun F hF=>by
 have q:=V6 t m hl
 have hlt:Cz t m<t.length:=Ji _ _
 have hres:=findE.eq_1 t m
 generalize findE t m=res at *
 generalize Cz t m=i at *
 conv=>whnf
 refine c0 q F295 ?_
 refine oO ?_
 refine⟨fun h=>?_,fun h=>?_⟩
 ·rw[if_pos (by simpa using h)]at hres
  subst hres
  refine oO ?_
  exact dN
 ·have h0:¬ i<0:=by simpa using h
  have hi:i.toNat<t.length:=by omega
  rw[if_neg h0,List.getElem?_eq_getElem hi]at hres
  subst hres
  refine oO ?_
  refine⟨E,by omega,by omega,?_⟩
  conv=>whnf
  exact dN
theorem Q5 (t:List EntryM) (hl:Ap t) (hmac:∀ e∈t,e.mac<18446744073709551616):Sy.Spec Tryz.prog 230 [.sl 3 Al t] [] (Ab (tableB t)) []:=cT F230 Tryz.ntmps230 fun F hF=>by
 unfold Ap at hl
 have hres:=tableB.eq_1 t
 generalize tableB t=res at *
 conv=>whnf
 refine⟨fun h=>?_,fun h=>?_⟩
 ·have h8:¬ t.length≤8:=by simp at h;omega
  rw[decide_eq_false h8,Bool.false_and]at hres
  subst hres
  refine oO ?_
  exact dN
 have h8:t.length≤8:=by simp at h;omega
 rw[decide_eq_true h8,Bool.true_and]at hres
 refine oO ?_
 refine Ay t.length (fun j=>Dd (I9 t) t j) (fun j=>[(0,.sl 3 Al t),(8,.sl 3 Al t),(9,Aa t.length),(10,Aa j)]) (fun _=>[]) [] (A2 _ _) ⟨⟨E,E,E,E,E,E,E,E,Y⟩,Y,E,E⟩ ?_
 intro j hj hI
 refine oO ?_
 refine⟨fun h=>?_,fun h=>?_⟩
 ·have hlt:j<t.length:=qA h
  have q1:=Wx t[j].mac (hmac _ (List.getElem_mem hlt))
  have q2:=Tc t[j].seen
  have q3:=V6 t t[j].mac hl
  have hent:I9 t j t[j]=(Ex t[j].mac && Cu t[j].seen && decide (Cz t t[j].mac=j)):=rfl
  have hbad:I9 t j t[j]=false→res=false:=fun hf=>by rw[hres];exact Bf hlt hf
  have hgood:I9 t j t[j]=true→Dd (I9 t) t (j+1):=fun ht=>A1 hI hlt ht
  refine oO ?_
  refine⟨E,by omega,by omega,?_⟩
  rw[show t[((j:Nat):Int).toNat]'qn=t[j] from rfl]
  generalize t[j]=x at *
  conv=>whnf
  refine c0 q1 F294 ?_
  cases h1:Ex x.mac
  ·rw[hbad (by rw[hent,h1];rfl)]
   (refine oT ?_;refine bT ?_;refine bT ?_)
   exact dN
  refine oF ?_
  refine c0 q2 F244 ?_
  cases h2:Cu x.seen
  ·rw[hbad (by rw[hent,h1,h2];rfl)]
   (refine oT ?_;refine bT ?_)
   exact dN
  refine oF ?_
  refine c0 q3 F295 ?_
  refine oO ?_
  refine⟨fun h3=>?_,fun h3=>?_⟩
  ·rw[hbad (by rw[hent,h1,h2,decide_eq_false (by simpa using h3)];rfl)]
   refine oO ?_
   exact dN
  ·have h4:=hgood (by rw[hent,h1,h2,decide_eq_true (by simpa using h3)];rfl)
   refine oO ?_
   refine iW ?_
   exact Av [] hI qn h4 ⟨⟨E,E,E,E,E,E,E,E,Y⟩,Y,E,E⟩
 ·have hend:j=t.length:=qB h
  subst hend
  rw[hres.trans (Cf hI (Nat.le_refl _))]
  refine oO ?_
  exact dN
theorem Asm (now:Int) (hn:Cu now=true) (e:EntryM):Sy.Spec Tryz.prog 246 [Al e,.ref 1 (Aa now) 0] [] (Ab (decide (e.seen<now-4))) []:=cT F246 Tryz.ntmps246 fun F hF=>by
 have hn2:0≤now∧now≤1099511627776:=by simpa [Cu] using hn
 conv=>whnf
 refine iW ?_
 exact dN
theorem Asl (t:List EntryM) (now:Int) (hl:Ap t) (hmac:∀ e∈t,e.mac<18446744073709551616):Sy.Spec Tryz.prog 178 [.sl 3 Al t,Aa now] [] (.sl 3 Al (ageT t now)) []:=cT F178 Tryz.ntmps178 fun F hF=>by
 have hl2:=hl
 unfold Ap at hl2
 have hres:=ageT.eq_1 t now
 generalize ageT t now=res at *
 have q1:=Q5 t hl hmac
 have q2:=Tc now
 conv=>whnf
 refine Ad (Af [(0,55)] E F243 (Qv t hl2) E Y E ⟨.inr E,Y⟩) E E ?_
 refine oO ?_
 refine c0 q1 F230 ?_
 cases h1:tableB t
 ·rw[if_pos (.inl h1)]at hres
  subst hres
  (refine oT ?_;refine bT ?_)
  refine Ao 55 E ?_
  exact dN
 refine oF ?_
 refine c0 q2 F244 ?_
 cases h2:Cu now
 ·rw[if_pos (.inr h2)]at hres
  subst hres
  refine oT ?_
  refine Ao 55 E ?_
  exact dN
 rw[if_neg (by simp[h1,h2])]at hres
 refine oF ?_
 refine A3 3 1 (Aa now) E E E ?_
 refine oO ?_
 have q3:=Vq t (fun e=>decide (e.seen<now-4)) 246 [] [.ref 1 (Aa now) 0] rfl rfl (fun x _=>⟨⟨_,_,F246⟩,Asm now h2 x⟩) hl
 refine Ad (Af [(0,55),(1,56)] E F245 q3 E ⟨E,Y⟩ E ⟨.inl E,.inr E,Y⟩) E E ?_
 refine oO ?_
 refine Ao 56 E ?_
 refine Aq E (.cons .tmp .nil) ?_ E
 subst hres
 refine congrArg (SV.sl 3 Al) (List.filter_congr fun e _=>?_)
 rw[Bool.eq_iff_iff];simp
theorem Tm (t:List EntryM) (j:Nat) (h:0<t.length) (hj:j≤t.length):oldestU t j<t.length:=by
 induction j with
 | zero=>exact h
 | succ j ih =>
  rw[oldestU]
  split
  ·omega
  ·exact ih qn
theorem Aib (t:List EntryM) (hl:Ap t) (h0:0<t.length):Sy.Spec Tryz.prog 343 [.sl 3 Al t] [] (Aa (oldestU t t.length:Nat)) []:=cT F343 Tryz.ntmps343 fun F hF=>by
 unfold Ap at hl
 conv=>whnf
 refine At t.length (fun j=>[(0,.sl 3 Al t),(3,Aa (oldestU t j:Nat)),(6,.sl 3 Al t),(7,Aa t.length),(8,Aa j)]) (fun _=>[]) [] ⟨⟨E,E,E,E,E,E,E,E,E,E,Y⟩,Y,E,E⟩ ?_
 intro j hj
 refine oO ?_
 refine⟨fun h=>?_,fun h=>?_⟩
 ·have hlt:j<t.length:=qA h
  have hol:=Tm t j h0 qn
  have hs:=oldestU.eq_2 t j
  rw[List.getElem?_eq_getElem hlt,List.getElem?_eq_getElem hol]at hs
  obtain ⟨o,ho⟩:∃ o,oldestU t j=o:=⟨_,rfl⟩
  simp only[ho]at hs hol ⊢
  have hs2:oldestU t (j+1)=if t[j].seen<t[o].seen then j else o:=hs
  refine oO ?_
  refine⟨E,by omega,by omega,?_⟩
  rw[show t[((j:Nat):Int).toNat]'qn=t[j] from rfl]
  conv=>whnf
  refine⟨E,by omega,by omega,?_⟩
  rw[show t[((o:Nat):Int).toNat]'qn=t[o] from rfl]
  conv=>whnf
  refine kW ?_
  refine⟨fun h2=>?_,fun h2=>?_⟩
  ·rw[if_pos (of_decide_eq_true h2)]at hs2
   refine oO ?_
   refine iW ?_
   exact An [] qn ⟨⟨E,E,congrArg (fun z:Nat=>Aa z) hs2,E,E,E,E,E,E,E,Y⟩,Y,E,E⟩
  ·rw[if_neg (of_decide_eq_false h2)]at hs2
   refine oO ?_
   refine iW ?_
   exact An [] qn ⟨⟨E,E,congrArg (fun z:Nat=>Aa z) hs2,E,E,E,E,E,E,E,Y⟩,Y,E,E⟩
 ·have:j=t.length:=qB h
  subst this
  refine oO ?_
  exact dN
theorem Ab7 (t:List EntryM) (m:Nat) (wh now:Int) (hl:Ap t) (hmac:∀ e∈t,e.mac<18446744073709551616) (hm64:m<18446744073709551616) :
  Sy.Spec Tryz.prog 296 [.sl 3 Al t,As m,Aa wh,Aa now] [] (.sl 3 Al (learnT t m wh now)) []:=cT F296 Tryz.ntmps296 fun F hF=>by
 have hl2:=hl
 unfold Ap at hl2
 have hres:=learnT.eq_1 t m wh now
 generalize learnT t m wh now=res at *
 have q1:=Q5 t hl hmac
 have q2:=Wx m hm64
 have q3:=Tc now
 have q4:=V6 t m hl
 conv=>whnf
 refine Ad (Af [(0,55)] E F243 (Qv t hl2) E Y E ⟨.inr E,Y⟩) E E ?_
 refine oO ?_
 refine c0 q1 F230 ?_
 cases h1:tableB t
 ·rw[if_pos (.inl h1)]at hres
  subst hres
  (refine oT ?_;refine bT ?_;refine bT ?_)
  refine Ao 55 E ?_
  exact dN
 refine oF ?_
 refine c0 q2 F294 ?_
 cases h2:Ex m
 ·rw[if_pos (.inr (.inl h2))]at hres
  subst hres
  (refine oT ?_;refine bT ?_)
  refine Ao 55 E ?_
  exact dN
 refine oF ?_
 refine c0 q3 F244 ?_
 cases h3:Cu now
 ·rw[if_pos (.inr (.inr h3))]at hres
  subst hres
  refine oT ?_
  refine Ao 55 E ?_
  exact dN
 rw[if_neg (by simp[h1,h2,h3])]at hres
 have ht8:t.length≤8:=by simp only[tableB,Bool.and_eq_true,decide_eq_true_eq]at h1;exact h1.1
 have hfound:∀ hi:0≤Cz t m,∃ h:(Cz t m).toNat<t.length,t[(Cz t m).toNat].mac=m:=fun hi=>by
  rcases I6 (fun e=>decide (EntryM.mac e=m)) t with ⟨h,_⟩ | ⟨k,hk,h,h2,_⟩
  ·rw[Cz,h]at hi
   exact absurd hi qy
  ·have e1:Cz t m=k:=h
   simp only[e1,Int.toNat_natCast]
   exact⟨hk,of_decide_eq_true h2⟩
 generalize Cz t m=i at *
 refine oF ?_
 refine c0 q4 F295 ?_
 refine oO ?_
 refine⟨fun h4=>?_,fun h4=>?_⟩
 ·have h5:0≤i:=by simpa using h4
  obtain ⟨hi,hmm⟩:=hfound h5
  rw[if_pos h5]at hres
  refine oO ?_
  have hne:t≠[]:=fun h=>by rw[h]at hi;simp at hi
  refine⟨h5,by omega,?_⟩
  conv=>whnf
  refine⟨hne,?_⟩
  conv=>whnf
  refine⟨E,hi,⟨t[i.toNat].mac,wh,t[i.toNat].seen⟩,E,E,?_⟩
  conv=>whnf
  refine⟨h5,by simp;omega,?_⟩
  conv=>whnf
  refine⟨by simp;exact hne,?_⟩
  conv=>whnf
  refine⟨E,by simp;omega,⟨t[i.toNat].mac,wh,now⟩,by rw[List.getElem_set_self];rfl,by rw[List.getElem_set_self];rfl,?_⟩
  conv=>whnf
  refine Ao 55 E ?_
  refine oO ?_
  refine Aq E (.cons .tmp .nil) (congrArg (SV.sl 3 Al) ?_) E
  rw[hres,List.set_set,hmm]
 ·have h5:¬ 0≤i:=by simp at h4 ⊢;omega
  rw[if_neg h5]at hres
  refine oO ?_
  refine⟨fun h6=>?_,fun h6=>?_⟩
  ·have h7:t.length=8:=by simp at h6;omega
   rw[if_pos h7]at hres
   have q5:=Aib t hl qn
   have hol:=Tm t t.length qn (Nat.le_refl _)
   refine oO ?_
   refine Aa4 [55] q5 F343 E (.cons (.row E E) .nil) E E E ?_
   generalize oldestU t t.length=o at *
   have q6:=Ab2 t o hol hl
   refine oO ?_
   refine iW ?_
   refine Ad (Af [(0,55),(1,56)] E F344 q6 E ⟨E,Y⟩ E ⟨.inl E,.inr E,Y⟩) E E ?_
   refine oO ?_
   refine Ad (Ac Γ.toTy 60 rfl rfl rfl rfl rfl (.row rfl) (.lit (e:=Al) (l:=[⟨m,wh,now⟩]) rfl rfl) (fun j hj=>by cases hj;decide) (by simp;omega) (by simp;omega)) rfl rfl ?_
   refine Ao 60 E ?_
   refine oO ?_
   refine Aq E (.cons .tmp .nil) (congrArg (SV.sl 3 Al) ?_) E
   rw[hres,List.eraseIdx_eq_take_drop_succ]
  ·have h7:¬ t.length=8:=by simp at h6;omega
   rw[if_neg h7]at hres
   refine oO ?_
   refine Ad (Ac Γ.toTy 60 rfl rfl rfl rfl rfl (.row rfl) (.lit (e:=Al) (l:=[⟨m,wh,now⟩]) rfl rfl) (fun j hj=>by cases hj;decide) (by simp;omega) (by simp;omega)) rfl rfl ?_
   refine Ao 60 E ?_
   refine oO ?_
   exact Aq E (.cons .tmp .nil) (congrArg (SV.sl 3 Al) hres) E
theorem Ae3 (l:List Int) (hl:l.length<2147483648):Sy.Spec Tryz.prog 170 [.sl 1 Aa l] [] (.osl 0) [(0,.row 1 Aa l)]:=cT F170 Tryz.ntmps170 fun F hF=>by
 conv=>whnf
 refine Ej E (.inl E) E E E .sl E E ?_
 intro b hb
 cases b
 ·refine oF ?_
  refine Ad (Ac Γ.toTy 7 E E E E E (.lit (e:=Aa) (l:=[]) E E) .sl qz (by simp;omega) (by simp;omega)) E E ?_
  refine oO ?_
  exact done E (.cons .tmp .nil) [(0,7)] [(0,.row 1 Aa l)] (fun _ h=>h) E E ⟨Y,⟨.inl E,E,Y⟩,E,E⟩
 ·have h0:l=[]:=List.eq_nil_of_length_eq_zero (hb rfl)
  subst h0
  refine oT ?_
  refine Bm 2 1000 1 Aa E E ?_
  exact done E (.cons .tmp .nil) [(0,1000)] [(0,.row 1 Aa [])] (fun _ h=>h) E E ⟨Y,⟨.inl E,E,Y⟩,E,E⟩
theorem Yd (l:List Int) (p:Int→Bool) (f:FuncId) (first cap:List SV) (hc:(SV.clo (.func f) first cap).inn []=true) (hc0:(SV.clo (.func f) first cap).inn [0]=true) (hf:∀ x∈l,J4 Tryz.prog f (first++[Aa x]++cap) (Ab (p x))) (hl:Ap l) :
  Sy.Spec Tryz.prog 341 [.osl 0,.clo (.func f) first cap] [(0,.row 1 Aa l)] (.osl 1) [(0,.non),(1,.row 1 Aa (l.filter fun x=>!(p x)))]:=cT F341 Tryz.ntmps341 fun F hF=>by
 have qi:=K3 l p f first cap hc hf hl
 unfold Ap at hl
 have hin:∀ x:Int,Ct [] (first++[Aa x]++cap)=true:=fun x=>Dv hc rfl
 conv=>whnf
 refine Aa4 [0] qi F362 E (.cons (.row E E) (.cons (.refl _) .nil)) (by simp only[Ct,hc,Bool.and_true];rfl) E E ?_
 rcases I6 p l with ⟨h1,h2⟩ | ⟨i,hi,h1,h2,h3⟩
 ·rw[h1]
  have e1:(l.filter fun x=>!(p x))=l:=List.filter_eq_self.2 (fun x hx=>by simp[h2 x hx])
  rw[e1]
  refine oT ?_
  refine Alc 0 1000 [0,4] E E qy (by simp;exact⟨E,E⟩) ?_
  exact done E (.cons .tmp .nil) [(0,0),(1,1000)] _ (fun _ h=>h) E E ⟨Y,⟨.inl E,E,.inl E,E,Y⟩,E,E⟩
 obtain ⟨f1,f2⟩:=Adf (fun x=>!(p x)) l i qn (fun k hk hki=>by simp[h3 k hk hki])
 have g1:dfC (fun x=>!(p x)) l (i+1+0)=l:=by
  show dfC (fun x=>!(p x)) l (i+1)=l
  simp only[dfC,List.getElem?_eq_getElem hi]
  rw[if_neg (by simp[h2]),f1]
 have g2:Hf (fun x=>!(p x)) l (i+1+0)=i:=by
  show Hf (fun x=>!(p x)) l (i+1)=i
  simp only[Hf,List.getElem?_eq_getElem hi]
  rw[if_neg (by simp[h2]),f2]
 rw[h1]
 refine oF ?_
 refine iW ?_
 refine At (l.length-(i+1)) (fun j=>[(0,.osl 0),(1,.clo (.func f) first cap),(5,Aa (Hf (fun x=>!(p x)) l (i+1+j))),(6,Aa ((i+1+j:Nat)))]) (fun j=>[(0,.row 1 Aa (dfC (fun x=>!(p x)) l (i+1+j)))]) []
  ⟨⟨rfl,rfl,Br _,hc0,congrArg Aa (congrArg Int.ofNat g2),rfl,congrArg (fun z=>SV.val (.int .i64 z)) qn,rfl,trivial⟩,⟨.inl (congrArg (Ob.row 1 Aa) g1),rfl,trivial⟩,rfl,rfl⟩ ?_
 intro j hj
 have hcl:=Yo (fun x=>!(p x)) l (i+1+j)
 have hdl:=T7 (fun x=>!(p x)) l (i+1+j)
 have hget:=Amd (fun x=>!(p x)) l (i+1+j) (i+1+j) (Nat.le_refl _)
 have s1:∀ h:i+1+j<l.length,Hf (fun x=>!(p x)) l (i+1+(j+1))=if (!(p l[i+1+j]))=true then Hf (fun x=>!(p x)) l (i+1+j)+1 else Hf (fun x=>!(p x)) l (i+1+j):=fun hlt=>by
  show Hf (fun x=>!(p x)) l (i+1+j+1)=_
  simp only[Hf,List.getElem?_eq_getElem hlt]
 have s2:∀ h:i+1+j<l.length,dfC (fun x=>!(p x)) l (i+1+(j+1))=if (!(p l[i+1+j]))=true then (dfC (fun x=>!(p x)) l (i+1+j)).set (Hf (fun x=>!(p x)) l (i+1+j)) l[i+1+j] else dfC (fun x=>!(p x)) l (i+1+j):=fun hlt=>by
  show dfC (fun x=>!(p x)) l (i+1+j+1)=_
  simp only[dfC,List.getElem?_eq_getElem hlt]
 have htk:=fun h=>Ahx (fun x=>!(p x)) l (i+1+j) h
 obtain ⟨D,hD⟩:∃ D,dfC (fun x=>!(p x)) l (i+1+j)=D:=⟨_,rfl⟩
 obtain ⟨K,hK⟩:∃ K,Hf (fun x=>!(p x)) l (i+1+j)=K:=⟨_,rfl⟩
 rw[hD]at hdl hget s2 htk ⊢
 rw[hK]at hcl s1 s2 htk ⊢
 refine oO ?_
 refine⟨fun h=>?_,fun h=>?_⟩
 ·have hlt:i+1+j<l.length:=qA h
  have hfx:=hf l[i+1+j] (List.getElem_mem hlt)
  have s1:=s1 hlt
  have s2:=s2 hlt
  rw[List.getElem?_eq_getElem hlt,List.getElem?_eq_getElem qn]at hget
  have hget:=Option.some.inj hget
  obtain ⟨x,hx⟩:∃ x,l[i+1+j]=x:=⟨_,rfl⟩
  rw[hx]at hfx s1 s2 hget
  refine oO ?_
  refine⟨by omega,by simp;omega,?_⟩
  conv=>whnf
  refine⟨E,by omega,?_⟩
  rw[show D[((i+1+j:Nat):Int).toNat]'qn=x from hget]
  conv=>whnf
  refine Ef hfx E E E (by simp only[hin];rfl) E E ?_
  cases hpx:p x
  ·rw[hpx]at s1 s2
   refine oT ?_
   refine⟨by omega,by simp;omega,?_⟩
   conv=>whnf
   refine⟨E,by omega,x,E,E,?_⟩
   conv=>whnf
   refine iW ?_
   refine iW ?_
   exact An [] qn ⟨⟨E,E,Br _,hc0,congrArg Aa (congrArg Int.ofNat s1),E,congrArg (fun z=>SV.val (.int .i64 z)) qn,E,Y⟩,⟨.inl (congrArg (Ob.row 1 Aa) s2),E,Y⟩,E,E⟩
  ·rw[hpx]at s1 s2
   refine oF ?_
   refine iW ?_
   exact An [] qn ⟨⟨E,E,Br _,hc0,congrArg Aa (congrArg Int.ofNat s1),E,congrArg (fun z=>SV.val (.int .i64 z)) qn,E,Y⟩,⟨.inl (congrArg (Ob.row 1 Aa) s2),E,Y⟩,E,E⟩
 ·have hend:i+1+j=l.length:=qB h
  have hne:D≠[]:=fun h=>by rw[h]at hdl;simp at hdl;omega
  have htk:=htk qn
  rw[show l.take (i+1+j)=l from List.take_of_length_le qn]at htk
  refine Amj 0 [0] E hne (by simp;rfl) ?_
  intro b cap' hcap
  refine oO ?_
  refine Ad (Dh Γ.toTy E E E E (.inr ⟨_,_,E,E⟩) (.inl ⟨E,E⟩) qn qn) E E ?_
  refine oO ?_
  refine Ad (K4 Γ.toTy 0 (k:=K) E E E E qy E E E qn qn) E E ?_
  refine oO ?_
  refine Ad (Dh Γ.toTy E E E E (.inl ⟨E,E⟩) (.inr ⟨_,_,E,E⟩) qn qn) E E ?_
  refine oO ?_
  refine Yr 0 1000 [4] K E E (by rw[List.length_take];omega) (fun i hi=>?_) ?_
  ·rw[List.mem_singleton]at hi
   subst hi
   show SV.val (.slice (some (if cap'=0 then ⟨b,0,none⟩ else ⟨b,0 * 1,none⟩)) (K-0) (cap'-0))=_
   split<;>simp
  refine done E (.cons .tmp .nil) [(0,0),(1,1000)] _ (fun _ h=>h) E E ⟨Y,⟨.inl E,E,.inl ?_,E,Y⟩,E,E⟩
  rw[← htk]
  exact congrArg (Ob.row 1 Aa) (by rw[List.take_take,Nat.min_self])
def Mw (n:Net) (fw:List Bool) (at_ from_:Int) (ml:List Int):SV :=
 .agg [.sl 5 Bs n.devices,.sl 7 Bh n.ports,.sl 3 Cs n.links,.sl 6 Aw n.domains,.sl 4 Bp n.statics,.sl 4 B7 n.floods,.sl 5 C4 n.vrfs,.sl 5 Dp n.irbs,.sl 1 Ab fw,Aa at_,Aa from_,.sl 1 Aa ml]
theorem Asg (n:Net) (fw:List Bool) (p:Int) (h0:0≤p) (hp:p<n.ports.length) (hl:(nth n.ports p).link<fw.length):Sy.Spec Tryz.prog 340 [Aj n,.sl 1 Ab fw,Aa p] [] (Ab (usableB n fw p)) []:=cT F340 Tryz.ntmps340 fun F hF=>by
 have hk:p.toNat<n.ports.length:=by omega
 have e1:nth n.ports p=n.ports[p.toNat]:=Ak hk
 have hu:=usableB.eq_1 n fw p
 generalize usableB n fw p=res at *
 rw[e1]at hu hl
 obtain ⟨q,hq⟩:∃ q,n.ports[p.toNat]'hk=q:=⟨_,rfl⟩
 rw[hq]at hu hl
 conv=>whnf
 refine⟨E,h0,hk,?_⟩
 rw[hq]
 conv=>whnf
 refine⟨fun h=>?_,fun h=>?_⟩
 ·rw[h,Bool.true_or]at hu
  subst hu
  refine oO ?_
  exact dN
 ·rw[h,Bool.false_or]at hu
  have h1:¬ q.link<0:=of_decide_eq_false h
  have h2:q.link.toNat<fw.length:=by omega
  rw[List.getElem?_eq_getElem h2]at hu
  refine oO ?_
  refine⟨E,by omega,h2,?_⟩
  conv=>whnf
  exact Aq E (.cons .tmp .nil) (congrArg Ab hu) E
theorem portsC (n:Net) (fw:List Bool) (at_ from_:Int) (ml:List Int) (p:Int) (h0:0≤p) (hp:p<n.ports.length) (hl:(nth n.ports p).link<fw.length) :
  Sy.Spec Tryz.prog 339 [Aa p,.ref 1 (.ref 12 (Mw n fw at_ from_ ml) 0) 0] [] (Ab (decide (p=from_) || !(usableB n fw p))) []:=cT F339 Tryz.ntmps339 fun F hF=>by
 have q:=Asg n fw p h0 hp hl
 conv=>whnf
 refine⟨fun h=>?_,fun h=>?_⟩
 ·have h1:p=from_:=by simpa using h
  refine oD ?_
  refine kW ?_
  exact Aq E (.cons .tmp .nil) (congrArg Ab (by rw[decide_eq_true h1,Bool.true_or])) E
 ·have h1:¬ p=from_:=by simpa using h
  refine oD ?_
  refine cD q F340 ?_
  refine oD ?_
  refine kW ?_
  exact Aq E (.cons .tmp .nil) (congrArg Ab (by rw[decide_eq_false h1,Bool.false_or])) E
def Ami (n:Net) (fw:List Bool) (l:List Int):Prop:=∀ p∈l,0≤p∧p<n.ports.length∧(nth n.ports p).link<fw.length
theorem Ajc (n:Net) (fw:List Bool) (at_ from_:Int) (ml l:List Int) (hl:Ap l) (hp:Ami n fw l) :
  Sy.Spec Tryz.prog 292 [.ref 12 (Mw n fw at_ from_ ml) 0,.sl 1 Aa l] [] (.sl 1 Aa (Ch n fw from_ l)) []:=cT F292 Tryz.ntmps292 fun F hF=>by
 have q:=Yd l (fun p=>decide (p=from_) || !(usableB n fw p)) 339 [] [.ref 1 (.ref 12 (Mw n fw at_ from_ ml) 0) 0] rfl rfl (fun p h=>⟨⟨_,_,F339⟩,portsC n fw at_ from_ ml p (hp p h).1 (hp p h).2.1 (hp p h).2.2⟩) hl
 unfold Ap at hl
 conv=>whnf
 refine A3 2 1 (.ref 12 (Mw n fw at_ from_ ml) 0) E E E ?_
 refine oO ?_
 refine Ad (Af [(0,55)] E F170 (Ae3 l hl) E Y E ⟨.inr E,Y⟩) E E ?_
 refine oO ?_
 refine Ad (Af [(0,55),(1,56)] E F341 q E ⟨E,Y⟩ E ⟨.inl E,.inr E,Y⟩) E E ?_
 refine oO ?_
 refine Ao 56 E ?_
 exact dN
theorem Alp (n:Net) (hn:n.Fin) (fw:List Bool) (dom from_:Int) (ml:List Int) (hd:Ai dom n.domains.length=true) :
  Sy.Spec Tryz.prog 293 [.ref 12 (Mw n fw dom from_ ml) 0] [] (.sl 1 Aa (peersOut n dom from_)) []:=cT F293 Tryz.ntmps293 fun F hF=>by
 have hdi:=Ba hd
 have hd0:0≤dom:=hdi.1
 have hkd:dom.toNat<n.domains.length:=by omega
 have e2:nth n.domains dom=n.domains[dom.toNat]:=Ak hkd
 have hpe:=hn.peers _ (List.getElem_mem hkd)
 have hres:=peersOut.eq_1 n dom from_
 generalize peersOut n dom from_=res at *
 rw[e2]at hres
 obtain ⟨d,hdd⟩:∃ d,n.domains[dom.toNat]'hkd=d:=⟨_,rfl⟩
 rw[hdd]at hres hpe
 have qc:=Mn d.peers hpe
 conv=>whnf
 refine⟨fun h=>?_,fun h=>?_⟩
 ·rw[if_pos (by simpa using h)]at hres
  subst hres
  refine oO ?_
  refine Am 2 1 Aa E ?_
  exact dN
 ·rw[if_neg (by simpa using h)]at hres
  subst hres
  refine oO ?_
  refine⟨E,hd0,hkd,?_⟩
  rw[hdd]
  conv=>whnf
  refine cD qc F170 ?_
  refine oD ?_
  refine kW ?_
  exact dN
def K6 (n:Net) (fw:List Bool) (dom:Int):Bool:=Ai dom n.domains.length && decide (fw.length=n.links.length) && Ae n
theorem Alk (n:Net) (hn:n.Fin) (fw:List Bool) (dom from_:Int) (h:K6 n fw dom=false) :
  Sy.Spec Tryz.prog 291 [Aj n,.sl 1 Ab fw,Aa dom,Aa from_] [] (.tup [.val (.pointer none),Ab false]) []:=cT F291 Tryz.ntmps291 fun F hF=>by
 have qr:=B0 n hn
 conv=>whnf
 refine⟨fun h1=>?_,fun h1=>?_⟩
 ·(refine oT ?_;refine bT ?_;refine bT ?_)
  exact dN
 refine oO ?_
 refine⟨fun h2=>?_,fun h2=>?_⟩
 ·(refine oT ?_;refine bT ?_)
  exact dN
 refine oO ?_
 refine⟨fun h3=>?_,fun h3=>?_⟩
 ·refine oT ?_
  exact dN
 refine oO ?_
 refine c0 qr F23 ?_
 cases hbn:Ae n
 ·refine oT ?_
  exact dN
 ·exfalso
  have h4:Ai dom n.domains.length=true:=Di ⟨by simp at h1;omega,by simp at h2;omega⟩
  have h5:fw.length=n.links.length:=by simp at h3;omega
  simp[K6,h4,h5,hbn]at h
theorem Apt (n:Net) (hn:n.Fin) (fw:List Bool) (dom from_:Int) (h:K6 n fw dom=true) :
  Sy.Spec Tryz.prog 291 [Aj n,.sl 1 Ab fw,Aa dom,Aa from_] [] (.tup [.ref 12 (Mw n fw dom from_ (Ax n dom)) 0,Ab (decide (from_=-1) || decide (from_=-2) || inB (Ax n dom) from_)]) []:=cT F291 Tryz.ntmps291 fun F hF=>by
 have qr:=B0 n hn
 simp only[K6,Bool.and_eq_true,decide_eq_true_eq]at h
 obtain ⟨⟨hd,hfw⟩,hbn⟩:=h
 rw[hbn]at qr
 have hdi:=Ba hd
 have qm:=Abm n hn dom
 have qc:=Ee (Ci n dom) from_ (It n hn dom)
 have hmt:Ci n dom=Ax n dom:=by rw[Ci,if_pos ⟨⟨hdi.1,hdi.2⟩,hbn⟩]
 rw[hmt]at qm qc
 generalize Ax n dom=ml at *
 conv=>whnf
 refine⟨fun h1=>absurd h1 (by simp;omega),fun _=>?_⟩
 refine oO ?_
 refine⟨fun h1=>absurd h1 (by simp;omega),fun _=>?_⟩
 refine oO ?_
 refine⟨fun h1=>absurd h1 (by simp;omega),fun _=>?_⟩
 refine oO ?_
 refine c0 qr F23 ?_
 refine oF ?_
 refine cD qm F26 ?_
 refine oD ?_
 refine kW ?_
 refine⟨fun h1=>?_,fun h1=>?_⟩
 ·have h2:from_=-1:=by simpa using h1
  refine A3 41 12 (Mw n fw dom from_ ml) E E E ?_
  refine oT ?_
  exact Aq E (.cons .tmp (.cons .tmp .nil)) (congrArg (fun z=>SV.tup [_,Ab z]) (by simp[h2])) E
 have h2:¬ from_=-1:=by simpa using h1
 refine A3 41 12 (Mw n fw dom from_ ml) E E E ?_
 refine oO ?_
 refine⟨fun h3=>?_,fun h3=>?_⟩
 ·have h4:from_=-2:=by simpa using h3
  refine oO ?_
  exact Aq E (.cons .tmp (.cons .tmp .nil)) (congrArg (fun z=>SV.tup [_,Ab z]) (by simp[h4])) E
 have h4:¬ from_=-2:=by simpa using h3
 refine oO ?_
 refine c0 qc F25 ?_
 refine oO ?_
 exact Aq E (.cons .tmp (.cons .tmp .nil)) (congrArg (fun z=>SV.tup [_,Ab z]) (by simp[h2,h4])) E
theorem M3 {n:Net} (hb:Ae n=true) {p:Int} (h0:0≤p) (hp:p<n.ports.length):(nth n.ports p).link<n.links.length:=by
 have hk:p.toNat<n.ports.length:=by omega
 have e1:nth n.ports p=n.ports[p.toNat]:=Ak hk
 rw[e1]
 by_cases hl:0≤n.ports[p.toNat].link
 ·have:=Lp hb hk hl
  omega
 ·omega
theorem Zr {n:Net} {fw:List Bool} (hb:Ae n=true) (hf:fw.length=n.links.length) {l:List Int} (h:∀ p∈l,0≤p∧p<n.ports.length):Ami n fw l:=fun p hp =>
 ⟨(h p hp).1,(h p hp).2,by rw[hf];exact M3 hb (h p hp).1 (h p hp).2⟩
theorem B6 {n:Net} {dom:Int}:∀ p∈Ax n dom,0≤p∧p<n.ports.length:=fun p hp=>by
 rw[Ax,filtI_mem]at hp
 exact⟨hp.1,hp.2.1⟩
theorem Jg {n:Net} (hn:n.Fin) (dom:Int):Ap (Ax n dom):=by
 have h1:=Ev (Jt n (nth n.domains dom)) n.ports.length
 have h2:=hn.ports
 unfold Ap at *
 rw[Ax]
 omega
theorem Jn (n:Net) (fw:List Bool) (dom from_:Int):roomB n fw dom from_=(K6 n fw dom && (decide (from_=-1) || decide (from_=-2) || inB (Ax n dom) from_)):=rfl
theorem floodS (n:Net) (hn:n.Fin) (fw:List Bool) (dom from_:Int) :
  Sy.Spec Tryz.prog 229 [Aj n,.sl 1 Ab fw,Aa dom,Aa from_] [] (.tup [.sl 1 Aa (floodT n fw dom from_).1,.sl 1 Aa (floodT n fw dom from_).2.1,Aa (floodT n fw dom from_).2.2]) []:=cT F229 Tryz.ntmps229 fun F hF=>by
 have hres:=floodT.eq_1 n fw dom from_
 generalize floodT n fw dom from_=res at *
 rw[Jn]at hres
 cases hbase:K6 n fw dom
 ·rw[hbase,Bool.false_and,if_pos rfl]at hres
  subst hres
  have q:=Alk n hn fw dom from_ hbase
  conv=>whnf
  refine c0 q F291 ?_
  refine oT ?_
  refine Am 8 1 Aa E ?_
  refine Am 9 1 Aa E ?_
  exact dN
 rw[hbase,Bool.true_and]at hres
 have q:=Apt n hn fw dom from_ hbase
 have hb2:=hbase
 simp only[K6,Bool.and_eq_true,decide_eq_true_eq]at hb2
 obtain ⟨⟨hd,hfw⟩,hbn⟩:=hb2
 have qp:=Ajc n fw dom from_ (Ax n dom) (Ax n dom) (Jg hn dom) (Zr hbn hfw B6)
 have qe:=Alp n hn fw dom from_ (Ax n dom) hd
 generalize (decide (from_=-1) || decide (from_=-2) || inB (Ax n dom) from_)=ok at *
 generalize Ax n dom=ml at *
 conv=>whnf
 refine c0 q F291 ?_
 cases ok
 ·rw[if_pos rfl]at hres
  subst hres
  refine oT ?_
  refine Am 8 1 Aa E ?_
  refine Am 9 1 Aa E ?_
  exact dN
 rw[if_neg qy]at hres
 subst hres
 refine oF ?_
 refine c0 qp F292 ?_
 refine oO ?_
 refine c0 qe F293 ?_
 refine oO ?_
 exact dN
theorem Va (l:List Static) (p:Static→Bool) (f:FuncId) (first cap:List SV) (hc:(SV.clo (.func f) first cap).inn []=true) (hf:∀ x∈l,J4 Tryz.prog f (first++[Bp x]++cap) (Ab (p x))) (hl:Ap l) :
  Sy.Spec Tryz.prog 386 [.sl 4 Bp l,.clo (.func f) first cap] [] (Aa (Dq p l)) []:=cT F386 Tryz.ntmps386 fun F hF=>by
 unfold Ap at hl
 have hin:∀ x:Static,Ct [] (first++[Bp x]++cap)=true:=fun x=>Dv hc rfl
 conv=>whnf
 refine Ay l.length (fun j=>Dd (fun _ x=>!(p x)) l j) (fun j=>[(0,.sl 4 Bp l),(1,.clo (.func f) first cap),(7,Aa l.length),(8,Aa j)]) (fun _=>[]) [] (A2 _ _) ⟨⟨E,E,Br _,hc,E,E,E,E,Y⟩,Y,E,E⟩ ?_
 intro j hj hI
 refine oO ?_
 refine⟨fun h=>?_,fun h=>?_⟩
 ·have h:=of_decide_eq_true h
  have hj2:j<l.length:=by omega
  refine oO ?_
  refine⟨E,by omega,by omega,?_⟩
  conv=>whnf
  refine Ef (hf l[j] (List.getElem_mem hj2)) E E E (by simp only[hin];rfl) E E ?_
  refine oO ?_
  refine⟨fun h2=>?_,fun h2=>?_⟩
  ·refine oO ?_
   refine Aq E (.cons .tmp .nil) (congrArg Aa ?_) E
   exact C3 hj2 (fun i hi hij=>by simpa using hI i hi hij) h2
  ·refine oO ?_
   refine iW ?_
   exact Av [] hI hj2 (A1 hI hj2 (by simp[h2])) ⟨⟨E,E,Br _,hc,E,E,E,E,Y⟩,Y,E,E⟩
 ·have h:=of_decide_eq_false h
  refine oO ?_
  refine Aq E (.cons .tmp .nil) (congrArg Aa ?_) E
  exact Dk (fun i hi=>by simpa using hI i hi qn)
theorem entryC (dom:Int) (m:Nat) (s:Static):Sy.Spec Tryz.prog 387 [Bp s,.ref 1 (Aa dom) 0,.ref 1 (As m) 0] [] (Ab (decide (s.domain=dom) && decide (s.mac=(m:Int)))) []:=cT F387 Tryz.ntmps387 fun F hF=>by
 conv=>whnf
 refine⟨fun h=>?_,fun h=>?_⟩
 ·refine oO ?_
  refine Aq E (.cons .tmp .nil) (congrArg Ab ?_) E
  have h1:s.domain=dom:=by simpa using h
  rw[decide_eq_true h1,Bool.true_and,Bool.eq_iff_iff]
  simp
 ·refine oO ?_
  refine Aq E (.cons .tmp .nil) (congrArg Ab ?_) E
  have h1:¬ s.domain=dom:=by simpa using h
  rw[decide_eq_false h1,Bool.false_and]
theorem entryI (n:Net) (hn:n.Fin) (dom:Int) (m:Nat):Sy.Spec Tryz.prog 375 [Aj n,Aa dom,As m] [] (Aa (Ds n dom m)) []:=cT F375 Tryz.ntmps375 fun F hF=>by
 have q:=Va n.statics (fun s:Static=>decide (s.domain=dom) && decide (s.mac=(m:Int))) 387 [] [.ref 1 (Aa dom) 0,.ref 1 (As m) 0] rfl (fun x _=>⟨⟨_,_,F387⟩,entryC dom m x⟩) hn.statics
 conv=>whnf
 refine A3 4 1 (Aa dom) E E E ?_
 refine A3 5 1 (As m) E E E ?_
 refine oO ?_
 refine c0 q F386 ?_
 refine oO ?_
 exact dN
def staticP (n:Net) (dom:Int) (m:Nat):Int:=if 0≤Ds n dom m then (nth n.statics (Ds n dom m)).port else -1
theorem Akv (n:Net) (hn:n.Fin) (hb:Ae n=true) (dom:Int) (m:Nat):Sy.Spec Tryz.prog 348 [Aj n,Aa dom,As m] [] (Aa (staticP n dom m)) []:=cT F348 Tryz.ntmps348 fun F hF=>by
 have q:=entryI n hn dom m
 have qr:=B0 n hn
 rw[hb]at qr
 have hlt:Ds n dom m<n.statics.length:=Ji _ _
 have hres:=staticP.eq_1 n dom m
 generalize staticP n dom m=res at *
 generalize Ds n dom m=i at *
 conv=>whnf
 refine c0 q F375 ?_
 refine oO ?_
 refine⟨fun h=>?_,fun h=>?_⟩
 ·rw[if_neg (by simp at h;omega)]at hres
  subst hres
  refine oT ?_
  exact dN
 ·have h0:0≤i:=by simp at h;omega
  have hk:i.toNat<n.statics.length:=by omega
  have e1:nth n.statics i=n.statics[i.toNat]:=Ak hk
  rw[if_pos h0,e1]at hres
  refine oO ?_
  refine c0 qr F23 ?_
  refine oF ?_
  refine⟨E,h0,hk,?_⟩
  conv=>whnf
  exact Aq E (.cons .tmp .nil) (congrArg Aa hres) E
def knownT (n:Net) (fw:List Bool) (t:List EntryM) (dom from_:Int) (m:Nat):List Int × List Int × Bool :=
 if 0≤staticP n dom m then (Ch n fw from_ [staticP n dom m],[],true)
 else if (findE t m).2=false then ([],[],false)
 else if 0≤(findE t m).1∧inB (Ax n dom) (findE t m).1=true then (Ch n fw from_ [(findE t m).1],[],true)
 else if (findE t m).1<0∧inB (nth n.domains dom).peers (-1-(findE t m).1)=true then (if from_=-1 then ([],[],true) else ([],[-1-(findE t m).1],true))
 else ([],[],false)
theorem Oy {n:Net} (hb:Ae n=true) (dom:Int) (m:Nat) (h:0≤staticP n dom m):staticP n dom m<n.ports.length:=by
 unfold staticP at h ⊢
 split at h
 ·rename_i h0
  rw[if_pos h0]
  have hlt:Ds n dom m<n.statics.length:=Ji _ _
  have hk:(Ds n dom m).toNat<n.statics.length:=by omega
  simp only[Ae,Bool.and_eq_true]at hb
  have:=allB_iff.1 hb.1.1.1.2 _ hk
  simp only[Hw,Bool.and_eq_true,Ai,decide_eq_true_eq]at this
  rw[Ak hk]
  exact this.1.1.2.2
 ·omega
theorem knownS (n:Net) (hn:n.Fin) (fw:List Bool) (t:List EntryM) (dom from_:Int) (m:Nat) (hl:Ap t) (hw:I64 (-1-(findE t m).1)) (hbase:K6 n fw dom=true) :
  Sy.Spec Tryz.prog 299 [.ref 12 (Mw n fw dom from_ (Ax n dom)) 0,.sl 3 Al t,As m] [] (.tup [.sl 1 Aa (knownT n fw t dom from_ m).1,.sl 1 Aa (knownT n fw t dom from_ m).2.1,Ab (knownT n fw t dom from_ m).2.2]) []:=cT F299 Tryz.ntmps299 fun F hF=>by
 simp only[K6,Bool.and_eq_true,decide_eq_true_eq]at hbase
 obtain ⟨⟨hd,hfw⟩,hbn⟩:=hbase
 have hdi:=Ba hd
 have hd0:0≤dom:=hdi.1
 have hkd:dom.toNat<n.domains.length:=by omega
 have e2:nth n.domains dom=n.domains[dom.toNat]:=Ak hkd
 have hpe:=hn.peers _ (List.getElem_mem hkd)
 have hres:=knownT.eq_1 n fw t dom from_ m
 have qs:=Akv n hn hbn dom m
 have hsp:=Oy hbn dom m
 have qf:=Apb t m hl
 have qp:∀ p:Int,0≤p→p<n.ports.length→_:=fun p h0 h1=>Ajc n fw dom from_ (Ax n dom) [p] (by unfold Ap;simp) (Zr hbn hfw (l:=[p]) (fun x hx=>by rw[List.mem_singleton]at hx;subst hx;exact⟨h0,h1⟩))
 have hmem:∀ p,inB (Ax n dom) p=true→0≤p∧p<n.ports.length:=fun p hp=>B6 p (inB_mem.1 hp)
 have qc:=fun x=>Ee (Ax n dom) x (Jg hn dom)
 rw[e2]at hres
 obtain ⟨d,hdd⟩:∃ d,n.domains[dom.toNat]'hkd=d:=⟨_,rfl⟩
 rw[hdd]at hres hpe
 have qc2:=fun x=>Ee d.peers x hpe
 generalize knownT n fw t dom from_ m=res at *
 generalize staticP n dom m=sp at *
 generalize findE t m=fe at *
 obtain ⟨w,ok⟩:=fe
 dsimp only at hres hw qf
 generalize Ax n dom=ml at *
 conv=>whnf
 refine cD qs F348 ?_
 refine oD ?_
 refine kW ?_
 refine⟨fun h1=>?_,fun h1=>?_⟩
 ·have h2:0≤sp:=by simpa using h1
  rw[if_pos h2]at hres
  subst hres
  refine oO ?_
  refine Ic 25 Aa [sp] E E ?_
  refine Ao 25 E ?_
  refine c0 (qp sp h2 (hsp h2)) F292 ?_
  refine oO ?_
  refine Am 7 1 Aa E ?_
  exact dN
 have h2:¬ 0≤sp:=by simp at h1;omega
 rw[if_neg h2]at hres
 refine oO ?_
 refine c0 qf F349 ?_
 cases ok
 ·rw[if_pos rfl]at hres
  subst hres
  refine oT ?_
  refine Am 6 1 Aa E ?_
  refine Am 7 1 Aa E ?_
  exact dN
 rw[if_neg qy]at hres
 refine oF ?_
 refine⟨fun h3=>?_,fun h3=>?_⟩
 ·have h4:0≤w:=by simpa using h3
  refine oO ?_
  refine c0 (qc w) F25 ?_
  cases hin:inB ml w
  ·rw[if_neg (by simp[hin]),if_neg qn]at hres
   subst hres
   refine oF ?_
   refine⟨fun h5=>absurd h5 (by simp;omega),fun _=>?_⟩
   refine oD ?_
   refine⟨qq,?_⟩
   ((conv=>whnf);refine aF ?_;refine rg ?_;conv=>whnf)
   refine Am 6 1 Aa E ?_
   refine Am 7 1 Aa E ?_
   exact dN
  ·rw[if_pos ⟨h4,hin⟩]at hres
   subst hres
   refine oT ?_
   refine Ic 49 Aa [w] E E ?_
   refine Ao 49 E ?_
   refine c0 (qp w h4 (hmem w hin).2) F292 ?_
   refine oO ?_
   refine Am 7 1 Aa E ?_
   exact dN
 have h4:¬ 0≤w:=by simp at h3;omega
 rw[if_neg qn]at hres
 refine oF ?_
 refine⟨fun h5=>?_,fun h5=>absurd h5 (by simp;omega)⟩
 refine oD ?_
 refine⟨E,hd0,hkd,?_⟩
 rw[hdd]
 conv=>whnf
 refine⟨hw,?_⟩
 conv=>whnf
 refine cD (qc2 (-1-w)) F25 ?_
 cases hin:inB d.peers (-1-w)
 ·rw[if_neg (by simp[hin])]at hres
  subst hres
  refine oD ?_
  refine⟨qq,?_⟩
  ((conv=>whnf);refine aF ?_;refine rg ?_;conv=>whnf)
  refine Am 6 1 Aa E ?_
  refine Am 7 1 Aa E ?_
  exact dN
 rw[if_pos ⟨by omega,hin⟩]at hres
 refine oD ?_
 refine⟨qq,?_⟩
 ((conv=>whnf);refine aT ?_;refine rg ?_;conv=>whnf)
 refine⟨fun h6=>?_,fun h6=>?_⟩
 ·rw[if_pos (by simpa using h6)]at hres
  subst hres
  refine oO ?_
  refine Am 6 1 Aa E ?_
  refine Am 7 1 Aa E ?_
  exact dN
 ·rw[if_neg (by simpa using h6)]at hres
  subst hres
  refine oO ?_
  refine⟨hw,?_⟩
  conv=>whnf
  refine Am 6 1 Aa E ?_
  refine Ic 78 Aa [-1-w] E E ?_
  refine Ao 78 E ?_
  exact dN
theorem Mu {n:Net} (hb:Ae n=true) (dom:Int) (m:Nat):(0≤staticP n dom m↔0≤Ds n dom m)∧(0≤Ds n dom m→staticP n dom m=(nth n.statics (Ds n dom m)).port):=by
 refine⟨⟨fun h=>?_,fun h=>?_⟩,fun h=>by rw[staticP,if_pos h]⟩
 ·unfold staticP at h
  split at h
  ·assumption
  ·omega
 ·rw[staticP,if_pos h]
  have hlt:Ds n dom m<n.statics.length:=Ji _ _
  have hk:(Ds n dom m).toNat<n.statics.length:=by omega
  simp only[Ae,Bool.and_eq_true]at hb
  have:=allB_iff.1 hb.1.1.1.2 _ hk
  simp only[Hw,Bool.and_eq_true,Ai,decide_eq_true_eq]at this
  rw[Ak hk]
  exact this.1.1.2.1
theorem Atm {n:Net} {fw:List Bool} {t:List EntryM} {dom from_:Int} {m:Nat} (hb:Ae n=true) (hr:roomB n fw dom from_=true) (hg:Ed m=false) :
  decideT n fw t dom from_ m=if (knownT n fw t dom from_ m).2.2=true then ((knownT n fw t dom from_ m).1,(knownT n fw t dom from_ m).2.1,0) else (Ch n fw from_ (Ax n dom),peersOut n dom from_,0):=by
 obtain ⟨h1,h2⟩:=Mu hb dom m
 rw[decideT,if_neg (by rw[hr];decide),if_neg (by rw[hg];decide)]
 unfold knownT
 by_cases hs:0≤Ds n dom m
 ·rw[if_pos hs,if_pos (h1.2 hs),h2 hs];rfl
 rw[if_neg hs,if_neg (fun h=>hs (h1.1 h))]
 generalize findE t m=fe
 obtain ⟨w,ok⟩:=fe
 cases ok
 ·simp
 simp only[Bool.true_eq_false,if_false,true_and]
 by_cases ha:0≤w∧inB (Ax n dom) w=true
 ·rw[if_pos ha,if_pos ha];rfl
 rw[if_neg ha,if_neg ha]
 by_cases hc:w<0∧inB (nth n.domains dom).peers (-1-w)=true
 ·rw[if_pos hc,if_pos hc]
  split<;>rfl
 ·rw[if_neg hc,if_neg hc];rfl
theorem Atn (n:Net) (hn:n.Fin) (fw:List Bool) (t:List EntryM) (dom from_:Int) (m:Nat) (hl:Ap t) (hw:I64 (-1-(findE t m).1)) (hm64:m<18446744073709551616) :
  Sy.Spec Tryz.prog 235 [Aj n,.sl 1 Ab fw,.sl 3 Al t,Aa dom,Aa from_,As m] [] (.tup [.sl 1 Aa (decideT n fw t dom from_ m).1,.sl 1 Aa (decideT n fw t dom from_ m).2.1,Aa (decideT n fw t dom from_ m).2.2]) []:=cT F235 Tryz.ntmps235 fun F hF=>by
 cases hbase:K6 n fw dom
 ·have hres:decideT n fw t dom from_ m=([],[],2):=by
   rw[decideT,if_pos (by rw[Jn,hbase];rfl)]
  rw[hres]
  have q:=Alk n hn fw dom from_ hbase
  conv=>whnf
  refine c0 q F291 ?_
  refine oT ?_
  refine Am 12 1 Aa E ?_
  refine Am 13 1 Aa E ?_
  exact dN
 have q:=Apt n hn fw dom from_ hbase
 have qk:=knownS n hn fw t dom from_ m hl hw hbase
 have qg:=Md m hm64
 have hb2:=hbase
 simp only[K6,Bool.and_eq_true,decide_eq_true_eq]at hb2
 obtain ⟨⟨hd,hfw⟩,hbn⟩:=hb2
 have qp:=Ajc n fw dom from_ (Ax n dom) (Ax n dom) (Jg hn dom) (Zr hbn hfw B6)
 have qe:=Alp n hn fw dom from_ (Ax n dom) hd
 have hroom:=Jn n fw dom from_
 rw[hbase,Bool.true_and]at hroom
 have hbad:roomB n fw dom from_=false→decideT n fw t dom from_ m=([],[],2):=fun h=>by rw[decideT,if_pos h]
 have hgrp:roomB n fw dom from_=true→Ed m=true→decideT n fw t dom from_ m=(Ch n fw from_ (Ax n dom),peersOut n dom from_,0):=fun h h2=>by
  rw[decideT,if_neg (by rw[h];decide),if_pos h2]
 have hkn:=fun h h2=>@Atm n fw t dom from_ m hbn h h2
 generalize decideT n fw t dom from_ m=res at *
 generalize knownT n fw t dom from_ m=kn at *
 obtain ⟨kp,ke,ko⟩:=kn
 generalize roomB n fw dom from_=rm at *
 generalize (decide (from_=-1) || decide (from_=-2) || inB (Ax n dom) from_)=ok at *
 subst hroom
 generalize Ax n dom=ml at *
 dsimp only at hkn qk
 conv=>whnf
 refine c0 q F291 ?_
 cases rm
 ·rw[hbad rfl]
  refine oT ?_
  refine Am 12 1 Aa E ?_
  refine Am 13 1 Aa E ?_
  exact dN
 refine oF ?_
 refine c0 qg F226 ?_
 cases hg:Ed m
 ·have hkn:=hkn rfl hg
  refine oT ?_
  refine c0 qk F299 ?_
  cases ko
  ·rw[if_neg qy]at hkn
   subst hkn
   refine oF ?_
   refine c0 qp F292 ?_
   refine oO ?_
   refine c0 qe F293 ?_
   refine oO ?_
   exact dN
  ·rw[if_pos rfl]at hkn
   subst hkn
   refine oT ?_
   exact dN
 ·rw[hgrp rfl hg]
  refine oF ?_
  refine c0 qp F292 ?_
  refine oO ?_
  refine c0 qe F293 ?_
  refine oO ?_
  exact dN
theorem Us (n:Net) (fw:List Bool) (p:Int) (h0:0≤p) (hp:p<n.ports.length) (hl:(nth n.ports p).link<fw.length) (hneg:(nth n.ports p).link=-1∨0≤(nth n.ports p).link):Sy.Spec Tryz.prog 315 [Aj n,.sl 1 Ab fw,Aa p] [] (Ab (usableB n fw p)) []:=cT F315 Tryz.ntmps315 fun F hF=>by
 have q:=A8 p n.ports.length
 rw[Di ⟨h0,hp⟩]at q
 have hk:p.toNat<n.ports.length:=by omega
 have e1:nth n.ports p=n.ports[p.toNat]:=Ak hk
 have hu:=usableB.eq_1 n fw p
 generalize usableB n fw p=res at *
 rw[e1]at hu hl hneg
 obtain ⟨x,hx⟩:∃ x,n.ports[p.toNat]'hk=x:=⟨_,rfl⟩
 rw[hx]at hu hl hneg
 conv=>whnf
 refine c0 q F46 ?_
 refine oT ?_
 refine⟨E,h0,hk,?_⟩
 rw[hx]
 conv=>whnf
 refine⟨fun h=>?_,fun h=>?_⟩
 ·have h1:x.link=-1:=by simpa using h
  rw[decide_eq_true qn,Bool.true_or]at hu
  subst hu
  refine oO ?_
  exact dN
 ·have h1:¬ x.link=-1:=by simpa using h
  have h2:x.link.toNat<fw.length:=by omega
  rw[decide_eq_false qn,Bool.false_or,List.getElem?_eq_getElem h2]at hu
  refine oO ?_
  refine⟨E,h0,hk,?_⟩
  rw[hx]
  conv=>whnf
  refine⟨E,by omega,h2,?_⟩
  conv=>whnf
  exact Aq E (.cons .tmp .nil) (congrArg Ab hu) E
theorem Aiy (n:Net) (hn:n.Fin) (fw:List Bool) (dom from_:Int):Sy.Spec Tryz.prog 314 [Aj n,.sl 1 Ab fw,Aa dom,Aa from_] [] (Ab (roomB n fw dom from_)) []:=cT F314 Tryz.ntmps314 fun F hF=>by
 have hr:=Dy n hn
 have hpl:=A8 dom n.domains.length
 have hres:=roomB.eq_1 n fw dom from_
 generalize roomB n fw dom from_=res at *
 conv=>whnf
 refine c0 hr F10 ?_
 cases hbn:Ae n
 ·rw[hbn,Bool.and_false,Bool.false_and]at hres
  subst hres
  (refine oT ?_;refine bT ?_;refine bT ?_)
  exact dN
 refine oF ?_
 refine⟨fun h=>?_,fun h=>?_⟩
 ·have h1:¬ fw.length=n.links.length:=by simp at h;omega
  rw[decide_eq_false h1,Bool.and_false,Bool.false_and,Bool.false_and]at hres
  subst hres
  refine oT ?_
  exact dN
 have h1:fw.length=n.links.length:=by simp at h;omega
 refine oO ?_
 refine c0 hpl F46 ?_
 cases hd:Ai dom n.domains.length
 ·rw[hd,Bool.false_and,Bool.false_and,Bool.false_and]at hres
  subst hres
  refine oT ?_
  exact dN
 have hdi:=Ba hd
 have qm:=Lf n hn hbn dom
 have qi:=E9 (Ci n dom) from_ (It n hn dom)
 have hmt:Ci n dom=Ax n dom:=by rw[Ci,if_pos ⟨⟨hdi.1,hdi.2⟩,hbn⟩]
 rw[hmt]at qm qi
 rw[hd,hbn,decide_eq_true h1,Bool.true_and,Bool.true_and,Bool.true_and]at hres
 generalize Ax n dom=ml at *
 refine oF ?_
 refine⟨fun h2=>?_,fun h2=>?_⟩
 ·have h3:from_=-1:=by simpa using h2
  rw[decide_eq_true h3,Bool.true_or,Bool.true_or]at hres
  subst hres
  refine oT ?_
  exact dN
 have h3:¬ from_=-1:=by simpa using h2
 refine oO ?_
 refine⟨fun h4=>?_,fun h4=>?_⟩
 ·have h5:from_=-2:=by simpa using h4
  rw[decide_eq_true h5,Bool.or_true,Bool.true_or]at hres
  subst hres
  refine oO ?_
  exact dN
 have h5:¬ from_=-2:=by simpa using h4
 rw[decide_eq_false h3,decide_eq_false h5,Bool.false_or,Bool.false_or]at hres
 subst hres
 refine oO ?_
 refine c0 qm F37 ?_
 refine oO ?_
 refine c0 qi F36 ?_
 refine oO ?_
 exact dN
theorem S1 {n:Net} (hb:Ae n=true) {p:Int} (h0:0≤p) (hp:p<n.ports.length):(nth n.ports p).link=-1∨0≤(nth n.ports p).link:=by
 have hk:p.toNat<n.ports.length:=by omega
 rw[Ak hk]
 simp only[Ae,Bool.and_eq_true]at hb
 have:=allB_iff.1 hb.1.1.1.1.1.2 _ hk
 simp only[D9,Bool.and_eq_true,Bool.or_eq_true,Ai,decide_eq_true_eq,beq_iff_eq]at this
 rcases this.2 with h | h
 ·exact .inl h
 ·exact .inr h.1.1
theorem Abh (n:Net) (fw:List Bool) (from_:Int) (l:List Int) {j:Nat} (h:j<l.length):Ch n fw from_ (l.take (j+1))=if (!(decide (l[j]=from_) || !(usableB n fw l[j])))=true then Ch n fw from_ (l.take j)++[l[j]] else Ch n fw from_ (l.take j):=by
 simp only[Ch]
 rw[List.take_add_one,List.getElem?_eq_getElem h,List.filter_append,Option.toList_some]
 by_cases hc:(!(decide (l[j]=from_) || !(usableB n fw l[j])))=true
 ·rw[if_pos hc,List.filter_cons,if_pos hc];rfl
 ·rw[if_neg hc,List.filter_cons,if_neg hc];simp
theorem X2 (n:Net) (fw:List Bool) (from_:Int) (l:List Int):(Ch n fw from_ l).length≤l.length:=List.length_filter_le _ _
theorem W2 (n:Net) (hn:n.Fin) (fw:List Bool) (dom from_:Int) :
  Sy.Spec Tryz.prog 252 [Aj n,.sl 1 Ab fw,Aa dom,Aa from_] [] (.tup [.sl 1 Aa (floodT n fw dom from_).1,.sl 1 Aa (floodT n fw dom from_).2.1,Aa (floodT n fw dom from_).2.2]) []:=cT F252 Tryz.ntmps252 fun F hF=>by
 have hres:=floodT.eq_1 n fw dom from_
 generalize floodT n fw dom from_=res at *
 have qf:=Aiy n hn fw dom from_
 cases hroom:roomB n fw dom from_
 ·rw[hroom]at qf
  rw[if_pos hroom]at hres
  subst hres
  conv=>whnf
  refine c0 qf F314 ?_
  refine oT ?_
  refine Am 8 1 Aa E ?_
  refine Am 9 1 Aa E ?_
  exact dN
 rw[hroom]at qf
 rw[if_neg (by rw[hroom];decide)]at hres
 have hb2:K6 n fw dom=true:=by rw[Jn,Bool.and_eq_true]at hroom;exact hroom.1
 simp only[K6,Bool.and_eq_true,decide_eq_true_eq]at hb2
 obtain ⟨⟨hd,hfw⟩,hbn⟩:=hb2
 have hdi:=Ba hd
 have hd0:0≤dom:=hdi.1
 have hkd:dom.toNat<n.domains.length:=by omega
 have e2:nth n.domains dom=n.domains[dom.toNat]:=Ak hkd
 have qm:=Lf n hn hbn dom
 have hmt:Ci n dom=Ax n dom:=by rw[Ci,if_pos ⟨⟨hdi.1,hdi.2⟩,hbn⟩]
 rw[hmt]at qm
 have hml:=Jg hn dom
 have qu:∀ p∈Ax n dom,_:=fun p hp=>Us n fw p (B6 p hp).1 (B6 p hp).2 (by rw[hfw];exact M3 hbn (B6 p hp).1 (B6 p hp).2) (S1 hbn (B6 p hp).1 (B6 p hp).2)
 have hpo:=peersOut.eq_1 n dom from_
 rw[e2]at hpo
 obtain ⟨d,hdd⟩:∃ d,n.domains[dom.toNat]'hkd=d:=⟨_,rfl⟩
 rw[hdd]at hpo
 generalize Ax n dom=ml at *
 generalize peersOut n dom from_=po at *
 unfold Ap at hml
 conv=>whnf
 refine c0 qf F314 ?_
 refine oF ?_
 refine c0 qm F37 ?_
 refine oO ?_
 refine Bm 11 1000 1 Aa E E ?_
 refine A3 4 8 (Aj n) E E E ?_
 refine At ml.length (fun j=>[(1,.sl 1 Ab fw),(2,Aa dom),(3,Aa from_),(4,.ref 8 (Aj n) 0),(11,.osl 1000),(12,.sl 1 Aa ml),(13,Aa j)]) (fun j=>[(1000,.row 1 Aa (Ch n fw from_ (ml.take j)))]) [] ⟨⟨E,E,E,E,E,E,E,E,E,E,E,E,E,E,Y⟩,⟨.inl E,E,Y⟩,E,E⟩ ?_
 intro j hj
 have hsucc:=fun h:j<ml.length=>Abh n fw from_ ml h
 have hlen:=X2 n fw from_ (ml.take j)
 rw[List.length_take]at hlen
 obtain ⟨u,hu⟩:∃ u,Ch n fw from_ (ml.take j)=u:=⟨_,rfl⟩
 rw[hu]at hsucc hlen ⊢
 refine oO ?_
 refine⟨fun h=>?_,fun h=>?_⟩
 ·have hlt:j<ml.length:=qA h
  have hs:=hsucc hlt
  have qx:=qu ml[j] (List.getElem_mem hlt)
  have hej:ml[((j:Nat):Int).toNat]'qn=ml[j]:=rfl
  obtain ⟨x,hx⟩:∃ x,ml[j]=x:=⟨_,rfl⟩
  rw[hx]at hs qx hej
  refine oO ?_
  refine⟨E,by omega,by omega,?_⟩
  rw[hej]
  conv=>whnf
  refine⟨fun h2=>?_,fun h2=>?_⟩
  ·have h3:¬ x=from_:=by simpa using h2
   refine oD ?_
   refine⟨E,by omega,by omega,?_⟩
   rw[hej]
   conv=>whnf
   refine cD qx F315 ?_
   cases hub:usableB n fw x
   ·rw[if_neg (by simp[hub])]at hs
    refine oD ?_
    refine⟨qq,?_⟩
    ((conv=>whnf);refine aF ?_;refine rg ?_;conv=>whnf)
    refine iW ?_
    exact An [] hlt ⟨⟨E,E,E,E,E,E,E,E,E,E,E,E,E,E,Y⟩,⟨.inl (congrArg (Ob.row 1 Aa) hs),E,Y⟩,E,E⟩
   ·rw[if_pos (by simp[hub,h3])]at hs
    refine oD ?_
    refine⟨qq,?_⟩
    ((conv=>whnf);refine aT ?_;refine rg ?_;conv=>whnf)
    refine⟨E,by omega,by omega,?_⟩
    rw[hej]
    conv=>whnf
    refine Ad (Ac Γ.toTy 60 rfl rfl rfl rfl rfl (.row rfl) (.lit (e:=Aa) (l:=[x]) rfl rfl) (fun j hj=>by cases hj;decide) (by simp;omega) (by simp;omega)) rfl rfl ?_
    refine oO ?_
    refine iW ?_
    exact An [(1000,60)] hlt ⟨⟨E,E,E,E,E,E,E,E,E,E,E,E,E,E,Y⟩,⟨.inl (congrArg (Ob.row 1 Aa) hs),E,Y⟩,E,E⟩
  ·have h3:x=from_:=by simpa using h2
   rw[if_neg (by simp[h3])]at hs
   refine oD ?_
   refine⟨qq,?_⟩
   ((conv=>whnf);refine aF ?_;refine rg ?_;conv=>whnf)
   refine iW ?_
   exact An [] hlt ⟨⟨E,E,E,E,E,E,E,E,E,E,E,E,E,E,Y⟩,⟨.inl (congrArg (Ob.row 1 Aa) hs),E,Y⟩,E,E⟩
 ·have:j=ml.length:=qB h
  subst this
  rw[List.take_length]at hu
  rw[hu]at hres
  refine Ao 1000 E ?_
  refine oO ?_
  refine⟨fun h2=>?_,fun h2=>?_⟩
  ·rw[if_pos (by simpa using h2)]at hpo
   rw[hpo]at hres
   subst hres
   refine oO ?_
   refine Am 9 1 Aa E ?_
   exact dN
  ·rw[if_neg (by simpa using h2)]at hpo
   rw[hpo]at hres
   subst hres
   refine oO ?_
   refine⟨E,hd0,hkd,?_⟩
   rw[hdd]
   conv=>whnf
   refine kW ?_
   exact dN
theorem Agt {b:Bool} (h:(!b)=true):b=false:=by simpa using h
theorem Ad3 (n:Net) (hn:n.Fin) (dom:Int) (m:Nat):Sy.Spec Tryz.prog 319 [Aj n,Aa dom,As m] [] (Aa (staticP n dom m)) []:=cT F319 Tryz.ntmps319 fun F hF=>by
 have hst:=hn.statics
 unfold Ap at hst
 conv=>whnf
 refine A3 3 8 (Aj n) E E E ?_
 refine Ay n.statics.length (fun j=>Dd (fun _ s=>!(decide (Static.domain s=dom) && decide (Static.mac s=(m:Int)))) n.statics j) (fun j=>[(1,Aa dom),(2,As m),(3,.ref 8 (Aj n) 0),(7,Aa j)]) (fun _=>[]) [] (A2 _ _) ⟨⟨E,E,E,E,E,E,E,E,Y⟩,Y,E,E⟩ ?_
 intro j hj hI
 refine oO ?_
 refine⟨fun h=>?_,fun h=>?_⟩
 ·have hlt:j<n.statics.length:=qA h
  have hej:n.statics[((j:Nat):Int).toNat]'qn=n.statics[j]:=rfl
  have hfound:(decide (n.statics[j].domain=dom) && decide (n.statics[j].mac=(m:Int)))=true→staticP n dom m=n.statics[j].port:=fun h=>by
   have:Ds n dom m=j:=C3 hlt (fun i hi hij=>Agt (hI i hi hij)) h
   rw[staticP,this,if_pos qn,Ak (by simpa using hlt)];rfl
  have hnext:(decide (n.statics[j].domain=dom) && decide (n.statics[j].mac=(m:Int)))=false→Dd (fun _ s=>!(decide (Static.domain s=dom) && decide (Static.mac s=(m:Int)))) n.statics (j+1):=fun h=>A1 hI hlt (by simp only[h];rfl)
  obtain ⟨x,hx⟩:∃ x,n.statics[j]=x:=⟨_,rfl⟩
  rw[hx]at hej hfound hnext
  refine oO ?_
  refine⟨E,by omega,by omega,?_⟩
  rw[hej]
  conv=>whnf
  refine⟨fun h2=>?_,fun h2=>?_⟩
  ·have h3:x.domain=dom:=by simpa using h2
   refine oO ?_
   refine⟨E,by omega,by omega,?_⟩
   rw[hej]
   conv=>whnf
   refine⟨fun h4=>?_,fun h4=>?_⟩
   ·rw[hfound (by rw[decide_eq_true h3,decide_eq_true (by simpa using h4)];rfl)]
    refine oO ?_
    refine⟨E,by omega,by omega,?_⟩
    rw[hej]
    conv=>whnf
    exact dN
   ·have hI2:=hnext (by rw[decide_eq_false (p:=x.mac=(m:Int)) (by simpa using h4),Bool.and_false])
    refine oO ?_
    refine iW ?_
    exact Av [] hI qn hI2 ⟨⟨E,E,E,E,E,E,E,E,Y⟩,Y,E,E⟩
  ·have hI2:=hnext (by rw[decide_eq_false (p:=x.domain=dom) (by simpa using h2),Bool.false_and])
   refine oF ?_
   refine iW ?_
   exact Av [] hI qn hI2 ⟨⟨E,E,E,E,E,E,E,E,Y⟩,Y,E,E⟩
 ·have hend:j=n.statics.length:=qB h
  subst hend
  have hno:Ds n dom m=-1:=Dk fun i hi=>Agt (hI i hi hi)
  have hp:staticP n dom m=-1:=by rw[staticP,hno,if_neg qy]
  rw[hp]
  refine oO ?_
  exact dN
theorem Anf (n:Net) (fw:List Bool) (p from_:Int) (hb:Ae n=true) (hfw:fw.length=n.links.length) (h0:0≤p) (hp:p<n.ports.length) :
  Sy.Spec Tryz.prog 320 [Aj n,.sl 1 Ab fw,Aa p,Aa from_] [] (.sl 1 Aa (Ch n fw from_ [p])) []:=cT F320 Tryz.ntmps320 fun F hF=>by
 have q:=Us n fw p h0 hp (by rw[hfw];exact M3 hb h0 hp) (S1 hb h0 hp)
 have hres:Ch n fw from_ [p]=if (!(decide (p=from_) || !(usableB n fw p)))=true then [p] else []:=by
  simp only[Ch,List.filter_cons,List.filter_nil]
 rw[hres]
 conv=>whnf
 refine⟨fun h=>?_,fun h=>?_⟩
 ·have h1:p=from_:=by simpa using h
  rw[if_neg (by simp[h1])]
  refine oT ?_
  refine Am 8 1 Aa E ?_
  exact dN
 have h1:¬ p=from_:=by simpa using h
 refine oO ?_
 refine c0 q F315 ?_
 cases hub:usableB n fw p
 ·rw[if_neg qz]
  refine oT ?_
  refine Am 8 1 Aa E ?_
  exact dN
 ·rw[if_pos (by simp[h1])]
  refine oF ?_
  refine Ic 20 Aa [p] E E ?_
  refine Ao 20 E ?_
  exact dN
theorem Abe (x:Int) (g:Bool) (q:Sy.Spec Tryz.prog 186 [As x] [] (Ab g) []):Sy.Spec Tryz.prog 262 [As x] [] (Ab (decide (x<281474976710656) && !g)) []:=cT F262 Tryz.ntmps262 fun F hF=>by
 conv=>whnf
 refine⟨fun h1=>?_,fun h1=>?_⟩
 ·refine oO ?_
  refine c0 q F186 ?_
  refine oO ?_
  exact Aq E (.cons .tmp .nil) (congrArg Ab (by rw[h1,Bool.true_and])) E
 ·refine oO ?_
  exact Aq E (.cons .tmp .nil) (congrArg Ab (by rw[h1,Bool.false_and])) E
theorem Sz (m:Nat) (h:m<18446744073709551616):Sy.Spec Tryz.prog 262 [As m] [] (Ab (Ex m)) []:=by
 have q:=Abe m _ (Jo m h)
 have e:decide ((m:Int)<281474976710656)=decide (m≤281474976710655):=by
  by_cases h:m≤281474976710655
  ·rw[decide_eq_true h,decide_eq_true qn]
  ·rw[decide_eq_false h,decide_eq_false qn]
 rw[e]at q
 exact q
theorem My (i:Int):Sy.Spec Tryz.prog 193 [Aa i] [] (Ab (Cu i)) []:=cT F193 Tryz.ntmps193 fun F hF=>by
 conv=>whnf
 (repeat' (first | (refine⟨fun h=>?_,fun h=>?_⟩<;>(repeat (first | simp only[decide_eq_true_eq]at h | simp only[decide_eq_false_iff_not]at h))<;>((refine oO ?_))) | (refine Aq rfl (.cons .tmp .nil) ?_ rfl)))
 all_goals (refine congrArg Ab ?_)
 all_goals grind [Cu]
theorem Ql {t:List EntryM} {m:Nat} {j:Nat} (hj:j<t.length) (h1:∀ k (hk:k<t.length),k<j→t[k].mac≠m) (h2:t[j].mac=m):Cz t m=j :=
 C3 hj (fun k hk hkj=>decide_eq_false (h1 k hk hkj)) (decide_eq_true h2)
theorem Zi (t:List EntryM) (m:Nat) (hl:Ap t):Sy.Spec Tryz.prog 316 [.sl 3 Al t,As m] [] (.tup [Aa (findE t m).1,Ab (findE t m).2]) []:=cT F316 Tryz.ntmps316 fun F hF=>by
 unfold Ap at hl
 conv=>whnf
 refine Ay t.length (fun j=>∀ k (hk:k<t.length),k<j→t[k].mac≠m) (fun j=>[(0,.sl 3 Al t),(1,As m),(6,Aa j)]) (fun _=>[]) [] (fun k _ h=>absurd h qn) ⟨⟨E,E,E,E,E,E,Y⟩,Y,E,E⟩ ?_
 intro j hj hI
 refine oO ?_
 refine⟨fun h=>?_,fun h=>?_⟩
 ·have hlt:j<t.length:=qA h
  refine oO ?_
  refine⟨E,by omega,by omega,?_⟩
  rw[show t[((j:Nat):Int).toNat]'qn=t[j] from rfl]
  conv=>whnf
  refine⟨fun h2=>?_,fun h2=>?_⟩
  ·have h3:t[j].mac=m:=by simp at h2;omega
   have hix:=Ql hlt hI h3
   have hfe:findE t m=(t[j].where_,true):=by
    rw[findE,hix,if_neg qn,Int.toNat_natCast,List.getElem?_eq_getElem hlt];rfl
   rw[hfe]
   refine oO ?_
   refine⟨E,by omega,by omega,?_⟩
   rw[show t[((j:Nat):Int).toNat]'qn=t[j] from rfl]
   conv=>whnf
   exact dN
  ·have h3:t[j].mac≠m:=by simp at h2;omega
   refine oO ?_
   refine iW ?_
   exact Av [] hI qn (fun k hk hkj=>by
    by_cases hkj2:k<j
    ·exact hI k hk hkj2
    ·have:k=j:=by omega
     subst this
     exact h3) ⟨⟨E,E,E,E,E,E,Y⟩,Y,E,E⟩
 ·have hend:j=t.length:=qB h
  subst hend
  have hix:Cz t m=-1:=Dk fun i hi=>decide_eq_false (hI i hi hi)
  have hfe:findE t m=(0,false):=by rw[findE,hix,if_pos qy]
  rw[hfe]
  refine oO ?_
  exact dN
theorem Ahp {t:List EntryM} {j:Nat} (hj:j<t.length):Cz t t[j].mac=j↔∀ k (hk:k<t.length),k<j→t[k].mac≠t[j].mac:=by
 refine⟨fun h k hk hkj he=>?_,fun h=>Ql hj h E⟩
 rcases I6 (fun e=>decide (EntryM.mac e=t[j].mac)) t with ⟨h1,_⟩ | ⟨i,hi,h1,h2,h3⟩
 ·rw[Cz,h1]at h;omega
 ·have:i=j:=by rw[Cz,h1]at h;omega
  subst this
  have:=h3 k hk hkj
  rw[decide_eq_false_iff_not]at this
  exact this he
theorem Lg (t:List EntryM) (hl:Ap t) (hmac:∀ e∈t,e.mac<18446744073709551616):Sy.Spec Tryz.prog 192 [.sl 3 Al t] [] (Ab (tableB t)) []:=cT F192 Tryz.ntmps192 fun F hF=>by
 unfold Ap at hl
 have hres:=tableB.eq_1 t
 generalize tableB t=res at *
 conv=>whnf
 refine⟨fun h=>?_,fun h=>?_⟩
 ·have h8:¬ t.length≤8:=by simp at h;omega
  rw[decide_eq_false h8,Bool.false_and]at hres
  subst hres
  refine oO ?_
  exact dN
 have h8:t.length≤8:=by simp at h;omega
 rw[decide_eq_true h8,Bool.true_and]at hres
 refine oO ?_
 refine Ay t.length (fun j=>Dd (I9 t) t j) (fun j=>[(0,.sl 3 Al t),(3,Aa j)]) (fun _=>[]) [] (A2 _ _) ⟨⟨E,E,E,E,Y⟩,Y,E,E⟩ ?_
 intro j hj hI
 refine oO ?_
 refine⟨fun h=>?_,fun h=>?_⟩
 ·have hlt:j<t.length:=qA h
  have q1:=Sz t[j].mac (hmac _ (List.getElem_mem hlt))
  have q2:=My t[j].seen
  have hfirst:=Ahp hlt
  have hent:I9 t j t[j]=(Ex t[j].mac && Cu t[j].seen && decide (Cz t t[j].mac=j)):=rfl
  have hbad:I9 t j t[j]=false→res=false:=fun hf=>by rw[hres];exact Bf hlt hf
  have hgood:I9 t j t[j]=true→Dd (I9 t) t (j+1):=fun ht=>A1 hI hlt ht
  have hej:t[((j:Nat):Int).toNat]'qn=t[j]:=rfl
  obtain ⟨x,hx⟩:∃ x,t[j]=x:=⟨_,rfl⟩
  rw[hx]at q1 q2 hfirst hent hbad hgood hej
  refine oO ?_
  refine⟨E,by omega,by omega,?_⟩
  rw[hej]
  conv=>whnf
  refine c0 q1 F262 ?_
  cases h1:Ex x.mac
  ·rw[hbad (by rw[hent,h1];rfl)]
   (refine oT ?_;refine bT ?_)
   exact dN
  refine oF ?_
  refine⟨E,by omega,by omega,?_⟩
  rw[hej]
  conv=>whnf
  refine c0 q2 F193 ?_
  cases h2:Cu x.seen
  ·rw[hbad (by rw[hent,h1,h2];rfl)]
   refine oT ?_
   exact dN
  refine oF ?_
  refine Ay j (fun i=>∀ k (hk:k<t.length),k<i→t[k].mac≠x.mac) (fun i=>[(0,.sl 3 Al t),(3,Aa j),(4,Aa i)]) (fun _=>[]) [] (fun k _ h=>absurd h qn) ⟨⟨E,E,E,E,E,E,Y⟩,Y,E,E⟩ ?_
  intro i hi hJ
  refine oO ?_
  refine⟨fun h=>?_,fun h=>?_⟩
  ·have hlt2:i<j:=qA h
   refine oO ?_
   refine⟨E,by omega,by omega,?_⟩
   rw[show t[((i:Nat):Int).toNat]'qn=t[i] from rfl]
   conv=>whnf
   refine⟨E,by omega,by omega,?_⟩
   rw[hej]
   conv=>whnf
   refine kW ?_
   refine⟨fun h3=>?_,fun h3=>?_⟩
   ·have h4:t[i].mac=x.mac:=by simp at h3;omega
    have h5:¬ Cz t x.mac=j:=fun h=>hfirst.1 h i qn hlt2 h4
    rw[hbad (by rw[hent,h1,h2,decide_eq_false h5];rfl)]
    refine oO ?_
    exact dN
   ·have h4:t[i].mac≠x.mac:=by simp at h3;omega
    refine oO ?_
    refine iW ?_
    exact Av [] hJ qn (fun k hk hki=>by
     by_cases hki2:k<i
     ·exact hJ k hk hki2
     ·have:k=i:=by omega
      subst this
      exact h4) ⟨⟨E,E,E,E,E,E,Y⟩,Y,E,E⟩
  ·have:i=j:=qB h
   subst this
   have h4:=hgood (by rw[hent,h1,h2,decide_eq_true (hfirst.2 hJ)];rfl)
   refine oO ?_
   refine iW ?_
   exact Av [] hI qn h4 ⟨⟨E,E,E,E,Y⟩,Y,E,E⟩
 ·have hend:j=t.length:=qB h
  subst hend
  rw[hres.trans (Cf hI (Nat.le_refl _))]
  refine oO ?_
  exact dN
theorem Att (t:List EntryM) (now:Int):ageT t now=t.filter fun e=>!(tableB t) || !(Cu now) || decide (now-e.seen≤4):=by
 unfold ageT
 split
 ·rename_i h
  refine(List.filter_eq_self.2 fun e _=>?_).symm
  rcases h with h | h<;>simp[h]
 ·rename_i h
  rw[not_or]at h
  refine List.filter_congr fun e _=>?_
  have h1:tableB t=true:=by simpa using h.1
  have h2:Cu now=true:=by simpa using h.2
  rw[h1,h2,Bool.eq_iff_iff]
  simp
  omega
theorem table_seen {t:List EntryM} (h:tableB t=true) {i:Nat} (hi:i<t.length):0≤t[i].seen∧t[i].seen≤1099511627776:=by
 simp only[tableB,Bool.and_eq_true]at h
 have h2:=allB_iff.1 h.2 i hi
 simp only[I9,Bool.and_eq_true,Cu,decide_eq_true_eq]at h2
 exact h2.1.2
theorem Aci (t:List EntryM) (now:Int) (hl:Ap t) (hmac:∀ e∈t,e.mac<18446744073709551616):Sy.Spec Tryz.prog 130 [.sl 3 Al t,Aa now] [] (.sl 3 Al (ageT t now)) []:=cT F130 Tryz.ntmps130 fun F hF=>by
 have q1:=Lg t hl hmac
 have q2:=My now
 unfold Ap at hl
 have hseen:=@table_seen t
 rw[Att]
 obtain ⟨c,hc⟩:∃ c:EntryM→Bool,(fun e=>!(tableB t) || !(Cu now) || decide (now-e.seen≤4))=c:=⟨_,rfl⟩
 rw[hc]
 conv=>whnf
 refine Bm 5 1000 3 Al E E ?_
 refine At t.length (fun j=>[(0,.sl 3 Al t),(1,Aa now),(5,.osl 1000),(6,Aa j)]) (fun j=>[(1000,.row 3 Al ((t.take j).filter c))]) [] ⟨⟨E,E,E,E,E,E,E,E,Y⟩,⟨.inl E,E,Y⟩,E,E⟩ ?_
 intro j hj
 have hfl:((t.take j).filter c).length≤j:=Nat.le_trans (List.length_filter_le _ _) (by rw[List.length_take];omega)
 have hsucc:∀ h:j<t.length,(t.take (j+1)).filter c=if c t[j]=true then (t.take j).filter c++[t[j]] else (t.take j).filter c:=fun h=>by
  rw[List.take_add_one,List.getElem?_eq_getElem h,List.filter_append]
  by_cases hct:c t[j]=true
  ·rw[if_pos hct];simp[hct]
  ·rw[if_neg hct];simp[hct]
 refine oO ?_
 refine⟨fun h=>?_,fun h=>?_⟩
 ·have hlt:j<t.length:=qA h
  have hs:=hsucc hlt
  have hct:c t[j]=(!(tableB t) || !(Cu now) || decide (now-t[j].seen≤4)):=by rw[← hc]
  have hsj:=fun h=>hseen h hlt
  have hej:t[((j:Nat):Int).toNat]'qn=t[j]:=rfl
  obtain ⟨u,hu⟩:∃ u,(t.take j).filter c=u:=⟨_,rfl⟩
  obtain ⟨x,hx⟩:∃ x,t[j]=x:=⟨_,rfl⟩
  rw[hu]at hs hfl ⊢
  rw[hx]at hs hct hsj hej
  have fin:∀ b:Bool,c x=b→True:=fun _ _=>trivial
  refine oO ?_
  refine c0 q1 F192 ?_
  cases h1:tableB t
  ·rw[h1]at hct
   have hcx:c x=true:=by rw[hct];rfl
   rw[if_pos hcx]at hs
   (refine oT ?_;refine bT ?_;refine bT ?_)
   refine⟨E,by omega,by omega,?_⟩
   rw[hej]
   conv=>whnf
   refine Ad (Ac Γ.toTy 60 rfl rfl rfl rfl rfl (.row rfl) (.lit (e:=Al) (l:=[x]) rfl rfl) (fun j hj=>by cases hj;decide) (by simp;omega) (by simp;omega)) rfl rfl ?_
   refine oO ?_
   refine iW ?_
   exact An [(1000,60)] hlt ⟨⟨E,E,E,E,E,E,E,E,Y⟩,⟨.inl (congrArg (Ob.row 3 Al) hs),E,Y⟩,E,E⟩
  refine oF ?_
  refine c0 q2 F193 ?_
  cases h2:Cu now
  ·rw[h1,h2]at hct
   have hcx:c x=true:=by rw[hct];rfl
   rw[if_pos hcx]at hs
   (refine oT ?_;refine bT ?_)
   refine⟨E,by omega,by omega,?_⟩
   rw[hej]
   conv=>whnf
   refine Ad (Ac Γ.toTy 60 rfl rfl rfl rfl rfl (.row rfl) (.lit (e:=Al) (l:=[x]) rfl rfl) (fun j hj=>by cases hj;decide) (by simp;omega) (by simp;omega)) rfl rfl ?_
   refine oO ?_
   refine iW ?_
   exact An [(1000,60)] hlt ⟨⟨E,E,E,E,E,E,E,E,Y⟩,⟨.inl (congrArg (Ob.row 3 Al) hs),E,Y⟩,E,E⟩
  have hsj:=hsj h1
  have hnow:0≤now∧now≤1099511627776:=by simpa [Cu] using h2
  rw[h1,h2]at hct
  refine oF ?_
  refine⟨E,by omega,by omega,?_⟩
  rw[hej]
  conv=>whnf
  refine iW ?_
  refine⟨fun h3=>?_,fun h3=>?_⟩
  ·have hcx:c x=true:=by rw[hct,h3];rfl
   rw[if_pos hcx]at hs
   refine oO ?_
   refine⟨E,by omega,by omega,?_⟩
   rw[hej]
   conv=>whnf
   refine Ad (Ac Γ.toTy 60 rfl rfl rfl rfl rfl (.row rfl) (.lit (e:=Al) (l:=[x]) rfl rfl) (fun j hj=>by cases hj;decide) (by simp;omega) (by simp;omega)) rfl rfl ?_
   refine oO ?_
   refine iW ?_
   exact An [(1000,60)] hlt ⟨⟨E,E,E,E,E,E,E,E,Y⟩,⟨.inl (congrArg (Ob.row 3 Al) hs),E,Y⟩,E,E⟩
  ·have hcx:¬ c x=true:=by rw[hct,h3];decide
   rw[if_neg hcx]at hs
   refine oO ?_
   refine iW ?_
   exact An [] hlt ⟨⟨E,E,E,E,E,E,E,E,Y⟩,⟨.inl (congrArg (Ob.row 3 Al) hs),E,Y⟩,E,E⟩
 ·have:j=t.length:=qB h
  subst this
  rw[List.take_length]
  refine Ao 1000 E ?_
  refine oO ?_
  exact dN
def Il (t:List EntryM) (m:Nat) (new:EntryM) (old:Int):Nat→List EntryM
 | 0=>[]
 | j+1=>match t[j]? with
  | some x=>if x.mac=m then Il t m new old j++[new] else if (j:Int)≠old then Il t m new old j++[x] else Il t m new old j
  | none=>Il t m new old j
def Ags (t:List EntryM):Nat→Int
 | 0=>-1
 | j+1=>(oldestU t (j+1):Nat)
theorem Ajg {t:List EntryM} {m:Nat} {new:EntryM} {i:Nat} (hi:i<t.length) (h:∀ j (hj:j<t.length),t[j].mac=m↔j=i) (j:Nat) (hj:j≤t.length):Il t m new (-1) j=(t.set i new).take j:=by
 induction j with
 | zero=>rfl
 | succ j ih =>
  have hjl:j<t.length:=by omega
  rw[Il,List.getElem?_eq_getElem hjl,ih qn]
  have hsl:j<(t.set i new).length:=by rw[List.length_set];omega
  rw[List.take_add_one,List.getElem?_eq_getElem hsl]
  dsimp only
  by_cases hm1:t[j].mac=m
  ·have:=(h j hjl).1 hm1
   subst this
   rw[if_pos hm1,List.getElem_set_self];rfl
  ·have hne:i≠j:=fun e=>hm1 ((h j hjl).2 e.symm)
   rw[if_neg hm1,if_pos qn,List.getElem_set_ne hne];rfl
theorem Ano {t:List EntryM} {m:Nat} {new:EntryM} (h:∀ j (hj:j<t.length),t[j].mac≠m) (j:Nat) (hj:j≤t.length):Il t m new (-1) j=t.take j:=by
 induction j with
 | zero=>rfl
 | succ j ih =>
  have hjl:j<t.length:=by omega
  rw[Il,List.getElem?_eq_getElem hjl,ih qn,List.take_add_one,List.getElem?_eq_getElem hjl]
  dsimp only
  rw[if_neg (h j hjl),if_pos qn];rfl
theorem Aqc {t:List EntryM} {m:Nat} {new:EntryM} (o:Nat) (h:∀ j (hj:j<t.length),t[j].mac≠m) (j:Nat) (hj:j≤t.length):Il t m new o j=(t.take j).eraseIdx o:=by
 induction j with
 | zero=>rw[Il,List.take_zero,List.eraseIdx_nil]
 | succ j ih =>
  have hjl:j<t.length:=by omega
  have hlen:(t.take j).length=j:=by rw[List.length_take];omega
  rw[Il,List.getElem?_eq_getElem hjl,ih qn,List.take_add_one,List.getElem?_eq_getElem hjl]
  dsimp only
  rw[if_neg (h j hjl),Option.toList_some]
  by_cases ho:o<j
  ·rw[if_pos qn,List.eraseIdx_append_of_lt_length qn]
  ·rw[List.eraseIdx_append_of_length_le qn,hlen,List.eraseIdx_of_length_le (l:=t.take j) qn]
   by_cases hoj:o=j
   ·subst hoj
    rw[if_neg qn,Nat.sub_self];simp
   ·rw[if_pos qn,List.eraseIdx_of_length_le (by simp;omega)]
theorem find_none {t:List EntryM} {m:Nat} (h:(findE t m).2=false):Cz t m=-1∧∀ j (hj:j<t.length),t[j].mac≠m:=by
 rcases I6 (fun e=>decide (EntryM.mac e=m)) t with ⟨h1,h2⟩ | ⟨i,hi,h1,h2,h3⟩
 ·exact⟨h1,fun j hj=>of_decide_eq_false (h2 t[j] (List.getElem_mem hj))⟩
 ·have h4:Cz t m=i:=h1
  rw[findE,h4,if_neg qn]at h
  cases h
theorem find_some {t:List EntryM} {m:Nat} (hr:tableB t=true) (h:(findE t m).2=true):∃ (i:Nat) (_hi:i<t.length),Cz t m=i∧∀ j (hj:j<t.length),t[j].mac=m↔j=i:=by
 rcases I6 (fun e=>decide (EntryM.mac e=m)) t with ⟨h1,h2⟩ | ⟨i,hi,h1,h2,h3⟩
 ·have h4:Cz t m=-1:=h1
  rw[findE,h4,if_pos qy]at h
  cases h
 ·have him:t[i].mac=m:=of_decide_eq_true h2
  refine⟨i,hi,h1,fun j hj=>⟨fun hj2=>?_,fun e=>by subst e;exact him⟩⟩
  simp only[tableB,Bool.and_eq_true]at hr
  have he:=allB_iff.1 hr.2 j hj
  simp only[I9,Bool.and_eq_true,decide_eq_true_eq]at he
  have:=he.2
  rw[hj2]at this
  have h4:Cz t m=i:=h1
  omega
theorem Sb (t:List EntryM) (m:Nat) (new:EntryM) (old:Int) {j:Nat} (h:j<t.length):Il t m new old (j+1)=if t[j].mac=m then Il t m new old j++[new] else if (j:Int)≠old then Il t m new old j++[t[j]] else Il t m new old j:=by
 rw[Il,List.getElem?_eq_getElem h]
theorem Li (t:List EntryM) (m:Nat) (new:EntryM) (old:Int) (j:Nat):(Il t m new old j).length≤j:=by
 induction j with
 | zero=>exact Nat.le_refl _
 | succ j ih =>
  rw[Il]
  split
  ·split
   ·rw[List.length_append];simp;omega
   ·split
    ·rw[List.length_append];simp;omega
    ·omega
  ·omega
theorem W3 (t:List EntryM) (m:Nat) (wh now:Int) (hl:Ap t) (hmac:∀ e∈t,e.mac<18446744073709551616) (hm64:m<18446744073709551616) :
  Sy.Spec Tryz.prog 253 [.sl 3 Al t,As m,Aa wh,Aa now] [] (.sl 3 Al (learnT t m wh now)) []:=cT F253 Tryz.ntmps253 fun F hF=>by
 have q1:=Lg t hl hmac
 have q2:=Sz m hm64
 have q3:=My now
 have q4:=Zi t m hl
 unfold Ap at hl
 have hres:=learnT.eq_1 t m wh now
 generalize learnT t m wh now=res at *
 conv=>whnf
 refine c0 q1 F192 ?_
 cases h1:tableB t
 ·rw[if_pos (.inl h1)]at hres
  subst hres
  (refine oT ?_;refine bT ?_;refine bT ?_)
  refine Ad (Ac Γ.toTy 30 E E E E E (.lit (e:=Al) (l:=[]) E E) .sl qz (by simp;omega) (by simp;omega)) E E ?_
  refine Ao 30 E ?_
  refine oO ?_
  exact dN
 refine oF ?_
 refine c0 q2 F262 ?_
 cases h2:Ex m
 ·rw[if_pos (.inr (.inl h2))]at hres
  subst hres
  (refine oT ?_;refine bT ?_)
  refine Ad (Ac Γ.toTy 30 E E E E E (.lit (e:=Al) (l:=[]) E E) .sl qz (by simp;omega) (by simp;omega)) E E ?_
  refine Ao 30 E ?_
  refine oO ?_
  exact dN
 refine oF ?_
 refine c0 q3 F193 ?_
 cases h3:Cu now
 ·rw[if_pos (.inr (.inr h3))]at hres
  subst hres
  refine oT ?_
  refine Ad (Ac Γ.toTy 30 E E E E E (.lit (e:=Al) (l:=[]) E E) .sl qz (by simp;omega) (by simp;omega)) E E ?_
  refine Ao 30 E ?_
  refine oO ?_
  exact dN
 rw[if_neg (by simp[h1,h2,h3])]at hres
 have ht8:t.length≤8:=by simp only[tableB,Bool.and_eq_true,decide_eq_true_eq]at h1;exact h1.1
 have hno:=@find_none t m
 have hso:=@find_some t m h1
 generalize findE t m=fe at *
 obtain ⟨fw,th⟩:=fe
 dsimp only at hno hso
 refine oF ?_
 refine c0 q4 F316 ?_
 by_cases hcase:t.length=8∧th=false
 ·obtain ⟨hc8,rfl⟩:=hcase
  obtain ⟨hi1,hi2⟩:=hno rfl
  obtain ⟨old,hold⟩:∃ old:Int,Ags t t.length=old:=⟨_,rfl⟩
  have hold2:old=(oldestU t t.length:Nat):=by rw[← hold,hc8];rfl
  have hout:res=if (false:Bool)=true then Il t m ⟨m,wh,now⟩ old t.length else Il t m ⟨m,wh,now⟩ old t.length++[⟨m,wh,now⟩]:=by
   rw[if_neg qy,hres,hi1,if_neg qy,if_pos hc8,hold2,Aqc _ hi2 _ (Nat.le_refl _),List.take_length]
  refine oO ?_
  refine At t.length (fun j=>[(0,.sl 3 Al t),(1,As m),(2,Aa wh),(3,Aa now),(10,Ab false),(11,Aa (Ags t j)),(12,Aa j)]) (fun _=>[]) [] ⟨⟨E,E,E,E,E,E,E,E,E,E,E,E,E,E,Y⟩,Y,E,E⟩ ?_
  intro j hj
  refine oO ?_
  refine⟨fun h=>?_,fun h=>?_⟩
  ·have hlt:j<t.length:=qA h
   refine oO ?_
   refine⟨fun _=>?_,fun h=>absurd h (by simp;omega)⟩
   cases j with
   | zero =>
    have h10:Ags t 1=0:=by rw[Ags,oldestU];split<;>rfl
    rw[show Ags t 0=-1 from rfl]
    (refine rg ?_;(conv=>whnf);refine aT ?_;refine rg ?_;(conv=>whnf);refine aT ?_;refine oD ?_)
    refine⟨qq,?_⟩
    ((conv=>whnf);refine aT ?_;refine rg ?_;conv=>whnf)
    refine iW ?_
    exact An (i:=0) [] hlt ⟨⟨E,E,E,E,E,E,E,E,E,E,congrArg Aa h10,E,E,E,Y⟩,Y,E,E⟩
   | succ j =>
    have hol:=Tm t (j+1) qn qn
    have hs:Ags t (j+1+1)=((oldestU t (j+1+1):Nat):Int):=rfl
    rw[oldestU,List.getElem?_eq_getElem hlt,List.getElem?_eq_getElem hol]at hs
    have hs2:Ags t (j+1+1)=if t[j+1].seen<t[oldestU t (j+1)].seen then ((j+1:Nat):Int) else ((oldestU t (j+1):Nat):Int):=by
     rw[hs]
     show ((if t[j+1].seen<t[oldestU t (j+1)].seen then j+1 else oldestU t (j+1):Nat):Int)=_
     split<;>rfl
    rw[show Ags t (j+1)=((oldestU t (j+1):Nat):Int) from rfl]
    obtain ⟨o,ho⟩:∃ o,oldestU t (j+1)=o:=⟨_,rfl⟩
    simp only[ho]at hs2 hol ⊢
    (refine rg ?_;(conv=>whnf);refine aT ?_;refine rg ?_;(conv=>whnf);refine aF ?_;refine oD ?_)
    refine⟨E,by omega,by omega,?_⟩
    rw[show t[((j+1:Nat):Int).toNat]'qn=t[j+1] from rfl]
    conv=>whnf
    refine⟨E,by omega,by omega,?_⟩
    rw[show t[((o:Nat):Int).toNat]'qn=t[o] from rfl]
    conv=>whnf
    refine kW ?_
    refine⟨fun h3=>?_,fun h3=>?_⟩
    ·rw[if_pos (of_decide_eq_true h3)]at hs2
     refine oO ?_
     refine iW ?_
     exact An [] hlt ⟨⟨E,E,E,E,E,E,E,E,E,E,congrArg Aa hs2,E,E,E,Y⟩,Y,E,E⟩
    ·rw[if_neg (of_decide_eq_false h3)]at hs2
     refine oO ?_
     refine iW ?_
     exact An [] hlt ⟨⟨E,E,E,E,E,E,E,E,E,E,congrArg Aa hs2,E,E,E,Y⟩,Y,E,E⟩
  ·have:j=t.length:=qB h
   subst this
   rw[hold]
   (refine oF ?_;refine bF ?_)
   refine Bm 13 1000 3 Al E E ?_
   refine At t.length (fun j=>[(0,.sl 3 Al t),(1,As m),(2,Aa wh),(3,Aa now),(10,Ab false),(11,Aa old),(13,.osl 1000),(14,Aa j)]) (fun j=>[(1000,.row 3 Al (Il t m ⟨m,wh,now⟩ old j))]) [] ⟨⟨E,E,E,E,E,E,E,E,E,E,E,E,E,E,E,E,Y⟩,⟨.inl E,E,Y⟩,E,E⟩ ?_
   intro j hj
   have hol:=Li t m ⟨m,wh,now⟩ old j
   have hsucc:=fun h:j<t.length=>Sb t m ⟨m,wh,now⟩ old h
   obtain ⟨u,hu⟩:∃ u,Il t m ⟨m,wh,now⟩ old j=u:=⟨_,rfl⟩
   rw[hu]at hol hsucc ⊢
   refine oO ?_
   refine⟨fun h=>?_,fun h=>?_⟩
   ·have hlt:j<t.length:=qA h
    have hs:=hsucc hlt
    have hej:t[((j:Nat):Int).toNat]'qn=t[j]:=rfl
    obtain ⟨x,hx⟩:∃ x,t[j]=x:=⟨_,rfl⟩
    rw[hx]at hs hej
    refine oO ?_
    refine⟨E,by omega,by omega,?_⟩
    rw[hej]
    conv=>whnf
    refine⟨fun h3=>?_,fun h3=>?_⟩
    ·rw[if_pos (show x.mac=m by simp at h3;omega)]at hs
     refine oO ?_
     refine Ad (Ac Γ.toTy 60 rfl rfl rfl rfl rfl (.row rfl) (.lit (e:=Al) (l:=[⟨m,wh,now⟩]) rfl rfl) (fun j hj=>by cases hj;decide) (by simp;omega) (by simp;omega)) rfl rfl ?_
     refine oO ?_
     refine iW ?_
     exact An [(1000,60)] hlt ⟨⟨E,E,E,E,E,E,E,E,E,E,E,E,E,E,E,E,Y⟩,⟨.inl (congrArg (Ob.row 3 Al) hs),E,Y⟩,E,E⟩
    ·rw[if_neg (show ¬ x.mac=m by simp at h3;omega)]at hs
     refine oO ?_
     refine⟨fun h4=>?_,fun h4=>?_⟩
     ·rw[if_pos (show (j:Int)≠old by simpa using h4)]at hs
      refine oO ?_
      refine⟨E,by omega,by omega,?_⟩
      rw[hej]
      conv=>whnf
      refine Ad (Ac Γ.toTy 60 rfl rfl rfl rfl rfl (.row rfl) (.lit (e:=Al) (l:=[x]) rfl rfl) (fun j hj=>by cases hj;decide) (by simp;omega) (by simp;omega)) rfl rfl ?_
      refine oO ?_
      refine iW ?_
      exact An [(1000,60)] hlt ⟨⟨E,E,E,E,E,E,E,E,E,E,E,E,E,E,E,E,Y⟩,⟨.inl (congrArg (Ob.row 3 Al) hs),E,Y⟩,E,E⟩
     ·rw[if_neg (show ¬ (j:Int)≠old by simpa using h4)]at hs
      refine oO ?_
      refine iW ?_
      exact An [] hlt ⟨⟨E,E,E,E,E,E,E,E,E,E,E,E,E,E,E,E,Y⟩,⟨.inl (congrArg (Ob.row 3 Al) hs),E,Y⟩,E,E⟩
   ·have:j=t.length:=qB h
    subst this
    rw[hu]at hout
    rw[if_neg qy]at hout
    refine oT ?_
    refine Ad (Ac Γ.toTy 61 rfl rfl rfl rfl rfl (.row rfl) (.lit (e:=Al) (l:=[⟨m,wh,now⟩]) rfl rfl) (fun j hj=>by cases hj;decide) (by simp;omega) (by simp;omega)) rfl rfl ?_
    refine Ao 61 E ?_
    refine oO ?_
    exact Aq E (.cons .tmp .nil) (congrArg (SV.sl 3 Al) hout) E
 ·have hout:res=if th=true then Il t m ⟨m,wh,now⟩ (-1) t.length else Il t m ⟨m,wh,now⟩ (-1) t.length++[⟨m,wh,now⟩]:=by
   cases th
   ·obtain ⟨hi1,hi2⟩:=hno rfl
    rw[if_neg qy,hres,hi1,if_neg qy,if_neg (fun h=>hcase ⟨h,rfl⟩),Ano hi2 _ (Nat.le_refl _),List.take_length]
   ·obtain ⟨i,hi,hi1,hi2⟩:=hso rfl
    rw[if_pos rfl,hres,hi1,if_pos qn,Ajg hi hi2 _ (Nat.le_refl _),Int.toNat_natCast,List.take_of_length_le qz]
  obtain ⟨old,hold⟩:∃ old:Int,-1=old:=⟨_,rfl⟩
  rw[hold]at hout
  refine oO ?_
  refine At 0 (fun j=>[(0,.sl 3 Al t),(1,As m),(2,Aa wh),(3,Aa now),(10,Ab th),(11,Aa old),(12,Aa j)]) (fun _=>[]) [] ⟨⟨E,E,E,E,E,E,E,E,E,E,congrArg Aa hold.symm,E,E,E,Y⟩,Y,E,E⟩ ?_
  intro j hj
  have hj0:j=0:=by omega
  subst hj0
  refine oO ?_
  refine⟨fun h=>?_,fun h=>?_⟩
  ·refine oO ?_
   refine⟨fun h8=>?_,fun h8=>?_⟩
   ·have hth:th=true:=by
     cases th with
     | true=>rfl
     | false=>exact absurd ⟨by simp at h8;omega,rfl⟩ hcase
    refine oO ?_
    refine⟨fun h=>absurd h (by simp[hth]),fun _=>?_⟩
    refine oO ?_
    refine Bm 13 1000 3 Al E E ?_
    refine At t.length (fun j=>[(0,.sl 3 Al t),(1,As m),(2,Aa wh),(3,Aa now),(10,Ab th),(11,Aa old),(13,.osl 1000),(14,Aa j)]) (fun j=>[(1000,.row 3 Al (Il t m ⟨m,wh,now⟩ old j))]) [] ⟨⟨E,E,E,E,E,E,E,E,E,E,E,E,E,E,E,E,Y⟩,⟨.inl E,E,Y⟩,E,E⟩ ?_
    intro j hj
    have hol:=Li t m ⟨m,wh,now⟩ old j
    have hsucc:=fun h:j<t.length=>Sb t m ⟨m,wh,now⟩ old h
    obtain ⟨u,hu⟩:∃ u,Il t m ⟨m,wh,now⟩ old j=u:=⟨_,rfl⟩
    rw[hu]at hol hsucc ⊢
    refine oO ?_
    refine⟨fun h=>?_,fun h=>?_⟩
    ·have hlt:j<t.length:=qA h
     have hs:=hsucc hlt
     have hej:t[((j:Nat):Int).toNat]'qn=t[j]:=rfl
     obtain ⟨x,hx⟩:∃ x,t[j]=x:=⟨_,rfl⟩
     rw[hx]at hs hej
     refine oO ?_
     refine⟨E,by omega,by omega,?_⟩
     rw[hej]
     conv=>whnf
     refine⟨fun h3=>?_,fun h3=>?_⟩
     ·rw[if_pos (show x.mac=m by simp at h3;omega)]at hs
      refine oO ?_
      refine Ad (Ac Γ.toTy 60 rfl rfl rfl rfl rfl (.row rfl) (.lit (e:=Al) (l:=[⟨m,wh,now⟩]) rfl rfl) (fun j hj=>by cases hj;decide) (by simp;omega) (by simp;omega)) rfl rfl ?_
      refine oO ?_
      refine iW ?_
      exact An [(1000,60)] hlt ⟨⟨E,E,E,E,E,E,E,E,E,E,E,E,E,E,E,E,Y⟩,⟨.inl (congrArg (Ob.row 3 Al) hs),E,Y⟩,E,E⟩
     ·rw[if_neg (show ¬ x.mac=m by simp at h3;omega)]at hs
      refine oO ?_
      refine⟨fun h4=>?_,fun h4=>?_⟩
      ·rw[if_pos (show (j:Int)≠old by simpa using h4)]at hs
       refine oO ?_
       refine⟨E,by omega,by omega,?_⟩
       rw[hej]
       conv=>whnf
       refine Ad (Ac Γ.toTy 60 rfl rfl rfl rfl rfl (.row rfl) (.lit (e:=Al) (l:=[x]) rfl rfl) (fun j hj=>by cases hj;decide) (by simp;omega) (by simp;omega)) rfl rfl ?_
       refine oO ?_
       refine iW ?_
       exact An [(1000,60)] hlt ⟨⟨E,E,E,E,E,E,E,E,E,E,E,E,E,E,E,E,Y⟩,⟨.inl (congrArg (Ob.row 3 Al) hs),E,Y⟩,E,E⟩
      ·rw[if_neg (show ¬ (j:Int)≠old by simpa using h4)]at hs
       refine oO ?_
       refine iW ?_
       exact An [] hlt ⟨⟨E,E,E,E,E,E,E,E,E,E,E,E,E,E,E,E,Y⟩,⟨.inl (congrArg (Ob.row 3 Al) hs),E,Y⟩,E,E⟩
    ·have:j=t.length:=qB h
     subst this
     rw[hu]at hout
     cases th
     ·rw[if_neg qy]at hout
      refine oT ?_
      refine Ad (Ac Γ.toTy 61 rfl rfl rfl rfl rfl (.row rfl) (.lit (e:=Al) (l:=[⟨m,wh,now⟩]) rfl rfl) (fun j hj=>by cases hj;decide) (by simp;omega) (by simp;omega)) rfl rfl ?_
      refine Ao 61 E ?_
      refine oO ?_
      exact Aq E (.cons .tmp .nil) (congrArg (SV.sl 3 Al) hout) E
     ·rw[if_pos rfl]at hout
      refine oF ?_
      refine Ao 1000 E ?_
      exact Aq E (.cons .tmp .nil) (congrArg (SV.sl 3 Al) hout) E
   ·refine oF ?_
    refine Bm 13 1000 3 Al E E ?_
    refine At t.length (fun j=>[(0,.sl 3 Al t),(1,As m),(2,Aa wh),(3,Aa now),(10,Ab th),(11,Aa old),(13,.osl 1000),(14,Aa j)]) (fun j=>[(1000,.row 3 Al (Il t m ⟨m,wh,now⟩ old j))]) [] ⟨⟨E,E,E,E,E,E,E,E,E,E,E,E,E,E,E,E,Y⟩,⟨.inl E,E,Y⟩,E,E⟩ ?_
    intro j hj
    have hol:=Li t m ⟨m,wh,now⟩ old j
    have hsucc:=fun h:j<t.length=>Sb t m ⟨m,wh,now⟩ old h
    obtain ⟨u,hu⟩:∃ u,Il t m ⟨m,wh,now⟩ old j=u:=⟨_,rfl⟩
    rw[hu]at hol hsucc ⊢
    refine oO ?_
    refine⟨fun h=>?_,fun h=>?_⟩
    ·have hlt:j<t.length:=qA h
     have hs:=hsucc hlt
     have hej:t[((j:Nat):Int).toNat]'qn=t[j]:=rfl
     obtain ⟨x,hx⟩:∃ x,t[j]=x:=⟨_,rfl⟩
     rw[hx]at hs hej
     refine oO ?_
     refine⟨E,by omega,by omega,?_⟩
     rw[hej]
     conv=>whnf
     refine⟨fun h3=>?_,fun h3=>?_⟩
     ·rw[if_pos (show x.mac=m by simp at h3;omega)]at hs
      refine oO ?_
      refine Ad (Ac Γ.toTy 60 rfl rfl rfl rfl rfl (.row rfl) (.lit (e:=Al) (l:=[⟨m,wh,now⟩]) rfl rfl) (fun j hj=>by cases hj;decide) (by simp;omega) (by simp;omega)) rfl rfl ?_
      refine oO ?_
      refine iW ?_
      exact An [(1000,60)] hlt ⟨⟨E,E,E,E,E,E,E,E,E,E,E,E,E,E,E,E,Y⟩,⟨.inl (congrArg (Ob.row 3 Al) hs),E,Y⟩,E,E⟩
     ·rw[if_neg (show ¬ x.mac=m by simp at h3;omega)]at hs
      refine oO ?_
      refine⟨fun h4=>?_,fun h4=>?_⟩
      ·rw[if_pos (show (j:Int)≠old by simpa using h4)]at hs
       refine oO ?_
       refine⟨E,by omega,by omega,?_⟩
       rw[hej]
       conv=>whnf
       refine Ad (Ac Γ.toTy 60 rfl rfl rfl rfl rfl (.row rfl) (.lit (e:=Al) (l:=[x]) rfl rfl) (fun j hj=>by cases hj;decide) (by simp;omega) (by simp;omega)) rfl rfl ?_
       refine oO ?_
       refine iW ?_
       exact An [(1000,60)] hlt ⟨⟨E,E,E,E,E,E,E,E,E,E,E,E,E,E,E,E,Y⟩,⟨.inl (congrArg (Ob.row 3 Al) hs),E,Y⟩,E,E⟩
      ·rw[if_neg (show ¬ (j:Int)≠old by simpa using h4)]at hs
       refine oO ?_
       refine iW ?_
       exact An [] hlt ⟨⟨E,E,E,E,E,E,E,E,E,E,E,E,E,E,E,E,Y⟩,⟨.inl (congrArg (Ob.row 3 Al) hs),E,Y⟩,E,E⟩
    ·have:j=t.length:=qB h
     subst this
     rw[hu]at hout
     cases th
     ·rw[if_neg qy]at hout
      refine oT ?_
      refine Ad (Ac Γ.toTy 61 rfl rfl rfl rfl rfl (.row rfl) (.lit (e:=Al) (l:=[⟨m,wh,now⟩]) rfl rfl) (fun j hj=>by cases hj;decide) (by simp;omega) (by simp;omega)) rfl rfl ?_
      refine Ao 61 E ?_
      refine oO ?_
      exact Aq E (.cons .tmp .nil) (congrArg (SV.sl 3 Al) hout) E
     ·rw[if_pos rfl]at hout
      refine oF ?_
      refine Ao 1000 E ?_
      exact Aq E (.cons .tmp .nil) (congrArg (SV.sl 3 Al) hout) E
  ·(refine oF ?_;refine bF ?_)
   refine Bm 13 1000 3 Al E E ?_
   refine At t.length (fun j=>[(0,.sl 3 Al t),(1,As m),(2,Aa wh),(3,Aa now),(10,Ab th),(11,Aa old),(13,.osl 1000),(14,Aa j)]) (fun j=>[(1000,.row 3 Al (Il t m ⟨m,wh,now⟩ old j))]) [] ⟨⟨E,E,E,E,E,E,E,E,E,E,E,E,E,E,E,E,Y⟩,⟨.inl E,E,Y⟩,E,E⟩ ?_
   intro j hj
   have hol:=Li t m ⟨m,wh,now⟩ old j
   have hsucc:=fun h:j<t.length=>Sb t m ⟨m,wh,now⟩ old h
   obtain ⟨u,hu⟩:∃ u,Il t m ⟨m,wh,now⟩ old j=u:=⟨_,rfl⟩
   rw[hu]at hol hsucc ⊢
   refine oO ?_
   refine⟨fun h=>?_,fun h=>?_⟩
   ·have hlt:j<t.length:=qA h
    have hs:=hsucc hlt
    have hej:t[((j:Nat):Int).toNat]'qn=t[j]:=rfl
    obtain ⟨x,hx⟩:∃ x,t[j]=x:=⟨_,rfl⟩
    rw[hx]at hs hej
    refine oO ?_
    refine⟨E,by omega,by omega,?_⟩
    rw[hej]
    conv=>whnf
    refine⟨fun h3=>?_,fun h3=>?_⟩
    ·rw[if_pos (show x.mac=m by simp at h3;omega)]at hs
     refine oO ?_
     refine Ad (Ac Γ.toTy 60 rfl rfl rfl rfl rfl (.row rfl) (.lit (e:=Al) (l:=[⟨m,wh,now⟩]) rfl rfl) (fun j hj=>by cases hj;decide) (by simp;omega) (by simp;omega)) rfl rfl ?_
     refine oO ?_
     refine iW ?_
     exact An [(1000,60)] hlt ⟨⟨E,E,E,E,E,E,E,E,E,E,E,E,E,E,E,E,Y⟩,⟨.inl (congrArg (Ob.row 3 Al) hs),E,Y⟩,E,E⟩
    ·rw[if_neg (show ¬ x.mac=m by simp at h3;omega)]at hs
     refine oO ?_
     refine⟨fun h4=>?_,fun h4=>?_⟩
     ·rw[if_pos (show (j:Int)≠old by simpa using h4)]at hs
      refine oO ?_
      refine⟨E,by omega,by omega,?_⟩
      rw[hej]
      conv=>whnf
      refine Ad (Ac Γ.toTy 60 rfl rfl rfl rfl rfl (.row rfl) (.lit (e:=Al) (l:=[x]) rfl rfl) (fun j hj=>by cases hj;decide) (by simp;omega) (by simp;omega)) rfl rfl ?_
      refine oO ?_
      refine iW ?_
      exact An [(1000,60)] hlt ⟨⟨E,E,E,E,E,E,E,E,E,E,E,E,E,E,E,E,Y⟩,⟨.inl (congrArg (Ob.row 3 Al) hs),E,Y⟩,E,E⟩
     ·rw[if_neg (show ¬ (j:Int)≠old by simpa using h4)]at hs
      refine oO ?_
      refine iW ?_
      exact An [] hlt ⟨⟨E,E,E,E,E,E,E,E,E,E,E,E,E,E,E,E,Y⟩,⟨.inl (congrArg (Ob.row 3 Al) hs),E,Y⟩,E,E⟩
   ·have:j=t.length:=qB h
    subst this
    rw[hu]at hout
    cases th
    ·rw[if_neg qy]at hout
     refine oT ?_
     refine Ad (Ac Γ.toTy 61 rfl rfl rfl rfl rfl (.row rfl) (.lit (e:=Al) (l:=[⟨m,wh,now⟩]) rfl rfl) (fun j hj=>by cases hj;decide) (by simp;omega) (by simp;omega)) rfl rfl ?_
     refine Ao 61 E ?_
     refine oO ?_
     exact Aq E (.cons .tmp .nil) (congrArg (SV.sl 3 Al) hout) E
    ·rw[if_pos rfl]at hout
     refine oF ?_
     refine Ao 1000 E ?_
     exact Aq E (.cons .tmp .nil) (congrArg (SV.sl 3 Al) hout) E
theorem Ad1 (n:Net) (hn:n.Fin) (fw:List Bool) (t:List EntryM) (dom from_:Int) (m:Nat) (hl:Ap t) (hw:I64 (findE t m).1) (hm64:m<18446744073709551616) :
  Sy.Spec Tryz.prog 256 [Aj n,.sl 1 Ab fw,.sl 3 Al t,Aa dom,Aa from_,As m] [] (.tup [.sl 1 Aa (decideT n fw t dom from_ m).1,.sl 1 Aa (decideT n fw t dom from_ m).2.1,Aa (decideT n fw t dom from_ m).2.2]) []:=cT F256 Tryz.ntmps256 fun F hF=>by
 have qf:=W2 n hn fw dom from_
 have qg:=Jo m hm64
 cases hroom:roomB n fw dom from_
 ·have hres:decideT n fw t dom from_ m=([],[],2):=by rw[decideT,if_pos hroom]
  have hfl:floodT n fw dom from_=([],[],2):=by rw[floodT,if_pos hroom]
  rw[hres]
  rw[hfl]at qf
  conv=>whnf
  refine c0 qf F252 ?_
  (refine oT ?_;refine bT ?_)
  exact dN
 have hb2:K6 n fw dom=true:=by rw[Jn,Bool.and_eq_true]at hroom;exact hroom.1
 simp only[K6,Bool.and_eq_true,decide_eq_true_eq]at hb2
 obtain ⟨⟨hd,hfw⟩,hbn⟩:=hb2
 have hfl:floodT n fw dom from_=(Ch n fw from_ (Ax n dom),peersOut n dom from_,0):=by rw[floodT,if_neg (by rw[hroom];decide)]
 rw[hfl]at qf
 have hres:=decideT.eq_1 n fw t dom from_ m
 rw[if_neg (by rw[hroom];decide)]at hres
 cases hg:Ed m
 rotate_left
 ·rw[if_pos hg]at hres
  rw[hres]
  rw[hg]at qg
  conv=>whnf
  refine c0 qf F252 ?_
  refine oF ?_
  refine c0 qg F186 ?_
  refine oT ?_
  exact dN
 rw[if_neg (by rw[hg];decide)]at hres
 rw[hg]at qg
 have hdi:=Ba hd
 have hd0:0≤dom:=hdi.1
 have hkd:dom.toNat<n.domains.length:=by omega
 have e2:nth n.domains dom=n.domains[dom.toNat]:=Ak hkd
 have hpe:=hn.peers _ (List.getElem_mem hkd)
 have qs:=Ad3 n hn dom m
 obtain ⟨hs1,hs2⟩:=Mu hbn dom m
 have hsp:=Oy hbn dom m
 have qfd:=Zi t m hl
 have q1:∀ p:Int,0≤p→p<n.ports.length→_:=fun p h0 h1=>Anf n fw p from_ hbn hfw h0 h1
 have hmem:∀ p,inB (Ax n dom) p=true→0≤p∧p<n.ports.length:=fun p hp=>B6 p (inB_mem.1 hp)
 have qm:=Lf n hn hbn dom
 have qi:=fun x=>E9 (Ci n dom) x (It n hn dom)
 have hmt:Ci n dom=Ax n dom:=by rw[Ci,if_pos ⟨⟨hdi.1,hdi.2⟩,hbn⟩]
 rw[hmt]at qm qi
 rw[e2]at hres
 obtain ⟨d,hdd⟩:∃ d,n.domains[dom.toNat]'hkd=d:=⟨_,rfl⟩
 rw[hdd]at hres hpe
 have qp:=fun x=>E9 d.peers x hpe
 generalize decideT n fw t dom from_ m=res at *
 generalize findE t m=fe at *
 obtain ⟨w,ok⟩:=fe
 dsimp only at hres hw qfd
 have hw2:I64 (-1-w)∨0≤w:=by unfold I64 at *;omega
 conv=>whnf
 refine c0 qf F252 ?_
 refine oF ?_
 refine c0 qg F186 ?_
 refine oF ?_
 refine c0 qs F319 ?_
 refine oO ?_
 refine⟨fun h1=>?_,fun h1=>?_⟩
 ·have h2:0≤staticP n dom m:=by simpa using h1
  rw[if_pos (hs1.1 h2),← hs2 (hs1.1 h2)]at hres
  subst hres
  refine oO ?_
  refine c0 (q1 _ h2 (hsp h2)) F320 ?_
  refine oO ?_
  refine Am 13 1 Aa E ?_
  exact dN
 have h2:¬ 0≤staticP n dom m:=by simp at h1;omega
 rw[if_neg (fun h=>h2 (hs1.2 h))]at hres
 refine oO ?_
 refine c0 qfd F316 ?_
 cases ok
 ·simp only[Bool.false_eq_true,false_and,if_false]at hres
  subst hres
  (refine oF ?_;refine bF ?_;refine bF ?_;refine bF ?_;refine bF ?_)
  exact dN
 simp only[true_and]at hres
 refine oT ?_
 refine c0 qm F37 ?_
 refine oO ?_
 refine c0 (qi w) F36 ?_
 cases hin:inB (Ax n dom) w
 rotate_left
 ·have hwp:=hmem w hin
  rw[if_pos ⟨hwp.1,hin⟩]at hres
  subst hres
  refine oT ?_
  refine c0 (q1 w hwp.1 hwp.2) F320 ?_
  refine oO ?_
  refine Am 13 1 Aa E ?_
  exact dN
 rw[if_neg (by rw[hin];simp)]at hres
 (refine oF ?_;refine bT ?_)
 refine⟨fun h3=>?_,fun h3=>?_⟩
 rotate_left
 ·have h4:¬ w<0:=by simpa using h3
  rw[if_neg (fun h=>h4 h.1)]at hres
  subst hres
  refine oF ?_
  exact dN
 have h4:w<0:=by simpa using h3
 have hneg:-(w+1)=-1-w:=by omega
 refine oO ?_
 refine⟨E,hd0,hkd,?_⟩
 rw[hdd]
 conv=>whnf
 refine⟨by unfold I64 at *;omega,?_⟩
 conv=>whnf
 have hwr:IntKind.i64.wrap (0-(w+1))=-1-w:=by rw[IntKind.wrap_i64];unfold I64 at *;omega
 rw[← hwr]at hres
 refine Vx (qp (IntKind.i64.wrap (0-(w+1)))) F36 E E E E E ?_
 cases hip:inB d.peers (IntKind.i64.wrap (0-(w+1)))
 ·rw[if_neg (by rw[hip];simp)]at hres
  subst hres
  refine oF ?_
  exact dN
 rw[if_pos ⟨h4,hip⟩]at hres
 refine oT ?_
 refine⟨fun h5=>?_,fun h5=>?_⟩
 ·rw[if_pos (by simpa using h5)]at hres
  subst hres
  refine oO ?_
  refine Am 12 1 Aa E ?_
  refine Am 13 1 Aa E ?_
  exact dN
 ·rw[if_neg (by simpa using h5)]at hres
  subst hres
  refine oO ?_
  refine⟨by unfold I64 at *;omega,?_⟩
  conv=>whnf
  refine Am 12 1 Aa E ?_
  refine Ic 91 Aa [IntKind.i64.wrap (0-(w+1))] E E ?_
  refine Ao 91 E ?_
  exact dN
theorem Ae8 (t:List EntryM) (q:QueuedM) (now:Int) (ht:TabOK t) (hq:QueuedOK q):Sy.Spec Tryz.prog 231 [.sl 3 Al t,A0 q,Aa now] [] (.sl 3 Al (learnQ t q now)) []:=cT F231 Tryz.ntmps231 fun F hF=>by
 have hres:=learnQ.eq_1 t q now
 generalize learnQ t q now=res at *
 have hl:=ht.short
 have hl2:=hl
 unfold Ap at hl2
 have hs:=hq.frame.src
 have h1:=hq.peer
 conv=>whnf
 refine⟨fun h=>?_,fun h=>?_⟩
 ·rw[if_pos (by simpa using h)]at hres
  subst hres
  refine oO ?_
  refine Ad (Af [(0,55)] E F243 (Qv res hl2) E Y E ⟨.inr E,Y⟩) E E ?_
  refine Ao 55 E ?_
  refine oO ?_
  exact dN
 rw[if_neg (by simpa using h)]at hres
 clear h
 refine oO ?_
 refine⟨fun h=>?_,fun h=>?_⟩
 ·rw[if_pos (by simpa using h)]at hres
  subst hres
  refine oO ?_
  refine iW ?_
  refine c0 (Ab7 t q.frame.src (-1-q.peer) now hl ht.mac qn) F296 ?_
  refine oO ?_
  exact dN
 rw[if_neg (by simpa using h)]at hres
 subst hres
 refine oO ?_
 refine c0 (Ab7 t q.frame.src q.from_ now hl ht.mac qn) F296 ?_
 refine oO ?_
 exact dN
def Ke (k p d:Int):OutM:=⟨k,p,d,[],noF,0⟩
theorem Alu (k p d:Int) (b:List UInt8) (e:Int):D5 (Ke k p d) (b,e)=if e≠0 then ⟨5,p,d,[],noF,e⟩ else ⟨k,p,d,b,noF,0⟩:=rfl
theorem Uc (l:List OutM) (k p d:Int) (b:List UInt8) (e:Int) (hl:l.length<100000000000) :
  Sy.Spec Tryz.prog 234 [Bl (Ke k p d),.sl 1 Ag b,Aa e,.ptr 0 0] [(0,.box [.osl 1]),(1,.row 9 Bl l)] (.tup []) [(0,.box [.osl 2]),(1,.non),(2,.row 9 Bl (l++[D5 (Ke k p d) (b,e)]))]:=cT F234 Tryz.ntmps234 fun F hF=>by
 have hres:=Alu k p d b e
 generalize D5 (Ke k p d) (b,e)=res at *
 conv=>whnf
 refine⟨fun h=>?_,fun h=>?_⟩
 ·rw[if_pos (by simpa using h)]at hres
  refine oO ?_
  refine Aba 17 [Bl ⟨5,p,d,[],noF,e⟩] E (.cons (.agg (.cons (.refl _) (.cons (.refl _) (.cons (.refl _) (.cons .nil (.cons (.refl _) (.cons (.refl _) (.cons (.refl _) (.cons (.refl _) (.cons (.refl _) .nil)))))))))) .nil) E ?_
  refine Ad (Ac Γ.toTy 18 E E E E E (.row E) (.lit (e:=Bl) (l:=[res]) E (by rw[hres];rfl)) qy (by simp;omega) (by simp;omega)) E E ?_
  refine oO ?_
  exact B3 E .nil [(2,18)] [(0,.box [.osl 2]),(1,.non),(2,.row 9 Bl (l++[res]))] (fun _ h=>h) E E ⟨Y,⟨.inl E,E,.inl E,E,.inl E,E,Y⟩,E,E⟩
 ·rw[if_neg (by simpa using h)]at hres
  refine oO ?_
  refine Ad (Ac Γ.toTy 18 E E E E E (.row E) (.lit (e:=Bl) (l:=[res]) E (by rw[hres];rfl)) qy (by simp;omega) (by simp;omega)) E E ?_
  refine oO ?_
  exact B3 E .nil [(2,18)] [(0,.box [.osl 2]),(1,.non),(2,.row 9 Bl (l++[res]))] (fun _ h=>h) E E ⟨Y,⟨.inl E,E,.inl E,E,.inl E,E,Y⟩,E,E⟩
theorem Em (k p d:Int) (b:List UInt8) (e:Int):Sy.Spec Tryz.prog 258 [Bl (Ke k p d),.sl 1 Ag b,Aa e] [] (Bl (D5 (Ke k p d) (b,e))) []:=cT F258 Tryz.ntmps258 fun F hF=>by
 have hres:=Alu k p d b e
 generalize D5 (Ke k p d) (b,e)=res at *
 conv=>whnf
 refine⟨fun h=>?_,fun h=>?_⟩
 ·rw[if_pos (by simpa using h)]at hres
  subst hres
  refine oO ?_
  refine Ar 6 [Aa 5,Aa p,Aa d,.sl 1 Ag [],As 0,As 0,Aa 0,.sl 1 Ag [],Aa e] E (.cons (.refl _) (.cons (.refl _) (.cons (.refl _) (.cons .nil (.cons (.refl _) (.cons (.refl _) (.cons (.refl _) (.cons .nil (.cons (.refl _) .nil))))))))) ?_
  exact dN
 ·rw[if_neg (by simpa using h)]at hres
  subst hres
  refine oO ?_
  exact dN
theorem Al7 {t:List EntryM} (ht:TabOK t) (m:Nat):I64 (findE t m).1:=by
 unfold findE
 split
 ·unfold I64;dsimp only;omega
 ·rename_i h
  have hlt:Cz t m<t.length:=Ji _ _
  have hk:(Cz t m).toNat<t.length:=by omega
  dsimp only
  rw[List.getElem?_eq_getElem hk]
  exact ht.wh _ (List.getElem_mem hk)
theorem Kc {n:Net} {fw:List Bool} {fr:Int} {l:List Int} {p:Int} (h:p∈Ch n fw fr l):p∈l:=(List.mem_filter.1 h).1
theorem Vr {n:Net} (hb:Ae n=true) (fw:List Bool) (t:List EntryM) (dom fr:Int) (m:Nat):∀ p∈(decideT n fw t dom fr m).1,0≤p∧p<n.ports.length:=by
 intro p hp
 unfold decideT at hp
 split at hp
 ·cases hp
 split at hp
 ·exact B6 p (Kc hp)
 split at hp
 ·rename_i h1
  obtain ⟨hs1,hs2⟩:=Mu hb dom m
  have h2:=hs1.2 h1
  have h3:=Oy hb dom m h2
  have h4:=List.mem_singleton.1 (Kc hp)
  rw[h4,← hs2 h1]
  exact⟨h2,h3⟩
 split at hp
 ·rename_i h1
  rw[List.mem_singleton.1 (Kc hp)]
  exact B6 _ (inB_mem.1 h1.2.2)
 split at hp
 ·cases hp
 ·exact B6 p (Kc hp)
theorem Aeb (n:Net) (fw:List Bool) (fr:Int) (l:List Int):(Ch n fw fr l).length≤l.length:=List.length_filter_le _ _
theorem Aec {n:Net} (hn:n.Fin) (dom fr:Int) (hd:Ai dom n.domains.length=true):(peersOut n dom fr).length<2147483648:=by
 unfold peersOut
 split
 ·decide
 ·have h:=Ha hd
  rw[Ak h.2]
  exact hn.peers _ (List.getElem_mem h.2)
theorem T8 {n:Net} (hn:n.Fin) (fw:List Bool) (t:List EntryM) (dom fr:Int) (m:Nat):(decideT n fw t dom fr m).1.length<2147483648∧(decideT n fw t dom fr m).2.1.length<2147483648:=by
 have h1:=Agu n dom
 have h2:=hn.ports
 unfold Ap at h2
 have h3:=fun l=>Aeb n fw fr l
 unfold decideT
 split
 ·decide
 rename_i h
 have hd:Ai dom n.domains.length=true:=by
  cases hx:Ai dom n.domains.length
  ·exact absurd (by rw[roomB,hx];rfl) h
  ·rfl
 have h4:=Aec hn dom fr hd
 split
 ·have:=h3 (Ax n dom);exact⟨by dsimp only;omega,h4⟩
 split
 ·have:=h3 [(nth n.statics (Ds n dom m)).port];simp only[List.length_cons,List.length_nil]at this;exact⟨by dsimp only;omega,by show (0:Nat)<2147483648;decide⟩
 split
 ·have:=h3 [(findE t m).1];simp only[List.length_cons,List.length_nil]at this;exact⟨by dsimp only;omega,by show (0:Nat)<2147483648;decide⟩
 split
 ·refine⟨by show (0:Nat)<2147483648;decide,?_⟩
  dsimp only
  split<;>simp
 ·have:=h3 (Ax n dom);exact⟨by dsimp only;omega,h4⟩
theorem Ah2 (n:Net) (hn:n.Fin) (hm0:n.Num) (fw:List Bool) (t:List EntryM) (dom:Int) (q:QueuedM) (now:Int) (ht:TabOK t) (hq:QueuedOK q) :
  Sy.Spec Tryz.prog 174 [Aj n,.sl 1 Ab fw,.sl 3 Al t,Aa dom,A0 q,Aa now] [] (.tup [.sl 3 Al (bridgeT n fw t dom q now).1,.sl 9 Bl (bridgeT n fw t dom q now).2.1,Aa (bridgeT n fw t dom q now).2.2]) []:=cT F174 Tryz.ntmps174 fun F hF=>by
 have hres:=bridgeT.eq_1 n fw t dom q now
 generalize bridgeT n fw t dom q now=res at *
 have qf:=floodS n hn fw dom q.from_
 have qr:=Q5 t ht.short ht.mac
 conv=>whnf
 refine A3 6 8 (Aj n) E E E ?_
 refine A3 10 7 (A0 q) E E E ?_
 refine oO ?_
 cases hroom:roomB n fw dom q.from_
 ·rw[if_pos (.inl hroom)]at hres
  subst hres
  rw[floodT,if_pos hroom]at qf
  refine c0 qf F229 ?_
  (refine oT ?_;refine bT ?_)
  refine Ar 13 [.sl 9 Bl []] E (.cons .nil .nil) ?_
  refine Am 12 3 Al E ?_
  exact dN
 rw[floodT,if_neg (by rw[hroom];decide)]at qf
 refine c0 qf F229 ?_
 refine oF ?_
 refine c0 qr F230 ?_
 cases htb:tableB t
 ·rw[if_pos (.inr htb)]at hres
  subst hres
  refine oT ?_
  refine Ar 13 [.sl 9 Bl []] E (.cons .nil .nil) ?_
  refine Am 12 3 Al E ?_
  exact dN
 rw[if_neg (by simp[hroom,htb])]at hres
 have ql:=Ae8 t q now ht hq
 have hu:=Mf ht hq now
 generalize learnQ t q now=u at *
 have qro:=Afd n hn hm0 dom q.frame.dst
 generalize routerT n dom q.frame.dst=ro at *
 obtain ⟨irb,ok⟩:=ro
 dsimp only at hres qro
 have hbn:Ae n=true:=by
  simp only[roomB,Bool.and_eq_true]at hroom
  exact hroom.1.2
 refine oF ?_
 refine c0 ql F231 ?_
 refine oO ?_
 refine c0 qro F232 ?_
 cases ok
 rotate_left
 ·rw[if_pos rfl]at hres
  have qh:=Am0 n hn hm0 irb q.frame hq.frame
  generalize hopT n irb q.frame=hp at *
  obtain ⟨to,g,e⟩:=hp
  dsimp only at hres qh
  refine oT ?_
  refine c0 qh F233 ?_
  refine oO ?_
  refine⟨fun h=>?_,fun h=>?_⟩
  ·rw[if_pos (by simpa using h)]at hres
   subst hres
   refine oO ?_
   refine Ar 13 [.sl 9 Bl []] E (.cons .nil .nil) ?_
   exact dN
  ·rw[if_neg (by simpa using h)]at hres
   subst hres
   refine oO ?_
   refine kW ?_
   refine Aba 84 [Bl ⟨4,0,to,[],g,0⟩] E (.cons (.agg (.cons (.refl _) (.cons (.refl _) (.cons (.refl _) (.cons .nil (.cons (.refl _) (.cons (.refl _) (.cons (.refl _) (.cons (.refl _) (.cons (.refl _) .nil)))))))))) .nil) E ?_
   refine Ic 84 Bl [⟨4,0,to,[],g,0⟩] E E ?_
   refine Ao 84 E ?_
   exact dN
 rw[if_neg qy]at hres
 have hs:=hq.frame.src
 have hd2:=hq.frame.dst
 have hfw:=Al7 hu q.frame.dst
 have qd:=Atn n hn fw u dom q.from_ q.frame.dst hu.short (by unfold I64 at *;omega) qn
 have hports:=Vr hbn fw u dom q.from_ q.frame.dst
 have hfew:=T8 hn fw u dom q.from_ q.frame.dst
 generalize decideT n fw u dom q.from_ q.frame.dst=dc at *
 obtain ⟨ports,peers,e0⟩:=dc
 dsimp only at hres qd hports hfew
 obtain ⟨hf1,hf2⟩:=hfew
 refine oF ?_
 refine c0 qd F235 ?_
 refine oO ?_
 refine K9 13 0 1000 9 Bl E E E E ?_
 refine At ports.length (fun j=>[(3,Aa dom),(6,.ref 8 (Aj n) 0),(10,.ref 7 (A0 q) 0),(12,.sl 3 Al u),(13,.ptr 13 0),(23,.clo (.func 234) [] [.ptr 13 0]),(25,.sl 1 Aa peers),(100,.sl 1 Aa ports),(101,Aa ports.length),(102,Aa j)])
  (fun j=>[(13,.box [.osl 1000]),(1000,.row 9 Bl ((ports.take j).map (E8 n dom q.frame)))]) [(13,13),(1000,1000)] ⟨⟨rfl,rfl,rfl,rfl,rfl,rfl,rfl,rfl,rfl,rfl,rfl,rfl,rfl,rfl,rfl,rfl,rfl,rfl,rfl,rfl,trivial⟩,⟨.inl rfl,rfl,.inl rfl,rfl,trivial⟩,rfl,rfl⟩ ?_
 intro j hj
 refine oO ?_
 refine⟨fun h=>?_,fun h=>?_⟩
 ·have hlt:j<ports.length:=qA h
  have hj0:((j:Nat):Int).toNat<ports.length:=by simpa using hlt
  obtain ⟨p,hp⟩:∃ p,ports[j]=p:=⟨_,rfl⟩
  have e1:ports[((j:Nat):Int).toNat]'hj0=p:=hp
  have hs:(ports.take (j+1)).map (E8 n dom q.frame)=(ports.take j).map (E8 n dom q.frame)++[E8 n dom q.frame p]:=by
   rw[List.take_succ_eq_append_getElem hlt,List.map_append,hp];rfl
  have hal:((ports.take j).map (E8 n dom q.frame)).length=j:=by rw[List.length_map,List.length_take];omega
  have hpi:=hports p (by rw[← hp];exact List.getElem_mem hlt)
  have hpk:p.toNat<n.ports.length:=by omega
  have ql:=Aqs n hn p dom q.frame hq.frame
  have hop:E8 n dom q.frame p=D5 (Ke (if (nth n.ports p).link<0 then 1 else 2) p 0) ((leaveT n p dom q.frame).1,(leaveT n p dom q.frame).2):=rfl
  rw[hop,Ak hpk]at hs
  clear hop
  obtain ⟨acc,hacc⟩:∃ acc,(ports.take j).map (E8 n dom q.frame)=acc:=⟨_,rfl⟩
  rw[hacc]at hs hal ⊢
  obtain ⟨x,hx⟩:∃ x,n.ports[p.toNat]'hpk=x:=⟨_,rfl⟩
  rw[hx]at hs
  clear h
  refine oO ?_
  refine⟨E,by omega,hj0,?_⟩
  rw[e1]
  conv=>whnf
  refine⟨E,hpi.1,hpk,?_⟩
  rw[hx]
  conv=>whnf
  refine⟨fun h=>?_,fun h=>?_⟩
  ·rw[if_neg (qA h)]at hs
   refine oO ?_
   refine c0 ql F236 ?_
   refine oO ?_
   refine Ad (Lm [(0,13),(1,1000),(2,1001)] [] (Bi E E F234) (Uc acc 2 p 0 (leaveT n p dom q.frame).1 (leaveT n p dom q.frame).2 qn) (.cons (.agg (.cons (.refl _) (.cons (.refl _) (.cons (.refl _) (.cons .nil (.cons (.refl _) (.cons (.refl _) (.cons (.refl _) (.cons .nil (.cons (.refl _) .nil)))))))))) (.cons (.refl _) (.cons (.refl _) (.cons (.refl _) .nil)))) ⟨E,E,Y⟩ E ⟨.inl E,.inl E,.inr E,Y⟩ E) E E ?_
   refine oO ?_
   refine iW ?_
   exact An [(13,13),(1000,1001)] hlt ⟨⟨E,E,E,E,E,E,E,E,E,E,E,E,E,E,E,E,E,E,E,E,Y⟩,⟨.inl E,E,.inl (congrArg (Ob.row 9 Bl) hs),E,Y⟩,E,E⟩
  ·rw[if_pos (qB h)]at hs
   refine oO ?_
   refine c0 ql F236 ?_
   refine oO ?_
   refine Ad (Lm [(0,13),(1,1000),(2,1001)] [] (Bi E E F234) (Uc acc 1 p 0 (leaveT n p dom q.frame).1 (leaveT n p dom q.frame).2 qn) (.cons (.agg (.cons (.refl _) (.cons (.refl _) (.cons (.refl _) (.cons .nil (.cons (.refl _) (.cons (.refl _) (.cons (.refl _) (.cons .nil (.cons (.refl _) .nil)))))))))) (.cons (.refl _) (.cons (.refl _) (.cons (.refl _) .nil)))) ⟨E,E,Y⟩ E ⟨.inl E,.inl E,.inr E,Y⟩ E) E E ?_
   refine oO ?_
   refine iW ?_
   exact An [(13,13),(1000,1001)] hlt ⟨⟨E,E,E,E,E,E,E,E,E,E,E,E,E,E,E,E,E,E,E,E,Y⟩,⟨.inl E,E,.inl (congrArg (Ob.row 9 Bl) hs),E,Y⟩,E,E⟩
 have hjj:j=ports.length:=qB h
 subst hjj
 clear h
 rw[List.take_length]
 obtain ⟨acc0,hacc0⟩:∃ acc0,ports.map (E8 n dom q.frame)=acc0:=⟨_,rfl⟩
 have hal0:acc0.length=ports.length:=by rw[← hacc0,List.length_map]
 rw[hacc0]at hres ⊢
 refine oO ?_
 refine At peers.length (fun j=>[(3,Aa dom),(6,.ref 8 (Aj n) 0),(10,.ref 7 (A0 q) 0),(12,.sl 3 Al u),(13,.ptr 13 0),(23,.clo (.func 234) [] [.ptr 13 0]),(130,.sl 1 Aa peers),(131,Aa peers.length),(132,Aa j)])
  (fun j=>[(13,.box [.osl 1000]),(1000,.row 9 Bl (acc0++(peers.take j).map (H7 n dom q.frame)))]) [(13,13),(1000,1000)] ⟨⟨rfl,rfl,rfl,rfl,rfl,rfl,rfl,rfl,rfl,rfl,rfl,rfl,rfl,rfl,rfl,rfl,rfl,rfl,trivial⟩,⟨.inl rfl,rfl,.inl (congrArg (Ob.row 9 Bl) qz),rfl,trivial⟩,rfl,rfl⟩ ?_
 intro j hj
 refine oO ?_
 refine⟨fun h=>?_,fun h=>?_⟩
 ·have hlt:j<peers.length:=qA h
  have hj0:((j:Nat):Int).toNat<peers.length:=by simpa using hlt
  obtain ⟨p,hp⟩:∃ p,peers[j]=p:=⟨_,rfl⟩
  have e1:peers[((j:Nat):Int).toNat]'hj0=p:=hp
  have hs:acc0++(peers.take (j+1)).map (H7 n dom q.frame)=(acc0++(peers.take j).map (H7 n dom q.frame))++[H7 n dom q.frame p]:=by
   rw[List.take_succ_eq_append_getElem hlt,List.map_append,hp,List.append_assoc];rfl
  have hal:(acc0++(peers.take j).map (H7 n dom q.frame)).length≤ports.length+j:=by rw[List.length_append,List.length_map,List.length_take];omega
  have ql:=Ajy n hn hm0 dom p q.frame hq.frame
  have hop:H7 n dom q.frame p=D5 (Ke 3 0 p) ((meshT n dom p q.frame).1,(meshT n dom p q.frame).2):=rfl
  rw[hop]at hs
  clear hop
  obtain ⟨acc,hacc⟩:∃ acc,acc0++(peers.take j).map (H7 n dom q.frame)=acc:=⟨_,rfl⟩
  rw[hacc]at hs hal ⊢
  clear h
  refine oO ?_
  refine⟨E,by omega,hj0,?_⟩
  rw[e1]
  conv=>whnf
  refine c0 ql F237 ?_
  refine oO ?_
  refine Ad (Lm [(0,13),(1,1000),(2,1001)] [] (Bi E E F234) (Uc acc 3 0 p (meshT n dom p q.frame).1 (meshT n dom p q.frame).2 qn) (.cons (.agg (.cons (.refl _) (.cons (.refl _) (.cons (.refl _) (.cons .nil (.cons (.refl _) (.cons (.refl _) (.cons (.refl _) (.cons .nil (.cons (.refl _) .nil)))))))))) (.cons (.refl _) (.cons (.refl _) (.cons (.refl _) .nil)))) ⟨E,E,Y⟩ E ⟨.inl E,.inl E,.inr E,Y⟩ E) E E ?_
  refine oO ?_
  refine iW ?_
  exact An [(13,13),(1000,1001)] hlt ⟨⟨E,E,E,E,E,E,E,E,E,E,E,E,E,E,E,E,E,E,Y⟩,⟨.inl E,E,.inl (congrArg (Ob.row 9 Bl) hs),E,Y⟩,E,E⟩
 have hjj:j=peers.length:=qB h
 subst hjj
 clear h
 rw[List.take_length]
 subst hres
 refine oO ?_
 refine kW ?_
 refine Ao 1000 E ?_
 exact dN
theorem J9 {l:List QueuedM} (h:Hi l):l.length<1000000∧Q3 l:=⟨by have:=h.1;omega,fun q hq=>by have:=(h.2 q hq).frame.body;omega⟩
theorem Oc {α:Type} {l:List α} {i:Nat} (h:i<l.length) (d:α):(l[i]?).getD d=l[i]:=by
 rw[List.getElem?_eq_getElem h];rfl
theorem placeB_iff {d:Int} {k:Nat}:Ai d k=true↔0≤d∧d.toNat<k:=by
 simp only[Ai,Bool.and_eq_true,decide_eq_true_eq];omega
theorem Ae4 (l:List EntryM) (hl:l.length<2147483648):Sy.Spec Tryz.prog 243 [.sl 3 Al l] [] (.sl 3 Al l) []:=cT F243 Tryz.ntmps243 fun F hF=>by
 conv=>whnf
 refine Ej E (.inl E) E E E .sl E E ?_
 intro b hb
 cases b
 ·refine oF ?_
  refine Ad (Ac Γ.toTy 7 E E E E E (.lit (e:=Al) (l:=[]) E E) .sl qz (by simp;omega) (by simp;omega)) E E ?_
  refine Ao 7 E ?_
  refine oO ?_
  exact dN
 ·have h0:l=[]:=List.eq_nil_of_length_eq_zero (hb rfl)
  subst h0
  refine oT ?_
  refine Am 2 3 Al E ?_
  exact dN
def loadT (m:MacM) (dom:Int) (t:List EntryM):MacM × Int:=if Ai dom m.queues.length=true∧tableB t=true then (Bz m dom t,0) else (m,2)
theorem Apl (n:Net) (m:MacM) (d:Bool) (dom:Int) (t:List EntryM) (hq:m.tables.length=m.queues.length) (hl:Ap t) (hmac:∀ e∈t,e.mac<18446744073709551616) :
  Sy.Spec Tryz.prog 325 [.ptr 0 0,Aa dom,.sl 3 Al t] (De n m d) (Aa (loadT m dom t).2) (De n (loadT m dom t).1 d):=cT F325 Tryz.ntmps325 fun F hF=>by
 have hl2:=hl
 unfold Ap at hl2
 have hres:=loadT.eq_1 m dom t
 generalize loadT m dom t=res at *
 have h1:=Alg n m d dom
 have hpl:=placeB_iff (d:=dom) (k:=m.queues.length)
 generalize Ai dom m.queues.length=b at *
 ((conv=>whnf);refine aF ?_;refine rg ?_;conv=>whnf)
 refine Ad (Af [] E F119 h1 E ⟨E,E,E,E,Y⟩ E ⟨.inl E,.inl E,.inl E,.inl E,Y⟩) E E ?_
 refine oO ?_
 cases b
 ·rw[if_neg qz]at hres
  subst hres
  (refine⟨fun _=>?_,fun h=>False.elim (absurd h qy)⟩;refine rg ?_;(conv=>whnf);refine aT ?_;refine rg ?_;conv=>whnf)
  exact done E (.cons .tmp .nil) [] (De n m d) (fun _ h=>h) E E ⟨Y,⟨.inl E,E,.inl E,E,.inl E,E,.inl E,E,Y⟩,E,E⟩
 have hd:=hpl.1 rfl
 (refine⟨fun h=>False.elim (absurd h qy),fun _=>?_⟩;refine rg ?_;conv=>whnf)
 refine c0 (Q5 t hl hmac) F230 ?_
 generalize tableB t=c at *
 refine oO ?_
 cases c
 ·rw[if_neg qz]at hres
  subst hres
  (refine⟨fun _=>?_,fun h=>False.elim (absurd h qy)⟩;refine rg ?_;conv=>whnf)
  exact done E (.cons .tmp .nil) [] (De n m d) (fun _ h=>h) E E ⟨Y,⟨.inl E,E,.inl E,E,.inl E,E,.inl E,E,Y⟩,E,E⟩
 rw[if_pos ⟨rfl,rfl⟩]at hres
 subst hres
 (refine⟨fun h=>False.elim (absurd h qy),fun _=>?_⟩;refine rg ?_;conv=>whnf)
 refine cD (Ae4 t hl2) F243 ?_
 refine oD ?_
 refine⟨hd.1,by omega,?_⟩
 conv=>whnf
 refine⟨E,by omega,t,E,E,?_⟩
 conv=>whnf
 refine kW ?_
 exact done E (.cons .tmp .nil) [] (De n (Bz m dom t) d) (fun _ h=>h) E E ⟨Y,⟨.inl E,E,.inl E,E,.inl E,E,.inl E,E,Y⟩,E,E⟩
def H2 (m:MacM):Prop:=∀ i,0≤m.drops i∧m.drops i≤1000000000000
theorem Ui (n:Net) (m:MacM) (d:Bool) (dom:Int) (q:QueuedM) (e:Int) (he:0≤e∧e<64) (hd:e=0→0≤dom∧dom.toNat<m.queues.length) (hb:H2 m) (hl:Hi (queueL m dom)) (hq:QueuedOK q) :
  Sy.Spec Tryz.prog 173 [.ptr 0 0,Aa dom,A0 q,Aa e] (De n m d) (.tup []) (De n (comeM m dom q e) d):=cT F173 Tryz.ntmps173 fun F hF=>by
 have hqb:=J9 hl
 have hp:=Agj _ q hqb.1 hqb.2 (by have:=hq.frame.body;omega)
 have h1:=Ahu n m d e he.1 he.2 (hb _)
 have h3:=Ahu n m d 3 qy qy (hb _)
 have hres:=comeM.eq_1 m dom q e
 generalize comeM m dom q e=res at *
 conv=>whnf
 refine⟨fun h=>?_,fun h=>?_⟩
 ·rw[if_pos (by simpa using h)]at hres
  subst hres
  refine oO ?_
  refine Ad (Af [] E F176 h1 E ⟨E,E,E,E,Y⟩ E ⟨.inl E,.inl E,.inl E,.inl E,Y⟩) E E ?_
  refine oO ?_
  exact done E .nil [] (De n (Bg m e) d) (fun _ h=>h) E E ⟨Y,⟨.inl E,E,.inl E,E,.inl E,E,.inl E,E,Y⟩,E,E⟩
 have h0:e=0:=by simpa using h
 have hd:=hd h0
 rw[if_neg (by rw[h0];decide)]at hres
 clear h hqb h1 hl he
 have hq0:=queueL.eq_1 m dom
 rw[Oc hd.2]at hq0
 generalize queueL m dom=l at *
 generalize pushT l q=r at *
 obtain ⟨l2,ok⟩:=r
 subst hq0
 refine oO ?_
 refine⟨hd.1,hd.2,?_⟩
 conv=>whnf
 refine⟨E,hd.2,?_⟩
 conv=>whnf
 refine cD hp F228 ?_
 refine oD ?_
 refine kW ?_
 cases ok
 ·rw[if_neg qz]at hres
  subst hres
  (refine⟨fun _=>?_,fun h=>False.elim (by simp at h)⟩;refine rg ?_;conv=>whnf)
  refine Ad (Af [] E F176 h3 E ⟨E,E,E,E,Y⟩ E ⟨.inl E,.inl E,.inl E,.inl E,Y⟩) E E ?_
  refine oO ?_
  exact done E .nil [] (De n (Bg m 3) d) (fun _ h=>h) E E ⟨Y,⟨.inl E,E,.inl E,E,.inl E,E,.inl E,E,Y⟩,E,E⟩
 ·rw[if_pos rfl]at hres
  subst hres
  (refine⟨fun h=>False.elim (by simp at h),fun _=>?_⟩;refine rg ?_;conv=>whnf)
  refine⟨hd.1,hd.2,?_⟩
  conv=>whnf
  refine⟨E,hd.2,l2,E,E,?_⟩
  conv=>whnf
  exact B3 E .nil [] (De n (Adx m dom l2) d) (fun _ h=>h) E E ⟨Y,⟨.inl E,E,.inl E,E,.inl E,E,.inl E,E,Y⟩,E,E⟩
theorem Afu (n:Net) (m:MacM) (d:Bool) (dom at_:Int) (hl:Hi (queueL m dom)) :
  Sy.Spec Tryz.prog 116 [.ptr 0 0,Aa dom,Aa at_] (De n m d) (.tup [A0 (takeM m dom at_).2.1,Ab (takeM m dom at_).2.2]) (De n (takeM m dom at_).1 d):=cT F116 Tryz.ntmps116 fun F hF=>by
 have hqb:=J9 hl
 have hp:=Aja _ at_ hqb.1 hqb.2
 have h1:=Alg n m d dom
 have hpl:=placeB_iff (d:=dom) (k:=m.queues.length)
 have hres:=takeM.eq_1 m dom at_
 generalize takeM m dom at_=res at *
 generalize Ai dom m.queues.length=b at *
 have hq0:=queueL.eq_1 m dom
 clear hl hqb
 generalize queueL m dom=l at *
 generalize takeT l at_=r at *
 obtain ⟨q,l2,ok⟩:=r
 conv=>whnf
 refine Ad (Af [] E F119 h1 E ⟨E,E,E,E,Y⟩ E ⟨.inl E,.inl E,.inl E,.inl E,Y⟩) E E ?_
 refine oO ?_
 cases b
 ·rw[if_pos rfl]at hres
  subst hres
  (refine⟨fun _=>?_,fun h=>False.elim (absurd h qy)⟩;refine rg ?_;conv=>whnf)
  refine Ar 6 [Aa 0,Aa 0,Aa 0,As 0,As 0,Aa 0,.sl 1 Ag []] E (.cons (.refl _) (.cons (.refl _) (.cons (.refl _) (.cons (.refl _) (.cons (.refl _) (.cons (.refl _) (.cons .nil .nil))))))) ?_
  exact done E (.cons (.cell E E E E) (.cons .tmp .nil)) [] (De n m d) (fun _ h=>h) E E ⟨Y,⟨.inl E,E,.inl E,E,.inl E,E,.inl E,E,Y⟩,E,E⟩
 have hd:=hpl.1 rfl
 rw[Oc hd.2]at hq0
 subst hq0
 rw[if_neg qz]at hres
 subst hres
 (refine⟨fun h=>False.elim (absurd h qy),fun _=>?_⟩;refine rg ?_;conv=>whnf)
 refine⟨hd.1,hd.2,?_⟩
 conv=>whnf
 refine⟨E,hd.2,?_⟩
 conv=>whnf
 refine c0 hp F120 ?_
 refine oO ?_
 refine⟨hd.1,hd.2,?_⟩
 conv=>whnf
 refine⟨E,hd.2,l2,E,E,?_⟩
 conv=>whnf
 exact done E (.cons (.cell E E E E) (.cons .tmp .nil)) [] (De n (Adx m dom l2) d) (fun _ h=>h) E E ⟨Y,⟨.inl E,E,.inl E,E,.inl E,E,.inl E,E,Y⟩,E,E⟩
theorem Aig (n:Net) (hn:n.Fin) (m:MacM) (d:Bool) (J D:Int) (hm0:MacOK n m J D) (hJ:J<1000000000000) (hD:D≤1000000000000) (port:Int) (b:List UInt8) (hb:b.length<100000) :
  Sy.Spec Tryz.prog 114 [.ptr 0 0,Aa port,.sl 1 Ag b] (De n m d) (.tup []) (De n (injectT n m port b) d):=cT F114 Tryz.ntmps114 fun F hF=>by
 have hres:=injectT.eq_1 n m port b
 generalize injectT n m port b=res at *
 have hpl:=placeB_iff (d:=port) (k:=n.ports.length)
 have hinj:=hm0.inj
 have hok:MacOK n ⟨m.up,m.tables,m.queues,m.now,m.injected+1,m.drops⟩ (J+1) D:=⟨hm0.up,hm0.tabs,hm0.ques,hm0.tab,hm0.que,hm0.now,⟨by dsimp only;omega,by dsimp only;omega⟩,hm0.drp⟩
 have hdr:H2 ⟨m.up,m.tables,m.queues,m.now,m.injected+1,m.drops⟩:=fun i=>⟨(hm0.drp i).1,by have:=(hm0.drp i).2;dsimp only at *;omega⟩
 have he:=T0 n port b
 have hdom:=T1 (n:=n) (port:=port) (b:=b)
 have q1:=Ahq n hn port b hb
 have hfr:=Sj n port b
 generalize enterT n port b=r at *
 have q2:=fun (hp:0≤port∧port.toNat<n.ports.length)=>Ui n ⟨m.up,m.tables,m.queues,m.now,m.injected+1,m.drops⟩ d r.1 ⟨port,0,m.injected+1,r.2.1⟩ r.2.2 ⟨he.1,by have:=he.2;omega⟩ (fun h=>by
  have:=hdom h
  exact⟨this.1,by show r.1.toNat<m.queues.length;rw[hm0.ques];exact this.2⟩) hdr (C9 hok _) (Dw hfr _ ⟨by omega,by have:=hn.ports;unfold Ap at this;omega⟩ qy)
 conv=>whnf
 refine⟨fun h=>?_,fun h=>?_⟩
 ·have h:=of_decide_eq_true h
  rw[if_pos (.inl (by cases hx:Ai port n.ports.length;rfl;exact absurd (hpl.1 hx) qn))]at hres
  subst hres
  (refine oT ?_;refine bT ?_)
  (skip)
  exact done E .nil [] (De n res d) (fun _ h=>h) E E ⟨Y,⟨.inl E,E,.inl E,E,.inl E,E,.inl E,E,Y⟩,E,E⟩
 have h0:=of_decide_eq_false h
 clear h
 refine oO ?_
 refine⟨fun h=>?_,fun h=>?_⟩
 ·have h:=of_decide_eq_true h
  rw[if_pos (.inl (by cases hx:Ai port n.ports.length;rfl;exact absurd (hpl.1 hx) qn))]at hres
  subst hres
  refine oT ?_
  (skip)
  exact done E .nil [] (De n res d) (fun _ h=>h) E E ⟨Y,⟨.inl E,E,.inl E,E,.inl E,E,.inl E,E,Y⟩,E,E⟩
 have h1:=of_decide_eq_false h
 clear h
 have hp:0≤port∧port.toNat<n.ports.length:=by omega
 rw[hpl.2 hp,Ak hp.2]at hres
 obtain ⟨p,hpp⟩:∃ p,n.ports[port.toNat]'hp.2=p:=⟨_,rfl⟩
 rw[hpp]at hres
 refine oO ?_
 refine⟨E,hp.1,hp.2,?_⟩
 rw[hpp]
 conv=>whnf
 refine⟨fun h=>?_,fun h=>?_⟩
 ·have h:=of_decide_eq_true h
  rw[if_pos (.inr h)]at hres
  subst hres
  refine oO ?_
  exact done E .nil [] (De n res d) (fun _ h=>h) E E ⟨Y,⟨.inl E,E,.inl E,E,.inl E,E,.inl E,E,Y⟩,E,E⟩
 have h2:=of_decide_eq_false h
 clear h
 rw[if_neg (by simp;omega)]at hres
 subst hres
 refine oO ?_
 refine iW ?_
 refine c0 q1 F172 ?_
 refine oO ?_
 refine Bd (Af [] E F173 (q2 hp) E ⟨E,E,E,E,Y⟩ E ⟨.inl E,.inl E,.inl E,.inl E,Y⟩) qq E ?_
 refine oD ?_
 refine kW ?_
 refine B3 E .nil [] (De n (comeM _ _ _ _) d) (fun _ h=>h) E E ⟨Y,⟨.inl E,E,.inl E,E,.inl E,E,.inl E,E,Y⟩,E,E⟩
end Go.Sy.YteinjapglfkamaaGreat
