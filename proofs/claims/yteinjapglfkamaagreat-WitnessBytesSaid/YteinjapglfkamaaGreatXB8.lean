/-
  K19 K20 K21 K22 K23 K12 K13 K14 K24 K43 K44 Z5 Z6 Z7 Z8 Z9 Z10 Z11 Z12 Z13 Z14 Z15 Z16 H1 S0 H2 H3 H4 Sy23 O1 H7: parts of a proof, joined by program.
-/
import Derived.Test.YteinjapglfkamaaGreatXB7
import Derived.Tactics
import Derived.Tactics2
import Derived.Defers
import Derived.Laws.Pointers
import Derived.Laws.LoneSync
import Derived.RegionTactic
import Derived.RegionCalls
import Derived.ChangeAlike
import Derived.Laws.NewBlocks
import Derived.Test.YteinjapglfkamaaGreatXB4
import Derived.Test.YteinjapglfkamaaGreatXB5
import Derived.Test.YteinjapglfkamaaGreatXB3
import Derived.Test.YteinjapglfkamaaGreatXB6
namespace Go.Sy.YteinjapglfkamaaGreat
open Go.Proofs
attribute [local irreducible] Go.Sy.G Go.Sy.DR
set_option maxRecDepth 100000
set_option maxHeartbeats 4000000
def knownT (n:Net) (fw:List Bool) (t:List EntryM) (dom from_:Int) (m:Nat):List Int × List Int × Bool :=
 if 0≤staticP n dom m then (Dm n fw from_ [staticP n dom m],[],true)
 else if (findE t m).2=false then ([],[],false)
 else if 0≤(findE t m).1∧inB (A0 n dom) (findE t m).1=true then (Dm n fw from_ [(findE t m).1],[],true)
 else if (findE t m).1<0∧inB (nth n.domains dom).peers (-1-(findE t m).1)=true then (if from_=-1 then ([],[],true) else ([],[-1-(findE t m).1],true))
 else ([],[],false)
theorem T1 {n:Net} (hb:Ac n=true) (dom:Int) (m:Nat) (h:0≤staticP n dom m):staticP n dom m<n.ports.length:=by
 unfold staticP at h ⊢
 split at h
 ·rename_i h0
  rw[if_pos h0]
  have hlt:Db n dom m<n.statics.length:=D3 _ _
  have hk:(Db n dom m).toNat<n.statics.length:=by omega
  simp only[Ac,Bool.and_eq_true]at hb
  have:=allB_iff.1 hb.1.1.1.2 _ hk
  simp only[Eg,Bool.and_eq_true,Ag,decide_eq_true_eq]at this
  rw[Ai hk]
  exact this.1.1.2.2
 ·omega
theorem knownS (n:Net) (hn:n.Fin) (fw:List Bool) (t:List EntryM) (dom from_:Int) (m:Nat) (hl:Aj t) (hw:I64 (-1-(findE t m).1)) (hbase:L9 n fw dom=true) :
  Sy.Spec Tryz.prog 299 [.ref 12 (Kh n fw dom from_ (A0 n dom)) 0,.sl 3 Av t,A5 m] [] (.tup [.sl 1 Aa (knownT n fw t dom from_ m).1,.sl 1 Aa (knownT n fw t dom from_ m).2.1,Ab (knownT n fw t dom from_ m).2.2]) []:=cT F299 Tryz.ntmps299 fun F hF=>by
 simp only[L9,Bool.and_eq_true,decide_eq_true_eq]at hbase
 obtain ⟨⟨hd,hfw⟩,hbn⟩:=hbase
 have hdi:=By hd
 have hd0:0≤dom:=hdi.1
 have hkd:dom.toNat<n.domains.length:=by omega
 have e2:nth n.domains dom=n.domains[dom.toNat]:=Ai hkd
 have hpe:=hn.peers _ (List.getElem_mem hkd)
 have hres:=knownT.eq_1 n fw t dom from_ m
 have qs:=Aft n hn hbn dom m
 have hsp:=T1 hbn dom m
 have qf:=Aj7 t m hl
 have qp:∀ p:Int,0≤p→p<n.ports.length→_:=fun p h0 h1=>Aep n fw dom from_ (A0 n dom) [p] (by unfold Aj;simp) (V7 hbn hfw (l:=[p]) (fun x hx=>by rw[List.mem_singleton]at hx;subst hx;exact⟨h0,h1⟩))
 have hmem:∀ p,inB (A0 n dom) p=true→0≤p∧p<n.ports.length:=fun p hp=>Dr p (inB_mem.1 hp)
 have qc:=fun x=>Cq (A0 n dom) x (Jd hn dom)
 rw[e2]at hres
 obtain ⟨d,hdd⟩:∃ d,n.domains[dom.toNat]'hkd=d:=⟨_,rfl⟩
 rw[hdd]at hres hpe
 have qc2:=fun x=>Cq d.peers x hpe
 generalize knownT n fw t dom from_ m=res at *
 generalize staticP n dom m=sp at *
 generalize findE t m=fe at *
 obtain ⟨w,ok⟩:=fe
 dsimp only at hres hw qf
 generalize A0 n dom=ml at *
 conv=>whnf
 refine cD qs F348 ?_
 refine oD ?_
 refine kW ?_
 refine⟨fun h1=>?_,fun h1=>?_⟩
 ·have h2:0≤sp:=by simpa using h1
  rw[if_pos h2]at hres
  subst hres
  refine oO ?_
  refine Iw 25 Aa [sp] E E ?_
  refine Aq 25 E ?_
  refine c0 (qp sp h2 (hsp h2)) F292 ?_
  refine oO ?_
  refine Ak 7 1 Aa E ?_
  exact dN
 have h2:¬ 0≤sp:=by simp at h1;omega
 rw[if_neg h2]at hres
 refine oO ?_
 refine c0 qf F349 ?_
 cases ok
 ·rw[if_pos rfl]at hres
  subst hres
  refine oT ?_
  refine Ak 6 1 Aa E ?_
  refine Ak 7 1 Aa E ?_
  exact dN
 rw[if_neg qx]at hres
 refine oF ?_
 refine⟨fun h3=>?_,fun h3=>?_⟩
 ·have h4:0≤w:=by simpa using h3
  refine oO ?_
  refine c0 (qc w) F25 ?_
  cases hin:inB ml w
  ·rw[if_neg (by simp[hin]),if_neg qn]at hres
   subst hres
   refine oF ?_
   refine⟨fun h5=>absurd h5 (by simp;omega),fun _=>?_⟩
   refine oD ?_
   refine⟨qq,?_⟩
   ((conv=>whnf);refine aF ?_;refine rg ?_;conv=>whnf)
   refine Ak 6 1 Aa E ?_
   refine Ak 7 1 Aa E ?_
   exact dN
  ·rw[if_pos ⟨h4,hin⟩]at hres
   subst hres
   refine oT ?_
   refine Iw 49 Aa [w] E E ?_
   refine Aq 49 E ?_
   refine c0 (qp w h4 (hmem w hin).2) F292 ?_
   refine oO ?_
   refine Ak 7 1 Aa E ?_
   exact dN
 have h4:¬ 0≤w:=by simp at h3;omega
 rw[if_neg qn]at hres
 refine oF ?_
 refine⟨fun h5=>?_,fun h5=>absurd h5 (by simp;omega)⟩
 refine oD ?_
 refine⟨E,hd0,hkd,?_⟩
 rw[hdd]
 conv=>whnf
 refine⟨hw,?_⟩
 conv=>whnf
 refine cD (qc2 (-1-w)) F25 ?_
 cases hin:inB d.peers (-1-w)
 ·rw[if_neg (by simp[hin])]at hres
  subst hres
  refine oD ?_
  refine⟨qq,?_⟩
  ((conv=>whnf);refine aF ?_;refine rg ?_;conv=>whnf)
  refine Ak 6 1 Aa E ?_
  refine Ak 7 1 Aa E ?_
  exact dN
 rw[if_pos ⟨by omega,hin⟩]at hres
 refine oD ?_
 refine⟨qq,?_⟩
 ((conv=>whnf);refine aT ?_;refine rg ?_;conv=>whnf)
 refine⟨fun h6=>?_,fun h6=>?_⟩
 ·rw[if_pos (by simpa using h6)]at hres
  subst hres
  refine oO ?_
  refine Ak 6 1 Aa E ?_
  refine Ak 7 1 Aa E ?_
  exact dN
 ·rw[if_neg (by simpa using h6)]at hres
  subst hres
  refine oO ?_
  refine⟨hw,?_⟩
  conv=>whnf
  refine Ak 6 1 Aa E ?_
  refine Iw 78 Aa [-1-w] E E ?_
  refine Aq 78 E ?_
  exact dN
theorem Qi {n:Net} (hb:Ac n=true) (dom:Int) (m:Nat):(0≤staticP n dom m↔0≤Db n dom m)∧(0≤Db n dom m→staticP n dom m=(nth n.statics (Db n dom m)).port):=by
 refine⟨⟨fun h=>?_,fun h=>?_⟩,fun h=>by rw[staticP,if_pos h]⟩
 ·unfold staticP at h
  split at h
  ·assumption
  ·omega
 ·rw[staticP,if_pos h]
  have hlt:Db n dom m<n.statics.length:=D3 _ _
  have hk:(Db n dom m).toNat<n.statics.length:=by omega
  simp only[Ac,Bool.and_eq_true]at hb
  have:=allB_iff.1 hb.1.1.1.2 _ hk
  simp only[Eg,Bool.and_eq_true,Ag,decide_eq_true_eq]at this
  rw[Ai hk]
  exact this.1.1.2.1
theorem An3 {n:Net} {fw:List Bool} {t:List EntryM} {dom from_:Int} {m:Nat} (hb:Ac n=true) (hr:K3 n fw dom from_=true) (hg:E9 m=false) :
  Ci n fw t dom from_ m=if (knownT n fw t dom from_ m).2.2=true then ((knownT n fw t dom from_ m).1,(knownT n fw t dom from_ m).2.1,0) else (Dm n fw from_ (A0 n dom),peersOut n dom from_,0):=by
 obtain ⟨h1,h2⟩:=Qi hb dom m
 rw[Ci,if_neg (by rw[hr];decide),if_neg (by rw[hg];decide)]
 unfold knownT
 by_cases hs:0≤Db n dom m
 ·rw[if_pos hs,if_pos (h1.2 hs),h2 hs];rfl
 rw[if_neg hs,if_neg (fun h=>hs (h1.1 h))]
 generalize findE t m=fe
 obtain ⟨w,ok⟩:=fe
 cases ok
 ·simp
 simp only[Bool.true_eq_false,if_false,true_and]
 by_cases ha:0≤w∧inB (A0 n dom) w=true
 ·rw[if_pos ha,if_pos ha];rfl
 rw[if_neg ha,if_neg ha]
 by_cases hc:w<0∧inB (nth n.domains dom).peers (-1-w)=true
 ·rw[if_pos hc,if_pos hc]
  split<;>rfl
 ·rw[if_neg hc,if_neg hc];rfl
theorem An4 (n:Net) (hn:n.Fin) (fw:List Bool) (t:List EntryM) (dom from_:Int) (m:Nat) (hl:Aj t) (hw:I64 (-1-(findE t m).1)) (hm64:m<18446744073709551616) :
  Sy.Spec Tryz.prog 235 [Al n,.sl 1 Ab fw,.sl 3 Av t,Aa dom,Aa from_,A5 m] [] (.tup [.sl 1 Aa (Ci n fw t dom from_ m).1,.sl 1 Aa (Ci n fw t dom from_ m).2.1,Aa (Ci n fw t dom from_ m).2.2]) []:=cT F235 Tryz.ntmps235 fun F hF=>by
 cases hbase:L9 n fw dom
 ·have hres:Ci n fw t dom from_ m=([],[],2):=by
   rw[Ci,if_pos (by rw[Lk,hbase];rfl)]
  rw[hres]
  have q:=Agh n hn fw dom from_ hbase
  conv=>whnf
  refine c0 q F291 ?_
  refine oT ?_
  refine Ak 12 1 Aa E ?_
  refine Ak 13 1 Aa E ?_
  exact dN
 have q:=Akm n hn fw dom from_ hbase
 have qk:=knownS n hn fw t dom from_ m hl hw hbase
 have qg:=Jx m hm64
 have hb2:=hbase
 simp only[L9,Bool.and_eq_true,decide_eq_true_eq]at hb2
 obtain ⟨⟨hd,hfw⟩,hbn⟩:=hb2
 have qp:=Aep n fw dom from_ (A0 n dom) (A0 n dom) (Jd hn dom) (V7 hbn hfw Dr)
 have qe:=Agl n hn fw dom from_ (A0 n dom) hd
 have hroom:=Lk n fw dom from_
 rw[hbase,Bool.true_and]at hroom
 have hbad:K3 n fw dom from_=false→Ci n fw t dom from_ m=([],[],2):=fun h=>by rw[Ci,if_pos h]
 have hgrp:K3 n fw dom from_=true→E9 m=true→Ci n fw t dom from_ m=(Dm n fw from_ (A0 n dom),peersOut n dom from_,0):=fun h h2=>by
  rw[Ci,if_neg (by rw[h];decide),if_pos h2]
 have hkn:=fun h h2=>@An3 n fw t dom from_ m hbn h h2
 generalize Ci n fw t dom from_ m=res at *
 generalize knownT n fw t dom from_ m=kn at *
 obtain ⟨kp,ke,ko⟩:=kn
 generalize K3 n fw dom from_=rm at *
 generalize (decide (from_=-1) || decide (from_=-2) || inB (A0 n dom) from_)=ok at *
 subst hroom
 generalize A0 n dom=ml at *
 dsimp only at hkn qk
 conv=>whnf
 refine c0 q F291 ?_
 cases rm
 ·rw[hbad rfl]
  refine oT ?_
  refine Ak 12 1 Aa E ?_
  refine Ak 13 1 Aa E ?_
  exact dN
 refine oF ?_
 refine c0 qg F226 ?_
 cases hg:E9 m
 ·have hkn:=hkn rfl hg
  refine oT ?_
  refine c0 qk F299 ?_
  cases ko
  ·rw[if_neg qx]at hkn
   subst hkn
   refine oF ?_
   refine c0 qp F292 ?_
   refine oO ?_
   refine c0 qe F293 ?_
   refine oO ?_
   exact dN
  ·rw[if_pos rfl]at hkn
   subst hkn
   refine oT ?_
   exact dN
 ·rw[hgrp rfl hg]
  refine oF ?_
  refine c0 qp F292 ?_
  refine oO ?_
  refine c0 qe F293 ?_
  refine oO ?_
  exact dN
theorem Aar (t:List EntryM) (q:QueuedM) (now:Int) (ht:TabOK t) (hq:QueuedOK q):Sy.Spec Tryz.prog 231 [.sl 3 Av t,Bg q,Aa now] [] (.sl 3 Av (learnQ t q now)) []:=cT F231 Tryz.ntmps231 fun F hF=>by
 have hres:=learnQ.eq_1 t q now
 generalize learnQ t q now=res at *
 have hl:=ht.short
 have hl2:=hl
 unfold Aj at hl2
 have hs:=hq.frame.src
 have h1:=hq.peer
 conv=>whnf
 refine⟨fun h=>?_,fun h=>?_⟩
 ·rw[if_pos (by simpa using h)]at hres
  subst hres
  refine oO ?_
  refine Ad (Af [(0,55)] E F243 (L8 res hl2) E Y E ⟨.inr E,Y⟩) E E ?_
  refine Aq 55 E ?_
  refine oO ?_
  exact dN
 rw[if_neg (by simpa using h)]at hres
 clear h
 refine oO ?_
 refine⟨fun h=>?_,fun h=>?_⟩
 ·rw[if_pos (by simpa using h)]at hres
  subst hres
  refine oO ?_
  refine iW ?_
  refine c0 (Ye t q.frame.src (-1-q.peer) now hl ht.mac qn) F296 ?_
  refine oO ?_
  exact dN
 rw[if_neg (by simpa using h)]at hres
 subst hres
 refine oO ?_
 refine c0 (Ye t q.frame.src q.from_ now hl ht.mac qn) F296 ?_
 refine oO ?_
 exact dN
def Aic (k p d:Int):OutM:=⟨k,p,d,[],noF,0⟩
theorem Ano (k p d:Int) (b:List UInt8) (e:Int):Q4 (Aic k p d) (b,e)=if e≠0 then ⟨5,p,d,[],noF,e⟩ else ⟨k,p,d,b,noF,0⟩:=rfl
theorem Qa (l:List OutM) (k p d:Int) (b:List UInt8) (e:Int) (hl:l.length<100000000000) :
  Sy.Spec Tryz.prog 234 [Dn (Aic k p d),.sl 1 Ae b,Aa e,.ptr 0 0] [(0,.box [.osl 1]),(1,.row 9 Dn l)] (.tup []) [(0,.box [.osl 2]),(1,.non),(2,.row 9 Dn (l++[Q4 (Aic k p d) (b,e)]))]:=cT F234 Tryz.ntmps234 fun F hF=>by
 have hres:=Ano k p d b e
 generalize Q4 (Aic k p d) (b,e)=res at *
 conv=>whnf
 refine⟨fun h=>?_,fun h=>?_⟩
 ·rw[if_pos (by simpa using h)]at hres
  refine oO ?_
  refine Aau 17 [Dn ⟨5,p,d,[],noF,e⟩] E (.cons (.agg (.cons (.refl _) (.cons (.refl _) (.cons (.refl _) (.cons .nil (.cons (.refl _) (.cons (.refl _) (.cons (.refl _) (.cons (.refl _) (.cons (.refl _) .nil)))))))))) .nil) E ?_
  refine Ad (Ah Γ.toTy 18 E E E E E (.row E) (.lit (e:=Dn) (l:=[res]) E (by rw[hres];rfl)) qx (by simp;omega) (by simp;omega)) E E ?_
  refine oO ?_
  exact A6 E .nil [(2,18)] [(0,.box [.osl 2]),(1,.non),(2,.row 9 Dn (l++[res]))] (fun _ h=>h) E E ⟨Y,⟨.inl E,E,.inl E,E,.inl E,E,Y⟩,E,E⟩
 ·rw[if_neg (by simpa using h)]at hres
  refine oO ?_
  refine Ad (Ah Γ.toTy 18 E E E E E (.row E) (.lit (e:=Dn) (l:=[res]) E (by rw[hres];rfl)) qx (by simp;omega) (by simp;omega)) E E ?_
  refine oO ?_
  exact A6 E .nil [(2,18)] [(0,.box [.osl 2]),(1,.non),(2,.row 9 Dn (l++[res]))] (fun _ h=>h) E E ⟨Y,⟨.inl E,E,.inl E,E,.inl E,E,Y⟩,E,E⟩
theorem Anw {t:List EntryM} (ht:TabOK t) (m:Nat):I64 (findE t m).1:=by
 unfold findE
 split
 ·unfold I64;dsimp only;omega
 ·rename_i h
  have hlt:D0 t m<t.length:=D3 _ _
  have hk:(D0 t m).toNat<t.length:=by omega
  dsimp only
  rw[List.getElem?_eq_getElem hk]
  exact ht.wh _ (List.getElem_mem hk)
theorem H1 {n:Net} {fw:List Bool} {fr:Int} {l:List Int} {p:Int} (h:p∈Dm n fw fr l):p∈l:=(List.mem_filter.1 h).1
theorem Aal {n:Net} (hb:Ac n=true) (fw:List Bool) (t:List EntryM) (dom fr:Int) (m:Nat):∀ p∈(Ci n fw t dom fr m).1,0≤p∧p<n.ports.length:=by
 intro p hp
 unfold Ci at hp
 split at hp
 ·cases hp
 split at hp
 ·exact Dr p (H1 hp)
 split at hp
 ·rename_i h1
  obtain ⟨hs1,hs2⟩:=Qi hb dom m
  have h2:=hs1.2 h1
  have h3:=T1 hb dom m h2
  have h4:=List.mem_singleton.1 (H1 hp)
  rw[h4,← hs2 h1]
  exact⟨h2,h3⟩
 split at hp
 ·rename_i h1
  rw[List.mem_singleton.1 (H1 hp)]
  exact Dr _ (inB_mem.1 h1.2.2)
 split at hp
 ·cases hp
 ·exact Dr p (H1 hp)
theorem Zs (n:Net) (fw:List Bool) (fr:Int) (l:List Int):(Dm n fw fr l).length≤l.length:=List.length_filter_le _ _
theorem Zu {n:Net} (hn:n.Fin) (dom fr:Int) (hd:Ag dom n.domains.length=true):(peersOut n dom fr).length<2147483648:=by
 unfold peersOut
 split
 ·decide
 ·have h:=Ih hd
  rw[Ai h.2]
  exact hn.peers _ (List.getElem_mem h.2)
theorem W8 {n:Net} (hn:n.Fin) (fw:List Bool) (t:List EntryM) (dom fr:Int) (m:Nat):(Ci n fw t dom fr m).1.length<2147483648∧(Ci n fw t dom fr m).2.1.length<2147483648:=by
 have h1:=Ab9 n dom
 have h2:=hn.ports
 unfold Aj at h2
 have h3:=fun l=>Zs n fw fr l
 unfold Ci
 split
 ·decide
 rename_i h
 have hd:Ag dom n.domains.length=true:=by
  cases hx:Ag dom n.domains.length
  ·exact absurd (by rw[K3,hx];rfl) h
  ·rfl
 have h4:=Zu hn dom fr hd
 split
 ·have:=h3 (A0 n dom);exact⟨by dsimp only;omega,h4⟩
 split
 ·have:=h3 [(nth n.statics (Db n dom m)).port];simp only[List.length_cons,List.length_nil]at this;exact⟨by dsimp only;omega,by show (0:Nat)<2147483648;decide⟩
 split
 ·have:=h3 [(findE t m).1];simp only[List.length_cons,List.length_nil]at this;exact⟨by dsimp only;omega,by show (0:Nat)<2147483648;decide⟩
 split
 ·refine⟨by show (0:Nat)<2147483648;decide,?_⟩
  dsimp only
  split<;>simp
 ·have:=h3 (A0 n dom);exact⟨by dsimp only;omega,h4⟩
theorem Adm (n:Net) (hn:n.Fin) (hm0:n.Num) (fw:List Bool) (t:List EntryM) (dom:Int) (q:QueuedM) (now:Int) (ht:TabOK t) (hq:QueuedOK q) :
  Sy.Spec Tryz.prog 174 [Al n,.sl 1 Ab fw,.sl 3 Av t,Aa dom,Bg q,Aa now] [] (.tup [.sl 3 Av (bridgeT n fw t dom q now).1,.sl 9 Dn (bridgeT n fw t dom q now).2.1,Aa (bridgeT n fw t dom q now).2.2]) []:=cT F174 Tryz.ntmps174 fun F hF=>by
 have hres:=bridgeT.eq_1 n fw t dom q now
 generalize bridgeT n fw t dom q now=res at *
 have qf:=floodS n hn fw dom q.from_
 have qr:=Te t ht.short ht.mac
 conv=>whnf
 refine Ba 6 8 (Al n) E E E ?_
 refine Ba 10 7 (Bg q) E E E ?_
 refine oO ?_
 cases hroom:K3 n fw dom q.from_
 ·rw[if_pos (.inl hroom)]at hres
  subst hres
  rw[floodT,if_pos hroom]at qf
  refine c0 qf F229 ?_
  (refine oT ?_;refine bT ?_)
  refine A8 13 [.sl 9 Dn []] E (.cons .nil .nil) ?_
  refine Ak 12 3 Av E ?_
  exact dN
 rw[floodT,if_neg (by rw[hroom];decide)]at qf
 refine c0 qf F229 ?_
 refine oF ?_
 refine c0 qr F230 ?_
 cases htb:tableB t
 ·rw[if_pos (.inr htb)]at hres
  subst hres
  refine oT ?_
  refine A8 13 [.sl 9 Dn []] E (.cons .nil .nil) ?_
  refine Ak 12 3 Av E ?_
  exact dN
 rw[if_neg (by simp[hroom,htb])]at hres
 have ql:=Aar t q now ht hq
 have hu:=Mm ht hq now
 generalize learnQ t q now=u at *
 have qro:=Aay n hn hm0 dom q.frame.dst
 generalize routerT n dom q.frame.dst=ro at *
 obtain ⟨irb,ok⟩:=ro
 dsimp only at hres qro
 have hbn:Ac n=true:=by
  simp only[K3,Bool.and_eq_true]at hroom
  exact hroom.1.2
 refine oF ?_
 refine c0 ql F231 ?_
 refine oO ?_
 refine c0 qro F232 ?_
 cases ok
 rotate_left
 ·rw[if_pos rfl]at hres
  have qh:=Ahx n hn hm0 irb q.frame hq.frame
  generalize hopT n irb q.frame=hp at *
  obtain ⟨to,g,e⟩:=hp
  dsimp only at hres qh
  refine oT ?_
  refine c0 qh F233 ?_
  refine oO ?_
  refine⟨fun h=>?_,fun h=>?_⟩
  ·rw[if_pos (by simpa using h)]at hres
   subst hres
   refine oO ?_
   refine A8 13 [.sl 9 Dn []] E (.cons .nil .nil) ?_
   exact dN
  ·rw[if_neg (by simpa using h)]at hres
   subst hres
   refine oO ?_
   refine kW ?_
   refine Aau 84 [Dn ⟨4,0,to,[],g,0⟩] E (.cons (.agg (.cons (.refl _) (.cons (.refl _) (.cons (.refl _) (.cons .nil (.cons (.refl _) (.cons (.refl _) (.cons (.refl _) (.cons (.refl _) (.cons (.refl _) .nil)))))))))) .nil) E ?_
   refine Iw 84 Dn [⟨4,0,to,[],g,0⟩] E E ?_
   refine Aq 84 E ?_
   exact dN
 rw[if_neg qx]at hres
 have hs:=hq.frame.src
 have hd2:=hq.frame.dst
 have hfw:=Anw hu q.frame.dst
 have qd:=An4 n hn fw u dom q.from_ q.frame.dst hu.short (by unfold I64 at *;omega) qn
 have hports:=Aal hbn fw u dom q.from_ q.frame.dst
 have hfew:=W8 hn fw u dom q.from_ q.frame.dst
 generalize Ci n fw u dom q.from_ q.frame.dst=dc at *
 obtain ⟨ports,peers,e0⟩:=dc
 dsimp only at hres qd hports hfew
 obtain ⟨hf1,hf2⟩:=hfew
 refine oF ?_
 refine c0 qd F235 ?_
 refine oO ?_
 refine Ad0 13 0 1000 9 Dn E E E E ?_
 refine Az ports.length (fun j=>[(3,Aa dom),(6,.ref 8 (Al n) 0),(10,.ref 7 (Bg q) 0),(12,.sl 3 Av u),(13,.ptr 13 0),(23,.clo (.func 234) [] [.ptr 13 0]),(25,.sl 1 Aa peers),(100,.sl 1 Aa ports),(101,Aa ports.length),(102,Aa j)])
  (fun j=>[(13,.box [.osl 1000]),(1000,.row 9 Dn ((ports.take j).map (Xv n dom q.frame)))]) [(13,13),(1000,1000)] ⟨⟨rfl,rfl,rfl,rfl,rfl,rfl,rfl,rfl,rfl,rfl,rfl,rfl,rfl,rfl,rfl,rfl,rfl,rfl,rfl,rfl,trivial⟩,⟨.inl rfl,rfl,.inl rfl,rfl,trivial⟩,rfl,rfl⟩ ?_
 intro j hj
 refine oO ?_
 refine⟨fun h=>?_,fun h=>?_⟩
 ·have hlt:j<ports.length:=qA h
  have hj0:((j:Nat):Int).toNat<ports.length:=by simpa using hlt
  obtain ⟨p,hp⟩:∃ p,ports[j]=p:=⟨_,rfl⟩
  have e1:ports[((j:Nat):Int).toNat]'hj0=p:=hp
  have hs:(ports.take (j+1)).map (Xv n dom q.frame)=(ports.take j).map (Xv n dom q.frame)++[Xv n dom q.frame p]:=by
   rw[List.take_succ_eq_append_getElem hlt,List.map_append,hp];rfl
  have hal:((ports.take j).map (Xv n dom q.frame)).length=j:=by rw[List.length_map,List.length_take];omega
  have hpi:=hports p (by rw[← hp];exact List.getElem_mem hlt)
  have hpk:p.toNat<n.ports.length:=by omega
  have ql:=Ali n hn p dom q.frame hq.frame
  have hop:Xv n dom q.frame p=Q4 (Aic (if (nth n.ports p).link<0 then 1 else 2) p 0) ((leaveT n p dom q.frame).1,(leaveT n p dom q.frame).2):=rfl
  rw[hop,Ai hpk]at hs
  clear hop
  obtain ⟨acc,hacc⟩:∃ acc,(ports.take j).map (Xv n dom q.frame)=acc:=⟨_,rfl⟩
  rw[hacc]at hs hal ⊢
  obtain ⟨x,hx⟩:∃ x,n.ports[p.toNat]'hpk=x:=⟨_,rfl⟩
  rw[hx]at hs
  clear h
  refine oO ?_
  refine⟨E,by omega,hj0,?_⟩
  rw[e1]
  conv=>whnf
  refine⟨E,hpi.1,hpk,?_⟩
  rw[hx]
  conv=>whnf
  refine⟨fun h=>?_,fun h=>?_⟩
  ·rw[if_neg (qA h)]at hs
   refine oO ?_
   refine c0 ql F236 ?_
   refine oO ?_
   refine Ad (Ev [(0,13),(1,1000),(2,1001)] [] (Cm E E F234) (Qa acc 2 p 0 (leaveT n p dom q.frame).1 (leaveT n p dom q.frame).2 qn) (.cons (.agg (.cons (.refl _) (.cons (.refl _) (.cons (.refl _) (.cons .nil (.cons (.refl _) (.cons (.refl _) (.cons (.refl _) (.cons .nil (.cons (.refl _) .nil)))))))))) (.cons (.refl _) (.cons (.refl _) (.cons (.refl _) .nil)))) ⟨E,E,Y⟩ E ⟨.inl E,.inl E,.inr E,Y⟩ E) E E ?_
   refine oO ?_
   refine iW ?_
   exact Ar [(13,13),(1000,1001)] hlt ⟨⟨E,E,E,E,E,E,E,E,E,E,E,E,E,E,E,E,E,E,E,E,Y⟩,⟨.inl E,E,.inl (congrArg (Ob.row 9 Dn) hs),E,Y⟩,E,E⟩
  ·rw[if_pos (qB h)]at hs
   refine oO ?_
   refine c0 ql F236 ?_
   refine oO ?_
   refine Ad (Ev [(0,13),(1,1000),(2,1001)] [] (Cm E E F234) (Qa acc 1 p 0 (leaveT n p dom q.frame).1 (leaveT n p dom q.frame).2 qn) (.cons (.agg (.cons (.refl _) (.cons (.refl _) (.cons (.refl _) (.cons .nil (.cons (.refl _) (.cons (.refl _) (.cons (.refl _) (.cons .nil (.cons (.refl _) .nil)))))))))) (.cons (.refl _) (.cons (.refl _) (.cons (.refl _) .nil)))) ⟨E,E,Y⟩ E ⟨.inl E,.inl E,.inr E,Y⟩ E) E E ?_
   refine oO ?_
   refine iW ?_
   exact Ar [(13,13),(1000,1001)] hlt ⟨⟨E,E,E,E,E,E,E,E,E,E,E,E,E,E,E,E,E,E,E,E,Y⟩,⟨.inl E,E,.inl (congrArg (Ob.row 9 Dn) hs),E,Y⟩,E,E⟩
 have hjj:j=ports.length:=qB h
 subst hjj
 clear h
 rw[List.take_length]
 obtain ⟨acc0,hacc0⟩:∃ acc0,ports.map (Xv n dom q.frame)=acc0:=⟨_,rfl⟩
 have hal0:acc0.length=ports.length:=by rw[← hacc0,List.length_map]
 rw[hacc0]at hres ⊢
 refine oO ?_
 refine Az peers.length (fun j=>[(3,Aa dom),(6,.ref 8 (Al n) 0),(10,.ref 7 (Bg q) 0),(12,.sl 3 Av u),(13,.ptr 13 0),(23,.clo (.func 234) [] [.ptr 13 0]),(130,.sl 1 Aa peers),(131,Aa peers.length),(132,Aa j)])
  (fun j=>[(13,.box [.osl 1000]),(1000,.row 9 Dn (acc0++(peers.take j).map (Zw n dom q.frame)))]) [(13,13),(1000,1000)] ⟨⟨rfl,rfl,rfl,rfl,rfl,rfl,rfl,rfl,rfl,rfl,rfl,rfl,rfl,rfl,rfl,rfl,rfl,rfl,trivial⟩,⟨.inl rfl,rfl,.inl (congrArg (Ob.row 9 Dn) qy),rfl,trivial⟩,rfl,rfl⟩ ?_
 intro j hj
 refine oO ?_
 refine⟨fun h=>?_,fun h=>?_⟩
 ·have hlt:j<peers.length:=qA h
  have hj0:((j:Nat):Int).toNat<peers.length:=by simpa using hlt
  obtain ⟨p,hp⟩:∃ p,peers[j]=p:=⟨_,rfl⟩
  have e1:peers[((j:Nat):Int).toNat]'hj0=p:=hp
  have hs:acc0++(peers.take (j+1)).map (Zw n dom q.frame)=(acc0++(peers.take j).map (Zw n dom q.frame))++[Zw n dom q.frame p]:=by
   rw[List.take_succ_eq_append_getElem hlt,List.map_append,hp,List.append_assoc];rfl
  have hal:(acc0++(peers.take j).map (Zw n dom q.frame)).length≤ports.length+j:=by rw[List.length_append,List.length_map,List.length_take];omega
  have ql:=Ae3 n hn hm0 dom p q.frame hq.frame
  have hop:Zw n dom q.frame p=Q4 (Aic 3 0 p) ((meshT n dom p q.frame).1,(meshT n dom p q.frame).2):=rfl
  rw[hop]at hs
  clear hop
  obtain ⟨acc,hacc⟩:∃ acc,acc0++(peers.take j).map (Zw n dom q.frame)=acc:=⟨_,rfl⟩
  rw[hacc]at hs hal ⊢
  clear h
  refine oO ?_
  refine⟨E,by omega,hj0,?_⟩
  rw[e1]
  conv=>whnf
  refine c0 ql F237 ?_
  refine oO ?_
  refine Ad (Ev [(0,13),(1,1000),(2,1001)] [] (Cm E E F234) (Qa acc 3 0 p (meshT n dom p q.frame).1 (meshT n dom p q.frame).2 qn) (.cons (.agg (.cons (.refl _) (.cons (.refl _) (.cons (.refl _) (.cons .nil (.cons (.refl _) (.cons (.refl _) (.cons (.refl _) (.cons .nil (.cons (.refl _) .nil)))))))))) (.cons (.refl _) (.cons (.refl _) (.cons (.refl _) .nil)))) ⟨E,E,Y⟩ E ⟨.inl E,.inl E,.inr E,Y⟩ E) E E ?_
  refine oO ?_
  refine iW ?_
  exact Ar [(13,13),(1000,1001)] hlt ⟨⟨E,E,E,E,E,E,E,E,E,E,E,E,E,E,E,E,E,E,Y⟩,⟨.inl E,E,.inl (congrArg (Ob.row 9 Dn) hs),E,Y⟩,E,E⟩
 have hjj:j=peers.length:=qB h
 subst hjj
 clear h
 rw[List.take_length]
 subst hres
 refine oO ?_
 refine kW ?_
 refine Aq 1000 E ?_
 exact dN
theorem Km {l:List QueuedM} (h:Em l):l.length<1000000∧Mf l:=⟨by have:=h.1;omega,fun q hq=>by have:=(h.2 q hq).frame.body;omega⟩
theorem U7 {α:Type} {l:List α} {i:Nat} (h:i<l.length) (d:α):(l[i]?).getD d=l[i]:=by
 rw[List.getElem?_eq_getElem h];rfl
theorem placeB_iff {d:Int} {k:Nat}:Ag d k=true↔0≤d∧d.toNat<k:=by
 simp only[Ag,Bool.and_eq_true,decide_eq_true_eq];omega
theorem Ahn (n:Net) (m:MacM) (d:Bool) (dom:Int) (hl:Em (queueL m dom)) :
  Sy.Spec Tryz.prog 54 [.ptr 0 0,Aa dom] (Cp n m d) (.sl 7 Bg (if Ag dom m.queues.length then queueL m dom else [])) (Cp n m d):=cT F54 Tryz.ntmps54 fun F hF=>by
 have h1:=Agb n m d dom
 have hpl:=placeB_iff (d:=dom) (k:=m.queues.length)
 generalize Ag dom m.queues.length=b at *
 have hb:=Km hl
 have h2:=V5 _ (-1) hb.1 hb.2
 have h3:takeT (queueL m dom) (-1)=(noQ,queueL m dom,false):=by rw[takeT];exact if_pos (.inl qx)
 rw[h3]at h2
 clear h3 hb hl
 have hres:=queueL.eq_1 m dom
 generalize queueL m dom=res at *
 conv=>whnf
 refine Ad (Af [] E F119 h1 E ⟨E,E,E,E,Y⟩ E ⟨.inl E,.inl E,.inl E,.inl E,Y⟩) E E ?_
 refine oO ?_
 cases b
 ·(refine⟨fun _=>?_,fun h=>False.elim (absurd h qx)⟩;refine rg ?_;conv=>whnf)
  refine Ak 4 7 Bg E ?_
  exact done E (.cons .tmp .nil) [] (Cp n m d) (fun _ h=>h) E E ⟨Y,⟨.inl E,E,.inl E,E,.inl E,E,.inl E,E,Y⟩,E,E⟩
 have hd:=hpl.1 rfl
 have hlt:dom.toNat<m.queues.length:=hd.2
 rw[U7 hlt]at hres
 subst hres
 (refine⟨fun h=>False.elim (absurd h qx),fun _=>?_⟩;refine rg ?_;conv=>whnf)
 refine⟨hd.1,by omega,?_⟩
 conv=>whnf
 refine⟨E,hlt,?_⟩
 conv=>whnf
 refine c0 h2 F120 ?_
 refine oO ?_
 exact done E (.cons .tmp .nil) [] (Cp n m d) (fun _ h=>h) E E ⟨Y,⟨.inl E,E,.inl E,E,.inl E,E,.inl E,E,Y⟩,E,E⟩
def Mw (m:MacM):Prop:=∀ i,0≤m.drops i∧m.drops i≤1000000000000
theorem Ql (n:Net) (m:MacM) (d:Bool) (dom:Int) (q:QueuedM) (e:Int) (he:0≤e∧e<64) (hd:e=0→0≤dom∧dom.toNat<m.queues.length) (hb:Mw m) (hl:Em (queueL m dom)) (hq:QueuedOK q) :
  Sy.Spec Tryz.prog 173 [.ptr 0 0,Aa dom,Bg q,Aa e] (Cp n m d) (.tup []) (Cp n (comeM m dom q e) d):=cT F173 Tryz.ntmps173 fun F hF=>by
 have hqb:=Km hl
 have hp:=Abw _ q hqb.1 hqb.2 (by have:=hq.frame.body;omega)
 have h1:=Adb n m d e he.1 he.2 (hb _)
 have h3:=Adb n m d 3 qx qx (hb _)
 have hres:=comeM.eq_1 m dom q e
 generalize comeM m dom q e=res at *
 conv=>whnf
 refine⟨fun h=>?_,fun h=>?_⟩
 ·rw[if_pos (by simpa using h)]at hres
  subst hres
  refine oO ?_
  refine Ad (Af [] E F176 h1 E ⟨E,E,E,E,Y⟩ E ⟨.inl E,.inl E,.inl E,.inl E,Y⟩) E E ?_
  refine oO ?_
  exact done E .nil [] (Cp n (B6 m e) d) (fun _ h=>h) E E ⟨Y,⟨.inl E,E,.inl E,E,.inl E,E,.inl E,E,Y⟩,E,E⟩
 have h0:e=0:=by simpa using h
 have hd:=hd h0
 rw[if_neg (by rw[h0];decide)]at hres
 clear h hqb h1 hl he
 have hq0:=queueL.eq_1 m dom
 rw[U7 hd.2]at hq0
 generalize queueL m dom=l at *
 generalize pushT l q=r at *
 obtain ⟨l2,ok⟩:=r
 subst hq0
 refine oO ?_
 refine⟨hd.1,hd.2,?_⟩
 conv=>whnf
 refine⟨E,hd.2,?_⟩
 conv=>whnf
 refine cD hp F228 ?_
 refine oD ?_
 refine kW ?_
 cases ok
 ·rw[if_neg qy]at hres
  subst hres
  (refine⟨fun _=>?_,fun h=>False.elim (by simp at h)⟩;refine rg ?_;conv=>whnf)
  refine Ad (Af [] E F176 h3 E ⟨E,E,E,E,Y⟩ E ⟨.inl E,.inl E,.inl E,.inl E,Y⟩) E E ?_
  refine oO ?_
  exact done E .nil [] (Cp n (B6 m 3) d) (fun _ h=>h) E E ⟨Y,⟨.inl E,E,.inl E,E,.inl E,E,.inl E,E,Y⟩,E,E⟩
 ·rw[if_pos rfl]at hres
  subst hres
  (refine⟨fun h=>False.elim (by simp at h),fun _=>?_⟩;refine rg ?_;conv=>whnf)
  refine⟨hd.1,hd.2,?_⟩
  conv=>whnf
  refine⟨E,hd.2,l2,E,E,?_⟩
  conv=>whnf
  exact A6 E .nil [] (Cp n (Ahq m dom l2) d) (fun _ h=>h) E E ⟨Y,⟨.inl E,E,.inl E,E,.inl E,E,.inl E,E,Y⟩,E,E⟩
theorem Abd (n:Net) (m:MacM) (d:Bool) (dom at_:Int) (hl:Em (queueL m dom)) :
  Sy.Spec Tryz.prog 116 [.ptr 0 0,Aa dom,Aa at_] (Cp n m d) (.tup [Bg (takeM m dom at_).2.1,Ab (takeM m dom at_).2.2]) (Cp n (takeM m dom at_).1 d):=cT F116 Tryz.ntmps116 fun F hF=>by
 have hqb:=Km hl
 have hp:=V5 _ at_ hqb.1 hqb.2
 have h1:=Agb n m d dom
 have hpl:=placeB_iff (d:=dom) (k:=m.queues.length)
 have hres:=takeM.eq_1 m dom at_
 generalize takeM m dom at_=res at *
 generalize Ag dom m.queues.length=b at *
 have hq0:=queueL.eq_1 m dom
 clear hl hqb
 generalize queueL m dom=l at *
 generalize takeT l at_=r at *
 obtain ⟨q,l2,ok⟩:=r
 conv=>whnf
 refine Ad (Af [] E F119 h1 E ⟨E,E,E,E,Y⟩ E ⟨.inl E,.inl E,.inl E,.inl E,Y⟩) E E ?_
 refine oO ?_
 cases b
 ·rw[if_pos rfl]at hres
  subst hres
  (refine⟨fun _=>?_,fun h=>False.elim (absurd h qx)⟩;refine rg ?_;conv=>whnf)
  refine A8 6 [Aa 0,Aa 0,Aa 0,A5 0,A5 0,Aa 0,.sl 1 Ae []] E (.cons (.refl _) (.cons (.refl _) (.cons (.refl _) (.cons (.refl _) (.cons (.refl _) (.cons (.refl _) (.cons .nil .nil))))))) ?_
  exact done E (.cons (.cell E E E E) (.cons .tmp .nil)) [] (Cp n m d) (fun _ h=>h) E E ⟨Y,⟨.inl E,E,.inl E,E,.inl E,E,.inl E,E,Y⟩,E,E⟩
 have hd:=hpl.1 rfl
 rw[U7 hd.2]at hq0
 subst hq0
 rw[if_neg qy]at hres
 subst hres
 (refine⟨fun h=>False.elim (absurd h qx),fun _=>?_⟩;refine rg ?_;conv=>whnf)
 refine⟨hd.1,hd.2,?_⟩
 conv=>whnf
 refine⟨E,hd.2,?_⟩
 conv=>whnf
 refine c0 hp F120 ?_
 refine oO ?_
 refine⟨hd.1,hd.2,?_⟩
 conv=>whnf
 refine⟨E,hd.2,l2,E,E,?_⟩
 conv=>whnf
 exact done E (.cons (.cell E E E E) (.cons .tmp .nil)) [] (Cp n (Ahq m dom l2) d) (fun _ h=>h) E E ⟨Y,⟨.inl E,E,.inl E,E,.inl E,E,.inl E,E,Y⟩,E,E⟩
theorem Aeb (n:Net) (hn:n.Fin) (m:MacM) (d:Bool) (J D:Int) (hm0:MacOK n m J D) (hJ:J<1000000000000) (hD:D≤1000000000000) (port:Int) (b:List UInt8) (hb:b.length<100000) :
  Sy.Spec Tryz.prog 114 [.ptr 0 0,Aa port,.sl 1 Ae b] (Cp n m d) (.tup []) (Cp n (injectT n m port b) d):=cT F114 Tryz.ntmps114 fun F hF=>by
 have hres:=injectT.eq_1 n m port b
 generalize injectT n m port b=res at *
 have hpl:=placeB_iff (d:=port) (k:=n.ports.length)
 have hinj:=hm0.inj
 have hok:MacOK n ⟨m.up,m.tables,m.queues,m.now,m.injected+1,m.drops⟩ (J+1) D:=⟨hm0.up,hm0.tabs,hm0.ques,hm0.tab,hm0.que,hm0.now,⟨by dsimp only;omega,by dsimp only;omega⟩,hm0.drp⟩
 have hdr:Mw ⟨m.up,m.tables,m.queues,m.now,m.injected+1,m.drops⟩:=fun i=>⟨(hm0.drp i).1,by have:=(hm0.drp i).2;dsimp only at *;omega⟩
 have he:=W0 n port b
 have hdom:=W1 (n:=n) (port:=port) (b:=b)
 have q1:=Ac6 n hn port b hb
 have hfr:=Tv n port b
 generalize enterT n port b=r at *
 have q2:=fun (hp:0≤port∧port.toNat<n.ports.length)=>Ql n ⟨m.up,m.tables,m.queues,m.now,m.injected+1,m.drops⟩ d r.1 ⟨port,0,m.injected+1,r.2.1⟩ r.2.2 ⟨he.1,by have:=he.2;omega⟩ (fun h=>by
  have:=hdom h
  exact⟨this.1,by show r.1.toNat<m.queues.length;rw[hm0.ques];exact this.2⟩) hdr (D2 hok _) (Es hfr _ ⟨by omega,by have:=hn.ports;unfold Aj at this;omega⟩ qx)
 conv=>whnf
 refine⟨fun h=>?_,fun h=>?_⟩
 ·have h:=of_decide_eq_true h
  rw[if_pos (.inl (by cases hx:Ag port n.ports.length;rfl;exact absurd (hpl.1 hx) qn))]at hres
  subst hres
  (refine oT ?_;refine bT ?_)
  (skip)
  exact done E .nil [] (Cp n res d) (fun _ h=>h) E E ⟨Y,⟨.inl E,E,.inl E,E,.inl E,E,.inl E,E,Y⟩,E,E⟩
 have h0:=of_decide_eq_false h
 clear h
 refine oO ?_
 refine⟨fun h=>?_,fun h=>?_⟩
 ·have h:=of_decide_eq_true h
  rw[if_pos (.inl (by cases hx:Ag port n.ports.length;rfl;exact absurd (hpl.1 hx) qn))]at hres
  subst hres
  refine oT ?_
  (skip)
  exact done E .nil [] (Cp n res d) (fun _ h=>h) E E ⟨Y,⟨.inl E,E,.inl E,E,.inl E,E,.inl E,E,Y⟩,E,E⟩
 have h1:=of_decide_eq_false h
 clear h
 have hp:0≤port∧port.toNat<n.ports.length:=by omega
 rw[hpl.2 hp,Ai hp.2]at hres
 obtain ⟨p,hpp⟩:∃ p,n.ports[port.toNat]'hp.2=p:=⟨_,rfl⟩
 rw[hpp]at hres
 refine oO ?_
 refine⟨E,hp.1,hp.2,?_⟩
 rw[hpp]
 conv=>whnf
 refine⟨fun h=>?_,fun h=>?_⟩
 ·have h:=of_decide_eq_true h
  rw[if_pos (.inr h)]at hres
  subst hres
  refine oO ?_
  exact done E .nil [] (Cp n res d) (fun _ h=>h) E E ⟨Y,⟨.inl E,E,.inl E,E,.inl E,E,.inl E,E,Y⟩,E,E⟩
 have h2:=of_decide_eq_false h
 clear h
 rw[if_neg (by simp;omega)]at hres
 subst hres
 refine oO ?_
 refine iW ?_
 refine c0 q1 F172 ?_
 refine oO ?_
 refine Bk (Af [] E F173 (q2 hp) E ⟨E,E,E,E,Y⟩ E ⟨.inl E,.inl E,.inl E,.inl E,Y⟩) qq E ?_
 refine oD ?_
 refine kW ?_
 refine A6 E .nil [] (Cp n (comeM _ _ _ _) d) (fun _ h=>h) E E ⟨Y,⟨.inl E,E,.inl E,E,.inl E,E,.inl E,E,Y⟩,E,E⟩
theorem Vq (n:Net) (hn:n.Fin) (m:MacM) (d:Bool) (J D:Int) (hm0:MacOK n m J D) (hD:D≤1000000000000) (o:OutM) (ho:OutOK n o) (origin:Int) :
  Sy.Spec Tryz.prog 177 [.ptr 0 0,Dn o,Aa origin] (Cp n m d) (.sl 3 Dj (goesM n m o origin).2) (Cp n (goesM n m o origin).1 d):=cT F177 Tryz.ntmps177 fun F hF=>by
 have hres:=goesM.eq_1 n m o origin
 generalize goesM n m o origin=res at *
 have hdr:Mw m:=fun i=>⟨(hm0.drp i).1,by have:=(hm0.drp i).2;omega⟩
 have hbl:o.bytes.length<100000:=by have:=ho.bytes;omega
 have hin:∀ {x:Int},DomIn n x→0≤x∧x.toNat<m.queues.length:=fun h=>by rw[hm0.ques];exact h
 conv=>whnf
 refine⟨fun h=>?_,fun h=>?_⟩
 ·have h1:o.kind=1:=by simpa using h
  rw[if_pos h1]at hres
  subst hres
  refine oO ?_
  refine Iw 34 Dj [⟨o.port,origin,o.bytes⟩] E E ?_
  refine Aq 34 E ?_
  exact done E (.cons .tmp .nil) [] (Cp n m d) (fun _ h=>h) E E ⟨Y,⟨.inl E,E,.inl E,E,.inl E,E,.inl E,E,Y⟩,E,E⟩
 have h1:¬ o.kind=1:=by simpa using h
 rw[if_neg h1]at hres
 clear h
 refine oO ?_
 refine⟨fun h=>?_,fun h=>?_⟩
 ·have h2:o.kind=2:=by simpa using h
  rw[if_pos h2]at hres
  have q1:=Ae4 n hn o.port o.bytes hbl
  have he:=Ail n o.port o.bytes
  have hd:=fun h=>hin (Aim (n:=n) (port:=o.port) (b:=o.bytes) h)
  have hf:=Ach n o.port o.bytes
  have ht:=Acg hn o.port o.bytes
  generalize linkT n o.port o.bytes=r at *
  have q2:=Ql n m d r.2.1 ⟨r.1,0,origin,r.2.2.1⟩ r.2.2.2 he hd hdr (D2 hm0 _) (Es hf _ qn qx)
  subst hres
  refine oO ?_
  refine cD q1 F241 ?_
  refine oD ?_
  refine kW ?_
  refine kW ?_
  refine Ad (Af [] E F173 q2 E ⟨E,E,E,E,Y⟩ E ⟨.inl E,.inl E,.inl E,.inl E,Y⟩) E E ?_
  refine oO ?_
  refine Ak 6 3 Dj E ?_
  exact done E (.cons .tmp .nil) [] (Cp n (comeM _ _ _ _) d) (fun _ h=>h) E E ⟨Y,⟨.inl E,E,.inl E,E,.inl E,E,.inl E,E,Y⟩,E,E⟩
 have h2:¬ o.kind=2:=by simpa using h
 rw[if_neg h2]at hres
 clear h
 refine oO ?_
 refine⟨fun h=>?_,fun h=>?_⟩
 ·have h2:o.kind=3:=by simpa using h
  rw[if_pos h2]at hres
  have q1:=Ae5 n hn o.bytes hbl
  have he:=Ai9 n o.bytes
  have hd:=fun h=>hin (Y7 (n:=n) (b:=o.bytes) h).2
  have hf:=Adf n o.bytes
  have ht:=Xa hn o.bytes
  generalize comeT n o.bytes=r at *
  have q2:=Ql n m d r.2.1 ⟨-1,r.1,origin,r.2.2.1⟩ r.2.2.2 he hd hdr (D2 hm0 _) (Es hf _ qx ht)
  subst hres
  refine oO ?_
  refine cD q1 F242 ?_
  refine oD ?_
  refine kW ?_
  refine kW ?_
  refine Ad (Af [] E F173 q2 E ⟨E,E,E,E,Y⟩ E ⟨.inl E,.inl E,.inl E,.inl E,Y⟩) E E ?_
  refine oO ?_
  refine Ak 6 3 Dj E ?_
  exact done E (.cons .tmp .nil) [] (Cp n (comeM _ _ _ _) d) (fun _ h=>h) E E ⟨Y,⟨.inl E,E,.inl E,E,.inl E,E,.inl E,E,Y⟩,E,E⟩
 have h3:¬ o.kind=3:=by simpa using h
 rw[if_neg h3]at hres
 clear h
 refine oO ?_
 refine⟨fun h=>?_,fun h=>?_⟩
 ·have h4:o.kind=4:=by simpa using h
  rw[if_pos h4]at hres
  have hf:=ho.frame h4
  have q2:=Ql n m d o.domain ⟨-2,0,origin,o.frame⟩ 0 qx (fun _=>hin hf.2) hdr (D2 hm0 _) (Es hf.1 _ qx qx)
  subst hres
  refine oO ?_
  refine Ad (Af [] E F173 q2 E ⟨E,E,E,E,Y⟩ E ⟨.inl E,.inl E,.inl E,.inl E,Y⟩) E E ?_
  refine oO ?_
  refine Ak 6 3 Dj E ?_
  exact done E (.cons .tmp .nil) [] (Cp n (comeM _ _ _ _) d) (fun _ h=>h) E E ⟨Y,⟨.inl E,E,.inl E,E,.inl E,E,.inl E,E,Y⟩,E,E⟩
 have h4:¬ o.kind=4:=by simpa using h
 rw[if_neg h4]at hres
 have h5:o.kind=5:=by have:=ho.kind;omega
 have he:=ho.err h5
 have q2:=Adb n m d o.error he.1 he.2 (hdr _)
 subst hres
 clear h
 refine oO ?_
 refine Ad (Af [] E F176 q2 E ⟨E,E,E,E,Y⟩ E ⟨.inl E,.inl E,.inl E,.inl E,Y⟩) E E ?_
 refine oO ?_
 refine Ak 6 3 Dj E ?_
 exact done E (.cons .tmp .nil) [] (Cp n (B6 m o.error) d) (fun _ h=>h) E E ⟨Y,⟨.inl E,E,.inl E,E,.inl E,E,.inl E,E,Y⟩,E,E⟩
def Ab5 (up:List Bool) (dn lk:Int) (fw:List Bool):List SV:=[.sl 1 Ab up,.val (.int .u32 dn),.val (.int .i32 lk),.val (.int .u32 0),.sl 1 Ab fw]
def M2 (n:Net) (up:List Bool) (dn lk:Int) (fw:List Bool):Obs:=[(1,.box (Ab5 up dn lk fw)),(2,.box [.ptr 1 0]),(3,.box (Ak8 n))]
theorem Aig (n:Net) (hn:n.Fin) (up fw:List Bool) (dn lk:Int) :
  Sy.Spec Tryz.prog 239 [.ptr 3 0,.ptr 2 0] (M2 n up dn lk fw) (.tup []) (M2 n up dn lk (J4 n up)):=cT F239 Tryz.ntmps239 fun F hF=>by
 have hf:∃ e,Sy.Spec Tryz.prog 112 [Al n,.sl 1 Ab up] [] (.tup [.sl 1 Ab (J4 n up),Aa e]) []:=by
  unfold J4
  split
  ·rename_i h;exact⟨0,Yz n up hn h⟩
  ·rename_i h;exact⟨2,Wu n up hn (by simpa using h)⟩
 obtain ⟨e,hf⟩:=hf
 generalize J4 n up=r at *
 conv=>whnf
 refine cD hf F112 ?_
 refine oD ?_
 refine kW ?_
 exact A6 E .nil [] (M2 n up dn lk r) (fun _ h=>h) E E ⟨Y,⟨.inl E,E,.inl E,E,.inl E,E,Y⟩,E,E⟩
theorem Alg (a:Addr) (x:Int) (w:World) (hc:w.cell? a=some (.int .u32 x)):(callFunc 353 #[.pointer (some a)]).run Tryz.prog w=.ok (.value (.int .u32 x)) w :=
 run_call_load Tryz.func353 qq qq qq .u32 qq hc
theorem Yj (n:Net) (up fw:List Bool) (dn lk:Int):Sy.Spec Tryz.prog 305 [.ptr 1 1] (M2 n up dn lk fw) (Ab (dn != 0)) (M2 n up dn lk fw):=cT F305 Tryz.ntmps305 fun F hF=>by
 conv=>whnf
 refine Ad (X5 Alg E E E E) E E ?_
 refine oO ?_
 exact done E (.cons .tmp .nil) [] (M2 n up dn lk fw) (fun _ h=>h) E E ⟨Y,⟨.inl E,E,.inl E,E,.inl E,E,Y⟩,E,E⟩
theorem Qu (w:World):(callFunc 388 #[]).run Tryz.prog w=.ok (.value (.tuple #[])) w:=run_call_mark0 Tryz.func388 qq qq qq .disable qq w
theorem T9 (w:World):(callFunc 390 #[]).run Tryz.prog w=.ok (.value (.tuple #[])) w:=run_call_mark0 Tryz.func390 qq qq qq .enable qq w
theorem Zr (a:Addr) (w:World):(callFunc 391 #[.pointer (some a)]).run Tryz.prog w=.ok (.value (.tuple #[])) w:=run_call_marked Tryz.func391 qq qq qq .acquire qq a w
theorem Zq (a:Addr) (w:World):(callFunc 393 #[.pointer (some a)]).run Tryz.prog w=.ok (.value (.tuple #[])) w:=run_call_marked Tryz.func393 qq qq qq .releaseMerge qq a w
theorem Vn (a:Addr) (x:Value) (u:FrameMode) (w:World) (hc:w.cell? a=some x) (hz:w.frozen? a=false) :
  CallsD Tryz.prog 356 #[.pointer (some a),.bool true] u w fun e u' w'=>u'=u∧(e=.returned (.tuple #[])∧w'=w.drew.setCell a (.int .u32 1)):=by
 have hc':w.drew.cell? a=some x:=by go_simp
 have hz':w.drew.frozen? a=false:=by go_simp
 have hst:=run_call_store (P:=Tryz.prog) Tryz.func378 qq qq qq qq (k:=.u32) (y:=1) hc' hz'
 go_enter_d Tryz.func356,Tryz.ntmps356
 go_wp2
 go_region_calls
 all_goals (go_end0;exact⟨rfl,rfl⟩)
theorem Ut (a:Addr) (u:FrameMode) (w:World) (hc:w.cell? a=some (.int .i32 1)) (hz:w.frozen? a=false) :
  CallsD Tryz.prog 355 #[.pointer (some a)] u w fun e u' w'=>u'=u∧(e=.returned (.tuple #[])∧w'=w.setCell a (.int .i32 0)):=by
 have hd:=Qu
 have he:=T9
 have hr:=Zq
 have hadd:=run_call_add (P:=Tryz.prog) Tryz.func394 qq qq qq .i32 qq (y:=-1) (s:=0) hc hz (by simp[go_sem];rfl)
 have hcv:=run_convert_to_unsafe (P:=Tryz.prog) (src:=503) (dst:=507) Tryz.underlying503 Tryz.underlying507 qq hc
 go_enter_d Tryz.func355,Tryz.ntmps355
 go_wp2
 go_end0
 go_wp2
 go_end0
 exact⟨E,E⟩
theorem Aik (a:Addr) (w:World) (hc:w.cell? a=some (.int .i32 0)) (hz:w.frozen? a=false) :
  Calls Tryz.prog 354 #[.pointer (some a)] w fun e w'=>e=.returned (.tuple #[])∧w'=w.setCell a (.int .i32 1):=by
 have hd:=Qu
 have he:=T9
 have ha:=Zr
 have hcas:=run_call_cas_hit (P:=Tryz.prog) Tryz.func389 qq qq qq .i32 qq (y:=1) hc hz
 have hc':(w.setCell a (.int .i32 1)).cell? a=some (.int .i32 1):=World.cell?_setCell_same w a _ hc
 have hcv:=run_convert_to_unsafe (P:=Tryz.prog) (src:=503) (dst:=507) Tryz.underlying503 Tryz.underlying507 qq hc'
 go_enter Tryz.func354,Tryz.ntmps354
 go_wp2
 first | go_end0 | (simp only[Exit.inBlock,Exit.then];refine bodyPost_ret (results_none rfl _ _ _) rfl ?_) | refine bodyPost_ret (results_none rfl _ _ _) rfl ?_
 go_wp2
 go_end0
 exact⟨E,E⟩
end Go.Sy.YteinjapglfkamaaGreat
namespace Go.Sy.YteinjapglfkamaaGreat
open Go.Proofs
set_option maxRecDepth 100000
set_option maxHeartbeats 4000000
theorem Ctx.behind {K:Nat→Prop} {κ κ2:Ka} {w w1 w2:World} (s:Step K κ w κ w1) (c:Ctx ⟨w1,κ⟩ κ2 w2):Ctx ⟨w,κ⟩ κ2 w2 where
 size:=Nat.le_trans s.size c.size
 os:=c.os.trans s.os
 tape:=c.tape.trans s.tape
 output:=c.output.trans s.output
 M:=c.M
 old:=fun b hb h=>by
  refine(c.old b (Nat.lt_of_lt_of_le hb s.size) h).trans ?_
  by_cases hm:κ.M b
  ·exact s.mkeep b hm
  ·exact s.blk b hb (fun ho=>by
    rcases ho with ⟨k,hk⟩ | ho
    ·exact h k hk
    ·exact hm ho)
 own:=fun k b hk=>by
  rcases c.own k b hk with h | h
  ·exact .inl (Nat.le_trans s.size h)
  ·exact .inr h
 nam:=c.nam
theorem Ai6 {κ:Ka} {w:World} (hi:Inv κ w):Step (fun _=>False) κ w κ w.drew∧Inv κ w.drew:=by
 have g:=Grew.drew w
 exact⟨⟨g.size,g.os,g.tape,g.output,E,fun b _=>rfl,fun b _ _=>rfl,fun _ _ _ _=>rfl,fun _ _=>rfl,fun _ h=>h.elim,fun _ h=>.inl h⟩,⟨hi.inj,hi.bnd,hi.apart,hi.mbnd⟩⟩
theorem Aif (n:Net) (hn:n.Fin) (up fw:List Bool) :
  Sy.Spec Tryz.prog 306 [.ptr 1 1,.clo (.func 239) [] [.ptr 3 0,.ptr 2 0]] (M2 n up 0 0 fw) (.tup []) (M2 n up 1 0 (J4 n up)):=by
 intro κ w vs hi hnew hvs hok
 have o1:=hok (1,.box (Ab5 up 0 0 fw)) (by simp[M2])
 have o2:=hok (2,.box [.ptr 1 0]) (by simp[M2])
 have o3:=hok (3,.box (Ak8 n)) (by simp[M2])
 obtain ⟨b,e1,c1,c2,st1,inv1,ob1⟩:=Hp (off:=2) (x:=.val (.int .i32 1)) (v:=.int .i32 1) hi o1 rfl (fun _ _=>by simp only[Rd]) rfl
 obtain ⟨b2,_,_,_,e2,_⟩:=id o2
 obtain ⟨b3,_,_,_,e3,_⟩:=id o3
 simp only[RdL,Rd,e1,e2,e3]at hvs
 obtain ⟨v0,r0,rfl,rfl,v1,r1,rfl,⟨fs,cs,rfl,hfs,hcs⟩,rfl⟩:=hvs
 subst hfs
 obtain ⟨p3,q3,rfl,rfl,p2,q2,rfl,rfl,rfl⟩:=hcs
 have hcl:=Aig n hn up fw 0 1 κ (w.setCell ⟨b,2,none⟩ (.int .i32 1)) [.pointer (some ⟨b3,0,none⟩),.pointer (some ⟨b2,0,none⟩)] inv1 hnew (by simp only[RdL,Rd,e2,e3];exact⟨_,_,rfl,rfl,_,_,rfl,rfl,rfl⟩) (fun p hp=>by
  simp only[M2,List.mem_cons,List.not_mem_nil,or_false]at hp
  rcases hp with rfl | rfl | rfl
  ·exact ob1
  ·exact ObOK.step st1 (show ¬ (2:Nat)=1 by decide) _ o2
  ·exact ObOK.step st1 (show ¬ (3:Nat)=1 by decide) _ o3)
 obtain ⟨u1,hu1,hr1⟩:=c1 1 (.val (.int .u32 0)) rfl
 obtain ⟨u2,hu2,hr2⟩:=c1 2 (.val (.int .i32 0)) rfl
 rw[hr1.val]at hu1
 rw[hr2.val]at hu2
 have f1:=c2 1 (show 1<5 by decide)
 have f2:=c2 2 (show 2<5 by decide)
 have hl:=Alg ⟨b,1,none⟩ 0 (w.setCell ⟨b,2,none⟩ (.int .i32 1)) ((World.cell?_setCell_other _ ⟨b,2,none⟩ ⟨b,1,none⟩ _ qy).trans hu1)
 have hnot:∀ (x:Bool) (w:World),(Op.unary .not (.bool x)).run Tryz.prog w=.ok (.bool (!x)) w:=fun _ _=>rfl
 go_enter_defers Tryz.func306,Tryz.ntmps306
 go_wp2_with (first | (go_at_call 354;refine(Aik ⟨b,2,none⟩ _ (by assumption) (by assumption)).mono ?_;rintro e w' ⟨rfl,rfl⟩) | (go_at_call 239;refine hcl.mono ?_;rintro e w' ⟨v,κ2,rfl,hc2,hi2,hv2,ok2⟩) | (go_at_call 305;go_in))
 have p1:=ok2 (1,.box (Ab5 up 0 1 (J4 n up))) (by simp[M2])
 have k1:κ2 1=.blk b:=by
  obtain ⟨bb,_,_,_,q1,_⟩:=id p1
  rcases hc2.nam 1 (by rw[e1];intro h;cases h) with h | h
  ·rw[h];exact e1
  ·rw[h]at q1;cases q1
 obtain ⟨ba,a1,a2,a3,_,_,_⟩:=Hp (off:=1) (x:=.val (.int .u32 1)) (v:=.int .u32 1) hi2 p1 rfl (fun _ _=>by simp only[Rd]) rfl
 rw[k1]at a1
 cases a1
 obtain ⟨std,invd⟩:=Ai6 hi2
 have p2:=ObOK.step std (k:=1) (fun h=>h) _ p1
 obtain ⟨ba,a1,_,_,st3,inv3,ob3⟩:=Hp (off:=1) (x:=.val (.int .u32 1)) (v:=.int .u32 1) invd p2 rfl (fun _ _=>by simp only[Rd]) rfl
 rw[k1]at a1
 cases a1
 have ob3:ObOK κ2 (w'.drew.setCell ⟨b,1,none⟩ (.int .u32 1)) 1 (.box (Ab5 up 1 1 (J4 n up))):=ob3
 obtain ⟨ba,a1,a4,a5,st4,inv4,ob4⟩:=Hp (off:=2) (x:=.val (.int .i32 0)) (v:=.int .i32 0) inv3 ob3 rfl (fun _ _=>by simp only[Rd]) rfl
 rw[k1]at a1
 cases a1
 have ob4:ObOK κ2 ((w'.drew.setCell ⟨b,1,none⟩ (.int .u32 1)).setCell ⟨b,2,none⟩ (.int .i32 0)) 1 (.box (Ab5 up 1 0 (J4 n up))):=ob4
 obtain ⟨v1,hv1,hr1⟩:=a2 1 (.val (.int .u32 0)) rfl
 rw[hr1.val]at hv1
 obtain ⟨v2,hv2,hr2⟩:=a4 2 (.val (.int .i32 1)) rfl
 rw[hr2.val]at hv2
 refine leaves_cons (f:=356) (args:=#[.pointer (some ⟨b,1,none⟩),.bool true]) qy (by simp[go_sem]) ?_
 refine(Vn ⟨b,1,none⟩ (.int .u32 0) .returning _ hv1 (a3 1 (show 1<5 by decide))).mono ?_
 rintro e u' w'' ⟨rfl,rfl,rfl⟩
 refine leaves_cons (f:=355) (args:=#[.pointer (some ⟨b,2,none⟩)]) (by simp[settle]) (by simp[go_sem]) ?_
 refine(Ut ⟨b,2,none⟩ _ _ hv2 (a5 2 (show 2<5 by decide))).mono ?_
 rintro e u' w'' ⟨rfl,rfl,rfl⟩
 have hst:Step (·=1) κ2 w' κ2 ((w'.drew.setCell ⟨b,1,none⟩ (.int .u32 1)).setCell ⟨b,2,none⟩ (.int .i32 0)):=(std.weaken (fun _ h=>h.elim)).trans (st3.trans st4)
 refine⟨.tuple #[],by simp[results,Tryz.results306],.tuple #[],κ2,E,Ctx.behind st1 (hc2.step inv4 hst),inv4,⟨[],E,E⟩,fun p hp=>?_⟩
 simp only[M2,List.mem_cons,List.not_mem_nil,or_false]at hp
 rcases hp with rfl | rfl | rfl
 ·exact ob4
 ·exact ObOK.step hst (show ¬ (2:Nat)=1 by decide) _ (ok2 (2,.box [.ptr 1 0]) (by simp[M2]))
 ·exact ObOK.step hst (show ¬ (3:Nat)=1 by decide) _ (ok2 (3,.box (Ak8 n)) (by simp[M2]))
end Go.Sy.YteinjapglfkamaaGreat
namespace Go.Sy.YteinjapglfkamaaGreat
open Go.Proofs
attribute [local irreducible] Go.Sy.G Go.Sy.DR
set_option maxRecDepth 100000
set_option maxHeartbeats 4000000
def Sx (n:Net) (up:List Bool) (d:Bool):Obs:=[(1,.box (Hj n up d)),(2,.box [.ptr 1 0]),(3,.box (Ak8 n))]
theorem Ann (n:Net) (hn:n.Fin) (up:List Bool) :
  Sy.Spec Tryz.prog 238 [.ptr 1 1,.clo (.func 239) [] [.ptr 3 0,.ptr 2 0]] (Sx n up false) (.tup []) (Sx n up true):=cT F238 Tryz.ntmps238 fun F hF=>by
 have q1:Sy.Spec Tryz.prog 305 [.ptr 1 1] (Sx n up false) (Ab false) (Sx n up false):=Yj n up [] 0 0
 have q2:Sy.Spec Tryz.prog 306 [.ptr 1 1,.clo (.func 239) [] [.ptr 3 0,.ptr 2 0]] (Sx n up false) (.tup []) (Sx n up true):=Aif n hn up []
 conv=>whnf
 refine Ad (Af [] E F305 q1 E ⟨E,E,E,Y⟩ E ⟨.inl E,.inl E,.inl E,Y⟩) E E ?_
 refine oT ?_
 refine Ad (Af [] E F306 q2 E ⟨E,E,E,Y⟩ E ⟨.inl E,.inl E,.inl E,Y⟩) E E ?_
 refine oO ?_
 exact A6 E .nil [] (Sx n up true) (fun _ h=>h) E E ⟨Y,⟨.inl E,E,.inl E,E,.inl E,E,Y⟩,E,E⟩
theorem Anm (n:Net) (up:List Bool) :
  Sy.Spec Tryz.prog 238 [.ptr 1 1,.clo (.func 239) [] [.ptr 3 0,.ptr 2 0]] (Sx n up true) (.tup []) (Sx n up true):=cT F238 Tryz.ntmps238 fun F hF=>by
 have q1:Sy.Spec Tryz.prog 305 [.ptr 1 1] (Sx n up true) (Ab true) (Sx n up true):=Yj n up (J4 n up) 1 0
 conv=>whnf
 refine Ad (Af [] E F305 q1 E ⟨E,E,E,Y⟩ E ⟨.inl E,.inl E,.inl E,Y⟩) E E ?_
 refine oF ?_
 exact A6 E .nil [] (Sx n up true) (fun _ h=>h) E E ⟨Y,⟨.inl E,E,.inl E,E,.inl E,E,Y⟩,E,E⟩
theorem Anl (n:Net) (hn:n.Fin) (up:List Bool) (d:Bool) :
  Sy.Spec Tryz.prog 238 [.ptr 1 1,.clo (.func 239) [] [.ptr 3 0,.ptr 2 0]] (Sx n up d) (.tup []) (Sx n up true):=by
 cases d
 ·exact Ann n hn up
 ·exact Anm n up
theorem Aho (n:Net) (hn:n.Fin) (up:List Bool) (d:Bool) :
  Sy.Spec Tryz.prog 175 [.ptr 1 0,Al n] [(1,.box (Hj n up d))] (.sl 1 Ab (J4 n up)) [(1,.box (Hj n up true))]:=cT F175 Tryz.ntmps175 fun F hF=>by
 conv=>whnf
 refine Ad (Af [] E F238 (Anl n hn up d) E ⟨E,E,E,Y⟩ E ⟨.inl E,.inl E,.inl E,Y⟩) E E ?_
 refine oO ?_
 exact done E (.cons .tmp .nil) [] [(1,.box (Hj n up true))] (fun _ h=>h) E E ⟨Y,⟨.inl E,E,Y⟩,E,E⟩
end Go.Sy.YteinjapglfkamaaGreat
namespace Go.Sy.YteinjapglfkamaaGreat
open Go.Proofs
theorem Uk {n:Net} {fw:List Bool} {t:List EntryM} {dom:Int} {q:QueuedM} {now:Int} (ht:TabOK t) (hq:QueuedOK q):TabOK (bridgeT n fw t dom q now).1:=by
 unfold bridgeT
 split
 ·exact Tl
 split
 ·split
  ·exact Mm ht hq now
  ·exact Mm ht hq now
 ·exact Mm ht hq now
theorem Ul {n:Net} (_hn:n.Fin) (hm0:n.Num) {fw:List Bool} {t:List EntryM} {dom:Int} {q:QueuedM} {now:Int} (hq:QueuedOK q):∀ o∈(bridgeT n fw t dom q now).2.1,OutOK n o:=by
 intro o ho
 unfold bridgeT at ho
 split at ho
 ·cases ho
 rename_i h0
 have hb:Ac n=true:=by
  cases hx:Ac n
  ·exact absurd (.inl (by unfold K3;rw[hx];simp)) h0
  ·rfl
 split at ho
 ·split at ho
  ·cases ho
  ·rename_i h1
   have h1:=Decidable.not_not.1 h1
   have hin:∀ (d:Int),(lookT n (routerT n dom q.frame.dst).1 d).2=true→0≤(lookT n (routerT n dom q.frame.dst).1 d).1∧(lookT n (routerT n dom q.frame.dst).1 d).1.toNat<n.irbs.length:=fun d h=>Lt h
   rw[List.mem_singleton.1 ho]
   exact⟨by dsimp only;omega,by simp,fun _=>⟨Ant n hm0 _ _ hin,Alo hin h1⟩,fun h=>by dsimp only at h;omega⟩
 ·rcases List.mem_append.1 ho with h | h
  ·obtain ⟨p,_,rfl⟩:=List.mem_map.1 h
   unfold Xv
   exact Acd (by dsimp only;split<;>omega) (Xx _ _ _ _ hq.frame) (Ae2 _ _ _ _)
  ·obtain ⟨p,_,rfl⟩:=List.mem_map.1 h
   unfold Zw
   exact Acd (by dsimp only;omega) (by have:=Zz n dom p q.frame;omega) (Aii _ _ _ _)
theorem Um {n:Net} (hn:n.Fin) (fw:List Bool) (t:List EntryM) (dom:Int) (q:QueuedM) (now:Int):(bridgeT n fw t dom q now).2.1.length<4294967296:=by
 unfold bridgeT
 split
 ·show (0:Nat)<4294967296;decide
 split
 ·split
  ·show (0:Nat)<4294967296;decide
  ·show (1:Nat)<4294967296;decide
 ·have:=W8 hn fw (learnQ t q now) dom q.from_ q.frame.dst
  simp only[List.length_append,List.length_map]
  omega
theorem Sm (n:Net) (origin:Int):∀ (a b:List OutM) (m:MacM),Bo n m origin (a++b)=((Bo n (Bo n m origin a).1 origin b).1,(Bo n m origin a).2++(Bo n (Bo n m origin a).1 origin b).2)
 | [],b,m=>by simp[Bo]
 | o::a,b,m=>by
  rw[List.cons_append,Bo,Bo,Sm n origin a b]
  simp
theorem O5 (n:Net) (m:MacM) (origin:Int) (l:List OutM) (j:Nat) (hj:j<l.length) :
  Bo n m origin (l.take (j+1))=((goesM n (Bo n m origin (l.take j)).1 l[j] origin).1,(Bo n m origin (l.take j)).2++(goesM n (Bo n m origin (l.take j)).1 l[j] origin).2):=by
 rw[List.take_succ_eq_append_getElem hj,Sm]
 simp[Bo]
theorem Mp (n:Net) (m:MacM) (o:OutM) (origin:Int):(goesM n m o origin).2.length≤1:=by
 unfold goesM
 split
 ·simp
 split
 ·simp
 split
 ·simp
 split<;>simp
theorem Mq (n:Net) (origin:Int):∀ (l:List OutM) (m:MacM),(Bo n m origin l).2.length≤l.length
 | [],m=>by simp[Bo]
 | o::l,m=>by
  rw[Bo]
  have h1:=Mq n origin l (goesM n m o origin).1
  have h2:=Mp n m o origin
  simp only[List.length_append,List.length_cons]
  omega
end Go.Sy.YteinjapglfkamaaGreat
namespace Go.Sy.YteinjapglfkamaaGreat
open Go.Proofs
attribute [local irreducible] Go.Sy.G Go.Sy.DR
set_option maxRecDepth 100000
set_option maxHeartbeats 4000000
theorem Abz {n:Net} {m:MacM} {J D:Int} (h:MacOK n m J D) (hD:0≤D) (dom:Int) {r:List EntryM × List OutM × Int} (hr:TabOK r.1):MacOK n (Qx m dom r) J (D+1):=by
 unfold Qx
 split
 ·exact L7 h hD 2
 split
 ·exact L7 (Age h dom hr) hD _
 ·exact(Age h dom hr).mono (Int.le_refl _) qn
def queL (q:QueuedM):List SV:=[Aa q.from_,Aa q.peer,Aa q.origin,A5 q.frame.dst,A5 q.frame.src,Aa q.frame.typ,.sl 1 Ae q.frame.body]
def Akx (n:Net) (m:MacM) (q:QueuedM) (l:List SeenM):Obs:=[(0,.box (Li n 1 m.now m.injected m.drops)),(1,.box (Hj n m.up true)),(2,.row 1 Jm m.tables),(3,.row 1 K4 m.queues),(7,.box (queL q)),(1000,.row 3 Dj l)]
theorem Akg (n:Net) (hn:n.Fin) (hm1:n.Num) (m:MacM) (d:Bool) (J D:Int) (hm0:MacOK n m J D) (hD0:0≤D) (hD:D≤900000000000) (dom at_:Int) :
  Sy.Spec Tryz.prog 115 [.ptr 0 0,Aa dom,Aa at_] (Cp n m d) (.sl 3 Dj (pickT n m dom at_).2) (Cp n (pickT n m dom at_).1 (if (takeM m dom at_).2.2 then true else d)):=cT F115 Tryz.ntmps115 fun F hF=>by
 have hres:=pickT.eq_1 n m dom at_
 generalize pickT n m dom at_=res at *
 have q1:=Abd n m d dom at_ (D2 hm0 dom)
 have hok:=Vl hm0 dom at_
 have hpl:(takeM m dom at_).2.2=true→0≤dom∧dom.toNat<m.queues.length:=fun h=>by
  unfold takeM at h
  split at h
  ·cases h
  ·rename_i h2
   exact placeB_iff.1 (by cases hx:Ag dom m.queues.length;exact absurd hx h2;rfl)
 have htl:(takeM m dom at_).1.tables=m.tables:=by unfold takeM;split<;>rfl
 generalize takeM m dom at_=r at *
 obtain ⟨m1,q,ok⟩:=r
 have htq:m.queues.length=m.tables.length:=by rw[hm0.ques,hm0.tabs]
 conv=>whnf
 refine Ad (Af [] E F116 q1 E ⟨E,E,E,E,Y⟩ E ⟨.inl E,.inl E,.inl E,.inl E,Y⟩) E E ?_
 refine oO ?_
 cases ok
 ·rw[if_pos rfl]at hres
  subst hres
  (refine⟨fun _=>?_,fun h=>False.elim (by simp at h)⟩;refine rg ?_;conv=>whnf)
  refine Ak 6 3 Dj E ?_
  exact done E (.cons .tmp .nil) [] (Cp n m1 d) (fun _ h=>h) E E ⟨Y,⟨.inl E,E,.inl E,E,.inl E,E,.inl E,E,Y⟩,E,E⟩
 rw[if_neg qy]at hres
 have hd:=hpl rfl
 have hd2:0≤dom∧dom.toNat<m1.tables.length:=by rw[htl,← htq];exact hd
 dsimp only at hres hok
 have q2:=Aho n hn m1.up d
 have q3:=Adm n hn hm1 (J4 n m1.up) (tableL m1 dom) dom q m1.now (Td hok.1 dom) hok.2
 have hb1:=Uk (n:=n) (fw:=J4 n m1.up) (dom:=dom) (now:=m1.now) (Td hok.1 dom) hok.2
 have hb2:=Ul (fw:=J4 n m1.up) (t:=tableL m1 dom) (dom:=dom) (now:=m1.now) hn hm1 hok.2
 have hb3:=Um hn (J4 n m1.up) (tableL m1 dom) dom q m1.now
 have hb4:=Adl n (J4 n m1.up) (tableL m1 dom) dom q m1.now
 rw[Ab0]at hres
 have hz:=Abz hok.1 hD0 dom hb1
 generalize bridgeT n (J4 n m1.up) (tableL m1 dom) dom q m1.now=b at *
 obtain ⟨t,out,e⟩:=b
 have hb2:∀ o∈out,OutOK n o:=hb2
 have hb3:out.length<4294967296:=hb3
 have hb4:Bj e:=hb4
 have ht0:=tableL.eq_1 m1 dom
 rw[U7 hd2.2]at ht0
 generalize tableL m1 dom=t0 at *
 subst ht0
 (refine⟨fun h=>False.elim (by simp at h),fun _=>?_⟩;refine rg ?_;conv=>whnf)
 refine Bk (Af [] E F175 q2 E ⟨E,Y⟩ E ⟨.inl E,Y⟩) qq E ?_
 refine oD ?_
 refine⟨hd2.1,hd2.2,?_⟩
 conv=>whnf
 refine⟨E,hd2.2,?_⟩
 conv=>whnf
 refine cD q3 F174 ?_
 refine oD ?_
 refine kW ?_
 refine⟨fun h=>?_,fun h=>?_⟩
 ·have h2:¬ e=2:=by simpa using h
  clear h
  refine oO ?_
  refine⟨hd2.1,hd2.2,?_⟩
  conv=>whnf
  refine⟨E,hd2.2,t,E,E,?_⟩
  conv=>whnf
  refine⟨fun h=>?_,fun h=>?_⟩
  ·have h3:¬ e=0:=by simpa using h
   clear h
   have hpd:Qx m1 dom (t,out,e)=B6 (D7 m1 dom t) e:=by
    unfold Qx
    rw[if_neg h2,if_pos h3]
   rw[hpd]at hres hz
   subst hres
   have q4:=Adb n (D7 m1 dom t) true e hb4.1 hb4.2 ⟨(hok.1.drp _).1,by have:=(hok.1.drp e.toNat).2;show m1.drops e.toNat≤1000000000000;omega⟩
   refine oO ?_
   refine Ad (Af [] E F176 q4 E ⟨E,E,E,E,Y⟩ E ⟨.inl E,.inl E,.inl E,.inl E,Y⟩) E E ?_
   refine oO ?_
   have hdr:Mw (B6 (D7 m1 dom t) e):=fun i=>⟨(hz.drp i).1,by have:=(hz.drp i).2;omega⟩
   refine Cc 12 1000 3 Dj E E ?_
   refine Az out.length (fun j=>[(0,.ptr 0 0),(7,.ptr 7 0),(12,.osl 1000),(69,.sl 9 Dn out),(70,Aa out.length),(71,Aa j)]) (fun j=>Akx n (Bo n (B6 (D7 m1 dom t) e) q.origin (out.take j)).1 q (Bo n (B6 (D7 m1 dom t) e) q.origin (out.take j)).2) [] ⟨⟨E,E,E,E,E,E,E,E,E,E,E,E,Y⟩,⟨.inl E,E,.inl E,E,.inl E,E,.inl E,E,.inl E,E,.inl E,E,Y⟩,E,E⟩ ?_
   intro j hj
   refine oO ?_
   refine⟨fun h=>?_,fun h=>?_⟩
   ·have hlt:j<out.length:=qA h
    have hj0:((j:Nat):Int).toNat<out.length:=by simpa using hlt
    obtain ⟨o,hoo⟩:∃ o,out[j]=o:=⟨_,rfl⟩
    have e1:out[((j:Nat):Int).toNat]'hj0=o:=hoo
    have hs:=O5 n (B6 (D7 m1 dom t) e) q.origin out j hlt
    rw[hoo]at hs
    have hjo:=L3 hn q.origin (out.take j) hz qn (fun x hx=>hb2 x (List.mem_of_mem_take hx))
    have hlen:(out.take j).length=j:=by rw[List.length_take];omega
    rw[hlen]at hjo
    have hsl:=Mq n q.origin (out.take j) (B6 (D7 m1 dom t) e)
    rw[hlen]at hsl
    have q5:=Vq n hn (Bo n (B6 (D7 m1 dom t) e) q.origin (out.take j)).1 true J _ hjo qn o (hb2 o (by rw[← hoo];exact List.getElem_mem hlt)) q.origin
    have hfw:=Mp n (Bo n (B6 (D7 m1 dom t) e) q.origin (out.take j)).1 o q.origin
    clear h
    refine oO ?_
    refine⟨E,by omega,hj0,?_⟩
    rw[e1]
    conv=>whnf
    refine Ad (Af [] E F177 q5 E ⟨E,E,E,E,Y⟩ E ⟨.inl E,.inl E,.inl E,.inl E,Y⟩) E E ?_
    refine oO ?_
    refine Ad (Ah Γ.toTy 81 E E E E E (.row E) .sl qy qn qn) E E ?_
    refine oO ?_
    refine iW ?_
    have g1:(Bo n (B6 (D7 m1 dom t) e) q.origin (out.take (j+1))).1=(goesM n (Bo n (B6 (D7 m1 dom t) e) q.origin (out.take j)).1 o q.origin).1:=by rw[hs]
    have g2:(Bo n (B6 (D7 m1 dom t) e) q.origin (out.take (j+1))).2=(Bo n (B6 (D7 m1 dom t) e) q.origin (out.take j)).2++(goesM n (Bo n (B6 (D7 m1 dom t) e) q.origin (out.take j)).1 o q.origin).2:=by rw[hs]
    refine Ar [(1000,81)] hlt ⟨⟨E,E,E,E,E,E,E,E,E,E,E,E,Y⟩,?_,E,E⟩
    dsimp only
    rw[g1,g2]
    exact⟨.inl E,E,.inl E,E,.inl E,E,.inl E,E,.inl E,E,.inl E,E,Y⟩
   ·have hjj:j=out.length:=qB h
    subst hjj
    rw[List.take_length]
    clear h
    refine oO ?_
    refine Aq 1000 E ?_
    exact done E (.cons .tmp .nil) [] (Cp n (Bo n (B6 (D7 m1 dom t) e) q.origin out).1 true) (fun _ h=>h) E E ⟨Y,⟨.inl E,E,.inl E,E,.inl E,E,.inl E,E,Y⟩,E,E⟩
  ·have h3:e=0:=by simpa using h
   clear h
   have hpd:Qx m1 dom (t,out,e)=D7 m1 dom t:=by
    unfold Qx
    rw[if_neg h2,if_neg (fun h=>h h3)]
   rw[hpd]at hres hz
   subst hres
   refine oO ?_
   have hdr:Mw (D7 m1 dom t):=fun i=>⟨(hz.drp i).1,by have:=(hz.drp i).2;omega⟩
   refine Cc 12 1000 3 Dj E E ?_
   refine Az out.length (fun j=>[(0,.ptr 0 0),(7,.ptr 7 0),(12,.osl 1000),(69,.sl 9 Dn out),(70,Aa out.length),(71,Aa j)]) (fun j=>Akx n (Bo n (D7 m1 dom t) q.origin (out.take j)).1 q (Bo n (D7 m1 dom t) q.origin (out.take j)).2) [] ⟨⟨E,E,E,E,E,E,E,E,E,E,E,E,Y⟩,⟨.inl E,E,.inl E,E,.inl E,E,.inl E,E,.inl E,E,.inl E,E,Y⟩,E,E⟩ ?_
   intro j hj
   refine oO ?_
   refine⟨fun h=>?_,fun h=>?_⟩
   ·have hlt:j<out.length:=qA h
    have hj0:((j:Nat):Int).toNat<out.length:=by simpa using hlt
    obtain ⟨o,hoo⟩:∃ o,out[j]=o:=⟨_,rfl⟩
    have e1:out[((j:Nat):Int).toNat]'hj0=o:=hoo
    have hs:=O5 n (D7 m1 dom t) q.origin out j hlt
    rw[hoo]at hs
    have hjo:=L3 hn q.origin (out.take j) hz qn (fun x hx=>hb2 x (List.mem_of_mem_take hx))
    have hlen:(out.take j).length=j:=by rw[List.length_take];omega
    rw[hlen]at hjo
    have hsl:=Mq n q.origin (out.take j) (D7 m1 dom t)
    rw[hlen]at hsl
    have q5:=Vq n hn (Bo n (D7 m1 dom t) q.origin (out.take j)).1 true J _ hjo qn o (hb2 o (by rw[← hoo];exact List.getElem_mem hlt)) q.origin
    have hfw:=Mp n (Bo n (D7 m1 dom t) q.origin (out.take j)).1 o q.origin
    clear h
    refine oO ?_
    refine⟨E,by omega,hj0,?_⟩
    rw[e1]
    conv=>whnf
    refine Ad (Af [] E F177 q5 E ⟨E,E,E,E,Y⟩ E ⟨.inl E,.inl E,.inl E,.inl E,Y⟩) E E ?_
    refine oO ?_
    refine Ad (Ah Γ.toTy 81 E E E E E (.row E) .sl qy qn qn) E E ?_
    refine oO ?_
    refine iW ?_
    have g1:(Bo n (D7 m1 dom t) q.origin (out.take (j+1))).1=(goesM n (Bo n (D7 m1 dom t) q.origin (out.take j)).1 o q.origin).1:=by rw[hs]
    have g2:(Bo n (D7 m1 dom t) q.origin (out.take (j+1))).2=(Bo n (D7 m1 dom t) q.origin (out.take j)).2++(goesM n (Bo n (D7 m1 dom t) q.origin (out.take j)).1 o q.origin).2:=by rw[hs]
    refine Ar [(1000,81)] hlt ⟨⟨E,E,E,E,E,E,E,E,E,E,E,E,Y⟩,?_,E,E⟩
    dsimp only
    rw[g1,g2]
    exact⟨.inl E,E,.inl E,E,.inl E,E,.inl E,E,.inl E,E,.inl E,E,Y⟩
   ·have hjj:j=out.length:=qB h
    subst hjj
    rw[List.take_length]
    clear h
    refine oO ?_
    refine Aq 1000 E ?_
    exact done E (.cons .tmp .nil) [] (Cp n (Bo n (D7 m1 dom t) q.origin out).1 true) (fun _ h=>h) E E ⟨Y,⟨.inl E,E,.inl E,E,.inl E,E,.inl E,E,Y⟩,E,E⟩
 ·have h2:e=2:=by simpa using h
  clear h
  subst h2
  have hpd:Qx m1 dom (t,out,2)=B6 m1 2:=by
   unfold Qx
   rw[if_pos rfl]
  rw[hpd]at hres hz
  subst hres
  have q4:=Adb n m1 true 2 qx qx ⟨(hok.1.drp _).1,by have:=(hok.1.drp (Int.toNat 2)).2;omega⟩
  refine oT ?_
  refine Ad (Af [] E F176 q4 E ⟨E,E,E,E,Y⟩ E ⟨.inl E,.inl E,.inl E,.inl E,Y⟩) E E ?_
  refine oO ?_
  have hdr:Mw (B6 m1 2):=fun i=>⟨(hz.drp i).1,by have:=(hz.drp i).2;omega⟩
  refine Cc 12 1000 3 Dj E E ?_
  refine Az out.length (fun j=>[(0,.ptr 0 0),(7,.ptr 7 0),(12,.osl 1000),(69,.sl 9 Dn out),(70,Aa out.length),(71,Aa j)]) (fun j=>Akx n (Bo n (B6 m1 2) q.origin (out.take j)).1 q (Bo n (B6 m1 2) q.origin (out.take j)).2) [] ⟨⟨E,E,E,E,E,E,E,E,E,E,E,E,Y⟩,⟨.inl E,E,.inl E,E,.inl E,E,.inl E,E,.inl E,E,.inl E,E,Y⟩,E,E⟩ ?_
  intro j hj
  refine oO ?_
  refine⟨fun h=>?_,fun h=>?_⟩
  ·have hlt:j<out.length:=qA h
   have hj0:((j:Nat):Int).toNat<out.length:=by simpa using hlt
   obtain ⟨o,hoo⟩:∃ o,out[j]=o:=⟨_,rfl⟩
   have e1:out[((j:Nat):Int).toNat]'hj0=o:=hoo
   have hs:=O5 n (B6 m1 2) q.origin out j hlt
   rw[hoo]at hs
   have hjo:=L3 hn q.origin (out.take j) hz qn (fun x hx=>hb2 x (List.mem_of_mem_take hx))
   have hlen:(out.take j).length=j:=by rw[List.length_take];omega
   rw[hlen]at hjo
   have hsl:=Mq n q.origin (out.take j) (B6 m1 2)
   rw[hlen]at hsl
   have q5:=Vq n hn (Bo n (B6 m1 2) q.origin (out.take j)).1 true J _ hjo qn o (hb2 o (by rw[← hoo];exact List.getElem_mem hlt)) q.origin
   have hfw:=Mp n (Bo n (B6 m1 2) q.origin (out.take j)).1 o q.origin
   clear h
   refine oO ?_
   refine⟨E,by omega,hj0,?_⟩
   rw[e1]
   conv=>whnf
   refine Ad (Af [] E F177 q5 E ⟨E,E,E,E,Y⟩ E ⟨.inl E,.inl E,.inl E,.inl E,Y⟩) E E ?_
   refine oO ?_
   refine Ad (Ah Γ.toTy 81 E E E E E (.row E) .sl qy qn qn) E E ?_
   refine oO ?_
   refine iW ?_
   have g1:(Bo n (B6 m1 2) q.origin (out.take (j+1))).1=(goesM n (Bo n (B6 m1 2) q.origin (out.take j)).1 o q.origin).1:=by rw[hs]
   have g2:(Bo n (B6 m1 2) q.origin (out.take (j+1))).2=(Bo n (B6 m1 2) q.origin (out.take j)).2++(goesM n (Bo n (B6 m1 2) q.origin (out.take j)).1 o q.origin).2:=by rw[hs]
   refine Ar [(1000,81)] hlt ⟨⟨E,E,E,E,E,E,E,E,E,E,E,E,Y⟩,?_,E,E⟩
   dsimp only
   rw[g1,g2]
   exact⟨.inl E,E,.inl E,E,.inl E,E,.inl E,E,.inl E,E,.inl E,E,Y⟩
  ·have hjj:j=out.length:=qB h
   subst hjj
   rw[List.take_length]
   clear h
   refine oO ?_
   refine Aq 1000 E ?_
   exact done E (.cons .tmp .nil) [] (Cp n (Bo n (B6 m1 2) q.origin out).1 true) (fun _ h=>h) E E ⟨Y,⟨.inl E,E,.inl E,E,.inl E,E,.inl E,E,Y⟩,E,E⟩
theorem Ahd (l:List (List EntryM)) (now:Int) (j:Nat) (hj:j<l.length) :
  ((l.take j).map (fun t=>ageT t now)++l.drop j).set j (ageT l[j] now)=(l.take (j+1)).map (fun t=>ageT t now)++l.drop (j+1):=by
 apply List.ext_getElem
 ·simp only[List.length_set,List.length_append,List.length_map,List.length_take,List.length_drop];omega
 intro i h1 h2
 simp only[List.length_set,List.length_append,List.length_map,List.length_take,List.length_drop]at h1
 rw[List.getElem_set]
 by_cases hi:j=i
 ·subst hi
  rw[if_pos rfl,List.getElem_append_left (by simp;omega)]
  simp
 ·rw[if_neg hi]
  by_cases hlt:i<j
  ·rw[List.getElem_append_left (by simp;omega),List.getElem_append_left (by simp;omega)]
   simp
  ·rw[List.getElem_append_right (by simp;omega),List.getElem_append_right (by simp;omega)]
   simp only[List.getElem_drop,List.length_map,List.length_take]
   congr 1
   omega
theorem Aiw {P:Program} {o:Oper} {s:SS} {x y:Operand} {at_:Array TypeId} {k k':IntKind} {m n r:Int} (hr:(if n<m then n else m)=r) (h:o.op=.call ⟨.builtin .min,#[x,y],at_⟩)
  (hx:ev s x=.val (.int k m)) (hy:ev s y=.val (.int k' n)):Good P o s ⟨.val (.int k r),[],[]⟩:=by
 have:=Alu (P:=P) h hx hy
 rwa [hr]at this
def U2 (l:List (List EntryM)) (now:Int) (j:Nat):List (List EntryM):=(l.take j).map (fun t=>ageT t now)++l.drop j
theorem Amn (l:List (List EntryM)) (now:Int) (j:Nat) (hj:j<l.length) (h2:j<(U2 l now j).length):(U2 l now j)[j]=l[j]:=by
 have h:(U2 l now j)[j]? = l[j]?:=by
  unfold U2
  have hm:min j l.length=j:=by omega
  rw[List.getElem?_append_right (by simp;omega),List.getElem?_drop,List.length_map,List.length_take,hm,Nat.sub_self,Nat.add_zero]
 rw[List.getElem?_eq_getElem hj,List.getElem?_eq_getElem h2]at h
 exact Option.some.inj h
theorem Adv (l:List (List EntryM)) (now:Int) (j:Nat):(U2 l now j).length=l.length:=by
 unfold U2
 simp only[List.length_append,List.length_map,List.length_take,List.length_drop]
 omega
def tickO (n:Net) (m:MacM) (d:Bool) (now:Int) (j:Nat):Obs:=[(0,.box (Li n 1 now m.injected m.drops)),(1,.box (Hj n m.up d)),(2,.row 1 Jm (U2 m.tables now j)),(3,.row 1 K4 m.queues)]
theorem Akf (n:Net) (m:MacM) (d:Bool) (J D:Int) (hm0:MacOK n m J D) (hs:Aj n.domains) :
  Sy.Spec Tryz.prog 117 [.ptr 0 0] (Cp n m d) (.tup []) (Cp n (M5 m) d):=cT F117 Tryz.ntmps117 fun F hF=>by
 unfold Aj at hs
 have hnow:=hm0.now
 have htl:m.tables.length<2147483648:=by rw[hm0.tabs];exact hs
 have hto:=hm0.tab
 obtain ⟨nw,hnw⟩:∃ nw,(if 1099511627776<m.now+1 then 1099511627776 else m.now+1)=nw:=⟨_,rfl⟩
 have hti:M5 m=⟨m.up,U2 m.tables nw m.tables.length,m.queues,nw,m.injected,m.drops⟩:=by
  have:min (m.now+1) 1099511627776=nw:=by rw[← hnw];split<;>omega
  unfold M5 U2
  rw[this,List.take_length,List.drop_length,List.append_nil]
 rw[hti]
 conv=>whnf
 refine iW ?_
 refine Ad (Aiw hnw E E E) E E ?_
 refine oO ?_
 refine Az m.tables.length (fun j=>[(0,.ptr 0 0),(16,.osl 2),(17,Aa m.tables.length),(18,Aa j)]) (fun j=>tickO n m d nw j) [] ⟨⟨E,E,E,E,E,E,E,E,Y⟩,⟨.inl E,E,.inl E,E,.inl E,E,.inl E,E,Y⟩,E,E⟩ ?_
 intro j hj
 refine oO ?_
 refine⟨fun h=>?_,fun h=>?_⟩
 ·have hlt:j<m.tables.length:=qA h
  have hal:=Adv m.tables nw j
  have hj0:((j:Nat):Int).toNat<(U2 m.tables nw j).length:=by rw[hal];simpa using hlt
  obtain ⟨t,hoo⟩:∃ t,m.tables[j]=t:=⟨_,rfl⟩
  have e1:(U2 m.tables nw j)[((j:Nat):Int).toNat]'hj0=t:=(Amn m.tables nw j hlt (by rw[hal];exact hlt)).trans hoo
  have hs:=Ahd m.tables nw j hlt
  rw[hoo]at hs
  have ht:=hto t (by rw[← hoo];exact List.getElem_mem hlt)
  clear h
  refine oO ?_
  refine⟨by omega,hj0,?_⟩
  conv=>whnf
  refine⟨E,hj0,?_⟩
  rw[e1]
  conv=>whnf
  refine cD (Am4 t nw ht.short ht.mac) F178 ?_
  refine oD ?_
  refine⟨by omega,hj0,?_⟩
  conv=>whnf
  refine⟨E,hj0,ageT t nw,E,E,?_⟩
  conv=>whnf
  refine kW ?_
  refine iW ?_
  exact Ar [] hlt ⟨⟨E,E,E,E,E,E,E,E,Y⟩,⟨.inl E,E,.inl E,E,.inl (congrArg (Ob.row 1 Jm) hs.symm),E,.inl E,E,Y⟩,E,E⟩
 ·have hjj:j=m.tables.length:=qB h
  subst hjj
  clear h
  refine oO ?_
  exact A6 E .nil [] (Cp n ⟨m.up,U2 m.tables nw m.tables.length,m.queues,nw,m.injected,m.drops⟩ d) (fun _ h=>h) E E ⟨Y,⟨.inl E,E,.inl E,E,.inl E,E,.inl E,E,Y⟩,E,E⟩
def Abe (n:Net) (m:MacM) (d:Bool):Obs:=[(0,.box (Li n 4 m.now m.injected m.drops)),(1,.non),(2,.row 1 Jm m.tables),(3,.row 1 K4 m.queues),(4,.box (Hj n m.up d))]
def upT (m:MacM) (up:List Bool):MacM:=⟨up,m.tables,m.queues,m.now,m.injected,m.drops⟩
def doD (n:Net) (m:MacM) (d:Bool) (x:StepM):Bool :=
 if x.kind=1 then d else if x.kind=2 then (if (takeM m x.domain x.at_).2.2 then true else d) else if x.kind=3 then d else if x.kind=4 then d else if x.kind=5 then (if x.up.length=n.links.length then false else d) else d
theorem Akj (n:Net) (hn:n.Fin) (hm1:n.Num) (m:MacM) (d:Bool) (J D:Int) (hm0:MacOK n m J D) (hJ:J<900000000000) (hD0:0≤D) (hD:D≤900000000000) (x:StepM) (hb:x.bytes.length<100000) :
  Sy.Spec Tryz.prog 52 [.ptr 0 0,Du x] (Cp n m d) (.tup [.sl 3 Dj (doT n m x).2,Aa 0]) (Abe n (doT n m x).1 (doD n m d x)):=cT F52 Tryz.ntmps52 fun F hF=>by
 have hres:=doT.eq_1 n m x
 generalize doT n m x=res at *
 have hdd:=doD.eq_1 n m d x
 generalize doD n m d x=dd at *
 conv=>whnf
 refine Ad (Sl (d:=900) E E E) E E ?_
 refine oF ?_
 refine⟨fun h=>?_,fun h=>?_⟩
 ·have h1:x.kind=1:=by simpa using h
  rw[if_pos h1]at hres hdd
  subst hres
  subst hdd
  have q1:=Aeb n hn m dd J D hm0 qn qn x.port x.bytes hb
  refine oO ?_
  refine Ad (Af [] E F114 q1 E ⟨E,E,E,E,Y⟩ E ⟨.inl E,.inl E,.inl E,.inl E,Y⟩) E E ?_
  refine oO ?_
  refine Ak 4 3 Dj E ?_
  refine H8 1 4 E E qx ?_
  exact done E (.cons .tmp (.cons .tmp .nil)) [] (Abe n (injectT n m x.port x.bytes) dd) (fun _ h=>h) E E ⟨Y,⟨.inl E,E,.inl E,E,.inl E,E,.inl E,E,.inl E,E,Y⟩,E,E⟩
 have h1:¬ x.kind=1:=by simpa using h
 rw[if_neg h1]at hres hdd
 clear h
 refine oO ?_
 refine⟨fun h=>?_,fun h=>?_⟩
 ·have h1:x.kind=2:=by simpa using h
  rw[if_pos h1]at hres hdd
  subst hres
  have q1:=Akg n hn hm1 m d J D hm0 hD0 hD x.domain x.at_
  rw[← hdd]at q1
  refine oO ?_
  refine Ad (Af [] E F115 q1 E ⟨E,E,E,E,Y⟩ E ⟨.inl E,.inl E,.inl E,.inl E,Y⟩) E E ?_
  refine oO ?_
  refine H8 1 4 E E qx ?_
  exact done E (.cons .tmp (.cons .tmp .nil)) [] (Abe n (pickT n m x.domain x.at_).1 dd) (fun _ h=>h) E E ⟨Y,⟨.inl E,E,.inl E,E,.inl E,E,.inl E,E,.inl E,E,Y⟩,E,E⟩
 have h1:¬ x.kind=2:=by simpa using h
 rw[if_neg h1]at hres hdd
 clear h
 refine oO ?_
 refine⟨fun h=>?_,fun h=>?_⟩
 ·have h1:x.kind=3:=by simpa using h
  rw[if_pos h1]at hres hdd
  subst hres
  subst hdd
  have q1:=Abd n m dd x.domain x.at_ (D2 hm0 _)
  refine oO ?_
  refine Ad (Af [] E F116 q1 E ⟨E,E,E,E,Y⟩ E ⟨.inl E,.inl E,.inl E,.inl E,Y⟩) E E ?_
  refine oO ?_
  refine Ak 4 3 Dj E ?_
  refine H8 1 4 E E qx ?_
  exact done E (.cons .tmp (.cons .tmp .nil)) [] (Abe n (takeM m x.domain x.at_).1 dd) (fun _ h=>h) E E ⟨Y,⟨.inl E,E,.inl E,E,.inl E,E,.inl E,E,.inl E,E,Y⟩,E,E⟩
 have h1:¬ x.kind=3:=by simpa using h
 rw[if_neg h1]at hres hdd
 clear h
 refine oO ?_
 refine⟨fun h=>?_,fun h=>?_⟩
 ·have h1:x.kind=4:=by simpa using h
  rw[if_pos h1]at hres hdd
  subst hres
  subst hdd
  have q1:=Akf n m dd J D hm0 hn.domains
  refine oO ?_
  refine Ad (Af [] E F117 q1 E ⟨E,E,E,E,Y⟩ E ⟨.inl E,.inl E,.inl E,.inl E,Y⟩) E E ?_
  refine oO ?_
  refine Ak 4 3 Dj E ?_
  refine H8 1 4 E E qx ?_
  exact done E (.cons .tmp (.cons .tmp .nil)) [] (Abe n (M5 m) dd) (fun _ h=>h) E E ⟨Y,⟨.inl E,E,.inl E,E,.inl E,E,.inl E,E,.inl E,E,Y⟩,E,E⟩
 have h1:¬ x.kind=4:=by simpa using h
 rw[if_neg h1]at hres hdd
 clear h
 refine oO ?_
 refine⟨fun h=>?_,fun h=>?_⟩
 ·have h1:x.kind=5:=by simpa using h
  rw[if_pos h1]at hres hdd
  clear h
  refine oO ?_
  refine kW ?_
  refine⟨fun h=>?_,fun h=>?_⟩
  ·have h2:x.up.length=n.links.length:=qA h
   rw[if_pos h2]at hres hdd
   subst hres
   subst hdd
   clear h
   have hls:=hn.links
   unfold Aj at hls
   refine oO ?_
   refine c0 (Afw x.up qn) F118 ?_
   refine oO ?_
   refine Ak 4 3 Dj E ?_
   refine A8 55 (Hj n x.up false) E (.cons (.refl _) (.cons (.refl _) (.cons (.refl _) (.cons (.refl _) (.cons .nil .nil))))) ?_
   exact done E (.cons .tmp (.cons .tmp .nil)) [(4,55)] (Abe n (upT m x.up) false) (fun _ h=>h) E E ⟨Y,⟨.inl E,E,.inr E,E,.inl E,E,.inl E,E,.inl E,E,Y⟩,E,E⟩
  ·have h2:¬ x.up.length=n.links.length:=qB h
   rw[if_neg h2]at hres hdd
   subst hres
   subst hdd
   clear h
   refine oO ?_
   refine Ak 4 3 Dj E ?_
   refine H8 1 4 E E qx ?_
   exact done E (.cons .tmp (.cons .tmp .nil)) [] (Abe n m dd) (fun _ h=>h) E E ⟨Y,⟨.inl E,E,.inl E,E,.inl E,E,.inl E,E,.inl E,E,Y⟩,E,E⟩
 have h1:¬ x.kind=5:=by simpa using h
 rw[if_neg h1]at hres hdd
 subst hres
 subst hdd
 clear h
 refine oO ?_
 refine Ak 4 3 Dj E ?_
 refine H8 1 4 E E qx ?_
 exact done E (.cons .tmp (.cons .tmp .nil)) [] (Abe n m dd) (fun _ h=>h) E E ⟨Y,⟨.inl E,E,.inl E,E,.inl E,E,.inl E,E,.inl E,E,Y⟩,E,E⟩
theorem Aea (n:Net) (hn:n.Fin) (hb:okB n (List.replicate n.links.length true)=false) :
  Sy.Spec Tryz.prog 50 [Al n] [] (.tup [.val (.pointer none),Aa 2]) []:=cT F50 Tryz.ntmps50 fun F hF=>by
 have hls:=hn.links
 unfold Aj at hls
 have q1:=Agj n.links.length qn
 have q2:=Wu n (List.replicate n.links.length true) hn hb
 generalize List.replicate n.links.length true=up at *
 conv=>whnf
 refine Iw 7 Ab [true] E E ?_
 refine Aq 7 E ?_
 refine oO ?_
 refine c0 q1 F111 ?_
 refine oO ?_
 refine c0 q2 F112 ?_
 refine oT ?_
 exact dN
theorem Am7 (n:Net) (hn:n.Fin) (hb:okB n (List.replicate n.links.length true)=true) :
  Sy.Spec Tryz.prog 50 [Al n] [] (.tup [.ptr 0 0,Aa 0]) (Cp n (newT n) false):=cT F50 Tryz.ntmps50 fun F hF=>by
 have hls:=hn.links
 have hds:=hn.domains
 unfold Aj at hls hds
 have q1:=Agj n.links.length qn
 have q2:=Yz n (List.replicate n.links.length true) hn hb
 have hnt:=newT.eq_1 n
 generalize newT n=m at *
 generalize List.replicate n.links.length true=up at *
 conv=>whnf
 refine Iw 7 Ab [true] E E ?_
 refine Aq 7 E ?_
 refine oO ?_
 refine c0 q1 F111 ?_
 refine oO ?_
 refine c0 q2 F112 ?_
 refine oF ?_
 refine cD (copyS n hn) F113 ?_
 refine oD ?_
 refine Bk (Bh Γ.toTy (d:=28) (n:=n.domains.length) (fun _:Unit=>.val (.slice none 0 0)) () E E E E E E E E qn qn E E E) qq E ?_
 refine oD ?_
 refine Bk (Bh Γ.toTy (d:=32) (n:=n.domains.length) (fun _:Unit=>.val (.slice none 0 0)) () E E E E E E E E qn qn E E E) qq E ?_
 refine oD ?_
 refine⟨qq,?_⟩
 refine Adz 28 (e':=Jm) (l':=List.replicate n.domains.length []) E qy (fun M w i h1 h2 v hv=>?_) ?_
 ·rw[List.getElem_replicate]
  simp only[RdD]at hv
  exact Xl hv
 refine Adz 32 (e':=K4) (l':=List.replicate n.domains.length []) E qy (fun M w i h1 h2 v hv=>?_) ?_
 ·rw[List.getElem_replicate]
  simp only[RdD]at hv
  exact Xl hv
 refine A8 24 (Hj n up false) E (.cons (.refl _) (.cons (.refl _) (.cons (.refl _) (.cons (.refl _) (.cons .nil .nil))))) ?_
 refine oO ?_
 subst hnt
 exact done E (.cons .tmp (.cons .tmp .nil)) [(0,34),(1,24),(2,28),(3,32)] (Cp n ⟨up,List.replicate n.domains.length [],List.replicate n.domains.length [],0,0,fun _=>0⟩ false) (fun _ h=>h) E E ⟨Y,⟨.inl E,E,.inl E,E,.inl E,E,.inl E,E,Y⟩,E,E⟩
end Go.Sy.YteinjapglfkamaaGreat
namespace Go.Sy.YteinjapglfkamaaGreat
open Go.Proofs
def runF (n:Net) (s:MacM × Bool) (l:List StepM):MacM × Bool:=l.foldl (fun s x=>((doT n s.1 x).1,doD n s.1 s.2 x)) s
def runD (n:Net) (m:MacM) (d:Bool) (l:List StepM):Bool:=(runF n (m,d) l).2
theorem doT_ok {n:Net} (hn:n.Fin) (hm1:n.Num) {m:MacM} {J D:Int} (h:MacOK n m J D) (hJ:0≤J) (hD:0≤D) (x:StepM):MacOK n (doT n m x).1 (J+1) (D+4294967298):=by
 unfold doT
 split
 ·exact(Afd hn h hJ hD _ _).mono qn qn
 split
 ·have hok:=Vl h x.domain x.at_
  unfold pickT
  split
  ·exact hok.1.mono qn qn
  ·have hb:=Um hn (J4 n (takeM m x.domain x.at_).1.up) (tableL (takeM m x.domain x.at_).1 x.domain) x.domain (takeM m x.domain x.at_).2.1 (takeM m x.domain x.at_).1.now
   have h1:=Abz hok.1 hD x.domain (Uk (n:=n) (fw:=J4 n (takeM m x.domain x.at_).1.up) (dom:=x.domain) (now:=(takeM m x.domain x.at_).1.now) (Td hok.1 x.domain) hok.2)
   have h2:=L3 hn (takeM m x.domain x.at_).2.1.origin (Ab0 n (takeM m x.domain x.at_).1 x.domain (takeM m x.domain x.at_).2.1).2.1 h1 qn (Ul hn hm1 hok.2)
   refine h2.mono qn ?_
   unfold Ab0
   omega
 split
 ·exact(Vl h x.domain x.at_).1.mono qn qn
 split
 ·have h1:=h.now
  refine⟨h.up,by unfold M5;simp only[List.length_map];exact h.tabs,h.ques,fun t ht=>?_,h.que,?_,?_,fun i=>?_⟩
  ·unfold M5 at ht
   obtain ⟨t0,ht0,rfl⟩:=List.mem_map.1 ht
   exact Aob (h.tab t0 ht0) _
  ·unfold M5
   dsimp only
   omega
  ·have:=h.inj
   unfold M5
   dsimp only
   omega
  ·have:=h.drp i
   unfold M5
   dsimp only
   omega
 split
 ·split
  ·rename_i h2
   exact MacOK.mono (n:=n) (m:=⟨x.up,m.tables,m.queues,m.now,m.injected,m.drops⟩) ⟨h2,h.tabs,h.ques,h.tab,h.que,h.now,h.inj,h.drp⟩ qn qn
  ·exact h.mono qn qn
 ·exact h.mono qn qn
theorem Ago (n:Net):MacOK n (newT n) 0 0:=by
 refine⟨by simp[newT],by simp[newT],by simp[newT],fun t ht=>?_,fun l hl=>?_,by simp[newT],by simp[newT],fun i=>by simp[newT]⟩
 ·have:t=[]:=(List.mem_replicate.1 ht).2
  rw[this];exact Tl
 ·have:l=[]:=(List.mem_replicate.1 hl).2
  rw[this];exact Uc
def upsT (n:Net):List Bool:=List.replicate n.links.length true
attribute [local irreducible] Go.Sy.G Go.Sy.DR
set_option maxRecDepth 100000
set_option maxHeartbeats 4000000
end Go.Sy.YteinjapglfkamaaGreat
namespace Go.Sy.YteinjapglfkamaaGreat
open Go.Proofs
theorem Xi {P:Hop→Prop} {S:Srch} (h:∀ f∈S.list,P f.hop) (d k:Int) {x:Hop} (hx:P x) (a:Int):∀ f∈(meetT S d k x a).list,P f.hop:=by
 rw[meetT]
 split
 ·exact h
 ·rw[Ij]
  split<;>(intro f hf;rcases List.mem_append.1 hf with hf | hf;exact h f hf;rw[List.mem_singleton]at hf;subst hf;exact hx)
theorem Xj {P:Hop→Prop} {k i:Int}:∀ {l:List Hop} {S:Srch},(∀ f∈S.list,P f.hop)→(∀ h∈l,P h)→∀ f∈(ext1 S k i l).list,P f.hop
 | [],S,h,_=>h
 | x::l,S,h,hl=>Xj (l:=l) (Xi h x.domain k (hl x qy) i) (fun y hy=>hl y (by simp[hy]))
theorem Ads {P:Hop→Prop} {i:Int}:∀ {l:List Lead} {S:Srch},(∀ f∈S.list,P f.hop)→(∀ q∈l,P ⟨3,0,q.domain,q.addr⟩)→∀ f∈(ext2 S i l).list,P f.hop
 | [],S,h,_=>h
 | x::l,S,h,hl=>Ads (l:=l) (Xi h x.domain 1 (hl x qy) i) (fun y hy=>hl y (by simp[hy]))
theorem An9 {P:Hop→Prop} {n:Net} (h1:∀ d,∀ x∈Hl n d,P x) (h2:∀ d,∀ q∈routesT n d,P ⟨3,0,q.domain,q.addr⟩) {S:Srch} (h:∀ f∈S.list,P f.hop) (i:Int):∀ f∈(extT n S i).list,P f.hop:=by
 rw[extT]
 split
 ·exact Ads (Xj h (h1 _)) (h2 _)
 ·exact Xj h (h1 _)
theorem Aji {P:Hop→Prop} {n:Net} {dev:Int} (h:∀ d,P ⟨0,0,d,0⟩) (l:List Int):∀ f∈(Ir n dev l).list,P f.hop:=by
 suffices hs:∀ (l:List Int) (S:Srch),(∀ f∈S.list,P f.hop)→∀ f∈(l.foldl (Is n dev) S).list,P f.hop from hs l _ (fun f hf=>by simp[Qk]at hf)
 intro l
 induction l with
 | nil=>exact fun S h=>h
 | cons x l ih =>
  intro S hS
  refine ih _ ?_
  rw[Is]
  split
  ·exact hS
  ·exact Xi hS _ _ (h _) _
theorem Xh {P:Hop→Prop} {n:Net} (h1:∀ d,∀ x∈Hl n d,P x) (h2:∀ d,∀ q∈routesT n d,P ⟨3,0,q.domain,q.addr⟩) {to:Int}:∀ (k:Nat) (S:Srch) (i:Nat),S.OK n→Backs S.list→(∀ f∈S.list,P f.hop)→i≤S.list.length→(Eh n to k S i).2=true →
  ∀ h∈(Eh n to k S i).1,P h
 | 0,S,i,_,_,_,_,h=>by cases h
 | k+1,S,i,ok,bk,hk,hi,h=>by
  rw[Eh]at h ⊢
  split at h
  ·rename_i hlt
   rw[if_pos hlt]
   split at h
   ·rename_i hm2
    rw[if_pos hm2]
    exact(Un bk hk hlt).1
   ·rename_i hm2
    rw[if_neg hm2]
    have bk':=bk.ext (n:=n) (i:=i) ⟨by omega,by omega⟩
    exact Xh h1 h2 k _ _ (ok.ext i) bk'.1 (An9 h1 h2 hk i) qn h
  ·cases h
theorem An8 {P:Hop→Prop} {n:Net} (h1:∀ d,∀ x∈Hl n d,P x) (h2:∀ d,∀ q∈routesT n d,P ⟨3,0,q.domain,q.addr⟩) (h3:∀ d,P ⟨0,0,d,0⟩) {from_ to:Int} (h:(wayT n from_ to).2=true):∀ x∈(wayT n from_ to).1,P x:=by
 rw[wayT]at h ⊢
 split at h
 ·rename_i hc
  rw[if_pos hc]
  have hp:=Sc hc.1
  have ok0:(beginT n from_).OK n:=by
   rw[beginT,Ai hp.2]
   exact Mu fun v hv h0=>Hn hc.2.2.2 hp.2 hv h0
  have bk0:Backs (beginT n from_).list:=by rw[beginT];exact Kz _ _ _
  exact Xh h1 h2 _ _ _ ok0 bk0 (by rw[beginT];exact Aji h3 _) (Nat.zero_le _) h
 ·cases h
def LinkOK (n:Net) (h:Hop):Prop:=h.kind=1→(0≤h.port∧h.port.toNat<n.ports.length)∧0≤(nth n.ports h.port).link∧(nth n.ports h.port).link.toNat<n.links.length
theorem Ab4 {n:Net} {i:Int} (h:0≤Cv n i):(0≤i∧i.toNat<n.ports.length)∧0≤(nth n.ports i).link∧(nth n.ports i).link.toNat<n.links.length:=by
 have ht:=H3 h
 unfold Cv at h
 split at h
 ·rename_i hc
  have e1:nth n.ports i=n.ports[i.toNat]:=Ai ht.1.2
  rw[e1]at hc ⊢
  exact⟨ht.1,hc.2.1,(Ho hc.2.2 ht.1.2 hc.2.1).1⟩
 ·omega
theorem way_links {n:Net} {from_ to:Int} (h:(wayT n from_ to).2=true):∀ x∈(wayT n from_ to).1,LinkOK n x:=by
 refine An8 (fun d x hx=>?_) (fun d q _ e=>?_) (fun d e=>?_) h
 ·rw[Hl]at hx
  split at hx
  ·rcases List.mem_append.1 hx with hx | hx
   ·obtain ⟨p,_,hp⟩:=List.mem_filterMap.1 hx
    rw[linkHop]at hp
    split at hp
    ·rename_i hc
     simp only[Option.some.injEq]at hp
     subst hp
     intro _
     refine Ab4 ?_
     rw[linkDomT]at hc
     split at hc
     ·rename_i hd
      rw[crossT]at hd
      split at hd
      ·rename_i hc2;exact hc2.1
      ·cases hd
     ·cases hc
    ·cases hp
   ·obtain ⟨p,hp,rfl⟩:=List.mem_map.1 hx
    intro e
    simp[Iz]at e
  ·cases hx
 ·simp at e
 ·simp at e
def Qm:Nat:=2203318222849
def stepB (n:Net) (l:List Hop) (i:Nat) (h:Hop):Bool:=Ag h.domain n.domains.length && !(decide (h.kind=3) && (decide (i=0) || decide ((nth n.domains (nth l ((i:Int)-1)).domain).irb<0)))
def Eo (l:List Hop):Int:=B8 (fun h=>decide (h.kind=3)) l
def La (a:Nat):PacketM:=⟨0,0,64,17,1,a,[]⟩
def irbOf (n:Net) (l:List Hop):Irb:=nth n.irbs (nth n.domains (nth l (Eo l-1)).domain).irb
def frameW (n:Net) (l:List Hop):FrameM:=if 0<Eo l then ⟨E2 (irbOf n l).addr,Qm,2048,(ipPutT (La (nth l (Eo l)).addr.toNat)).1⟩ else ⟨281474976710655,Qm,34997,[]⟩
def wayBytes (n:Net) (l:List Hop):List UInt8 × Int:=if Ac n=true∧l≠[]∧Cg (stepB n l) l=true then (Mz (frameW n l),0) else ([],2)
def injectW (n:Net) (from_:Int) (l:List Hop):StepM :=
 ⟨1,from_,0,0,if (nth n.domains (nth l 0).domain).vlan≠(nth n.ports from_).native then Mz (tagT (takeF (wayBytes n l).1).1 (nth n.domains (nth l 0).domain).vlan).1 else (wayBytes n l).1,[]⟩
structure GoM where
 m:MacM
 d:Bool
 out:List StepM
def doW (n:Net) (s:GoM) (x:StepM):GoM:=⟨(doT n s.m x).1,doD n s.m s.d x,s.out++[x]⟩
def pickX (m:MacM) (d:Int):StepM:=⟨2,0,d,if (((if Ag d m.queues.length then queueL m d else []).length:Int)-1)<0 then 0 else ((if Ag d m.queues.length then queueL m d else []).length:Int)-1,[],[]⟩
def V9 (n:Net) (s:GoM) (d:Int):GoM:=doW n s (pickX s.m d)
def upW (n:Net) (h:Hop):List Bool:=(List.replicate n.links.length false).set (nth n.ports h.port).link.toNat true
def linkW (n:Net) (s:GoM) (h:Hop):GoM:=if h.kind=1 then doW n s ⟨5,0,0,0,[],upW n h⟩ else s
def goW (n:Net) (from_:Int) (l:List Hop):Nat→GoM
 | 0=>doW n ⟨newT n,false,[]⟩ (injectW n from_ l)
 | k+1=>V9 n (linkW n (goW n from_ l k) (nth l ((k+1:Nat):Int))) (nth l ((k:Nat):Int)).domain
def An0 (n:Net) (from_:Int) (l:List Hop):GoM:=V9 n (goW n from_ l (l.length-1)) (nth l ((l.length:Int)-1)).domain
def wscriptT (n:Net) (from_ to:Int):List StepM × Int :=
 if I2 n from_=true∧I2 n to=true∧from_≠to∧okB n (upsT n)=true then
  (if (wayT n from_ to).2=true then ((An0 n from_ (wayT n from_ to).1).out,0) else ([],31))
 else ([],2)
end Go.Sy.YteinjapglfkamaaGreat
namespace Go.Sy.YteinjapglfkamaaGreat
open Go.Proofs
attribute [local irreducible] Go.Sy.G Go.Sy.DR
structure Bx (Q:Prop):Prop where out:Q
theorem sE {α:Sort _} {a b:α} {K:Prop} (e:a=b) (h:K):a=b∧K:=⟨e,h⟩
theorem xE {α:Sort _} {a b:α} {K:a=b→Prop} (e:a=b) (h:K e):∃ e:a=b,K e:=⟨e,h⟩
theorem sL {a b:Int} {K:Prop} (e:a≤b) (h:K):a≤b∧K:=⟨e,h⟩
theorem xL {a b:Int} {K:a≤b→Prop} (e:a≤b) (h:K e):∃ e:a≤b,K e:=⟨e,h⟩
theorem sM {a b:Nat} {K:Prop} (e:a≤b) (h:K):a≤b∧K:=⟨e,h⟩
theorem sT {a b:Nat} {K:Prop} (e:a<b) (h:K):a<b∧K:=⟨e,h⟩
theorem xT {a b:Nat} {K:a<b→Prop} (e:a<b) (h:K e):∃ e:a<b,K e:=⟨e,h⟩
theorem sN {a b:Int} {K:Prop} (e:a≠b) (h:K):a≠b∧K:=⟨e,h⟩
theorem sI {a:Int} {K:Prop} (e:I64 a) (h:K):I64 a∧K:=⟨e,h⟩
theorem ct {p q:Prop} {b:Bool} (h:q) (e:b=true→False:=by
 intro _h
 first | exact absurd _h qx | exact Bool.false_ne_true (Eq.trans (Eq.symm (by with_reducible assumption)) _h) | (simp at _h;done) | (simp at _h;omega)):(b=true→p)∧(b=false→q):=⟨fun x=>(e x).elim,fun _=>h⟩
theorem cf {p q:Prop} {b:Bool} (h:p) (e:b=false→False:=by
 intro _h
 first | exact absurd _h qx | exact Bool.false_ne_true (Eq.trans (Eq.symm _h) (by with_reducible assumption)) | (simp at _h;done) | (simp at _h;omega)):(b=true→p)∧(b=false→q):=⟨fun _=>h,fun x=>(e x).elim⟩
theorem S {P Q:Prop} (h:Q) (e:Bx Q→P:=by
 intro hb
 first | refine rg ?_ | refine rd qq ?_ | skip
 conv=>whnf
 repeat (first
  | ((first | refine aF ?_ | refine aT ?_ | refine ct ?_ | refine cf ?_);(first | refine rg ?_ | refine rd qq ?_);(conv=>whnf))
  | ((first | refine⟨(by kernel_rfl:Aah _ _=true),?_⟩ | refine sI (by unfold I64;omega) ?_);(conv=>whnf)))
 exact hb.out):P:=e ⟨h⟩
theorem T {P Q:Prop} (h:Q) (e:Bx Q→P:=by
 intro hb
 refine S ?_
 repeat ((first | refine sE (by exact rfl) ?_ | refine sL (by first | omega | decide) ?_ | refine xL (by first | omega | decide) ?_ | refine sT (by first | omega | decide) ?_ | refine xT (by first | omega | decide) ?_ | refine sM (by first | omega | decide) ?_ | refine sN (by first | omega | decide) ?_ | refine xE (by exact rfl) ?_);refine S ?_)
 exact hb.out):P:=e ⟨h⟩
theorem D {P:Prop} (h:P:=by
 apply Am
 ·exact E
 ·(repeat (first | exact ResVs.nil | (apply ResVs.cons;(first | exact .tmp | exact .cell rfl rfl rfl rfl))))
 ·exact E
 ·exact E):P:=h
theorem U {P:Prop} (h:P:=by
 refine⟨?_,?_,E,E⟩
 ·repeat (first | exact trivial | exact rfl | refine⟨rfl,rfl,?_⟩)
 ·repeat (first | exact trivial | refine⟨.inl rfl,rfl,?_⟩ | refine⟨.inr rfl,rfl,?_⟩)):P:=h
theorem W {P:Prop} (h:P:=by
 repeat (first | exact trivial | exact rfl | refine⟨rfl,?_⟩)):P:=h
theorem V {P:Prop} (h:P:=by
 repeat (first | exact trivial | refine⟨.inl rfl,?_⟩ | refine⟨.inr rfl,?_⟩)):P:=h
theorem C {P:Program} {f:FuncId} {fn:Func} {c:Code} {A:List SV} {R:SV} {Z Q:Prop} (hs:Sy.Spec P f A [] R []) (hf:Fun P f fn c) (h:Q) (e:Sy.Spec P f A [] R []→Fun P f fn c→Bx Q→Z:=by
 intro hs hf hb
 first | refine Sz hs hf rfl rfl rfl rfl rfl ?_ | refine Ama hs hf rfl rfl rfl qq rfl ?_
 refine T ?_
 exact hb.out):Z:=e hs hf ⟨h⟩
theorem X {C:Cx} {k:List KI} {s:SS} {all:Array Oper} {o:Oper} {rest:List Oper} {V:Up} {Q:Prop} (hg:Good C.P o s V) (h:Q) (hd:L6 C.n o=true:=by exact rfl) (hw:C7 C.n all o s=some true:=by exact rfl) (e:Bx Q→G C (.ops all rest::k) (s.upd o.dst V):=by
 intro hb
 refine T ?_
 exact hb.out):G C (.ops all (o::rest)::k) s:=Ad hg hd hw (e ⟨h⟩)
theorem Xd {C:Cx} {k:List KI} {s:SS} {all:Array Oper} {done:List Stp} {o:Oper} {rest:List Oper} {V:Up} {Q:Prop} (hg:Good C.P o s V) (h:Q) (hi:all[done.length]? = some o:=by kernel_rfl) (hw:C7 C.n all o s=some true:=by exact rfl) (hn:(Eu o || Je o)=false:=by exact rfl) (e:Bx Q→DR C k all (done++[⟨done.length,o,V,true⟩]) rest (s.upd o.dst V):=by
 intro hb
 refine T ?_
 exact hb.out):DR C k all done (o::rest) s:=Bk hg hi hw (e ⟨h⟩) hn
theorem Xe {C:Cx} {k:List KI} {s:SS} {all:Array Oper} {done:List Stp} {o:Oper} {rest:List Oper} {V:Up} {Q:Prop} (hg:Good C.P o s V) (h:Q) (hk:KeepL s V.objs:=by exact W) (hi:all[done.length]? = some o:=by kernel_rfl) (hw:C7 C.n all o s=some true:=by exact rfl) (hn:(Eu o || Je o)=false:=by exact rfl) (e:Bx Q→DR C k all (done++[⟨done.length,o,⟨V.v,V.rd++V.ws,[]⟩,true⟩]) rest (s.upd o.dst ⟨V.v,V.rd++V.ws,[]⟩):=by
 intro hb
 refine T ?_
 exact hb.out):DR C k all done (o::rest) s:=stepD2 hg hk hi hw (e ⟨h⟩) hn
end Go.Sy.YteinjapglfkamaaGreat
namespace Go.Sy.YteinjapglfkamaaGreat
open Go.Proofs
attribute [local irreducible] Go.Sy.G Go.Sy.DR
set_option maxRecDepth 100000
set_option maxHeartbeats 4000000
theorem Wl (l:List Hop) (p:Hop→Bool) (f:FuncId) (first cap:List SV) (hc:(SV.clo (.func f) first cap).inn []=true) (hf:∀ x∈l,E6 Tryz.prog f (first++[Bl x]++cap) (Ab (p x))) (hl:Aj l) :
  Sy.Spec Tryz.prog 41 [.sl 4 Bl l,.clo (.func f) first cap] [] (Aa (B8 p l)) []:=cT F41 Tryz.ntmps41 fun F hF=>by
 unfold Aj at hl
 have hin:∀ x:Hop,B1 [] (first++[Bl x]++cap)=true:=fun x=>Cj hc rfl
 conv=>whnf
 refine Ay l.length (fun j=>C4 (fun _ x=>!(p x)) l j) (fun j=>[(0,.sl 4 Bl l),(1,.clo (.func f) first cap),(7,Aa l.length),(8,Aa j)]) (fun _=>[]) [] (At _ _) ⟨⟨E,E,A7 _,hc,E,E,E,E,Y⟩,Y,E,E⟩ ?_
 intro j hj hI
 refine oO ?_
 refine⟨fun h=>?_,fun h=>?_⟩
 ·have h:=of_decide_eq_true h
  have hj2:j<l.length:=by omega
  refine oO ?_
  refine⟨E,by omega,by omega,?_⟩
  conv=>whnf
  refine Dp (hf l[j] (List.getElem_mem hj2)) E E E (by simp only[hin];rfl) E E ?_
  refine oO ?_
  refine⟨fun h2=>?_,fun h2=>?_⟩
  ·refine oO ?_
   refine Am E (.cons .tmp .nil) (congrArg Aa ?_) E
   exact C6 hj2 (fun i hi hij=>by simpa using hI i hi hij) h2
  ·refine oO ?_
   refine iW ?_
   exact Aw [] hI hj2 (Ap hI hj2 (by simp[h2])) ⟨⟨E,E,A7 _,hc,E,E,E,E,Y⟩,Y,E,E⟩
 ·have h:=of_decide_eq_false h
  refine oO ?_
  refine Am E (.cons .tmp .nil) (congrArg Aa ?_) E
  exact Ds fun i hi=>by simpa using hI i hi qn
theorem Aef (h:Hop):Sy.Spec Tryz.prog 42 [Bl h] [] (Ab (decide (h.kind=3))) []:=cT F42 Tryz.ntmps42 fun F hF=>by
 refine T ?_
 exact D
theorem Agu {α:Type} {p:α→Bool} {l:List α} {i:Int} (h:B8 p l=i) (h0:0≤i):∃ hi:i.toNat<l.length,p l[i.toNat]=true:=by
 rcases Kt p l with ⟨h1,_⟩ | ⟨k,hk,h1,h2,_⟩
 ·omega
 ·have e:i.toNat=k:=by omega
  subst e
  exact⟨hk,h2⟩
theorem Adw (a:Nat) (h:a<4294967296):PacketOK (La a):=⟨by show 0≤255;decide,by show 0≤65535;decide,by show 64≤255;decide,by show 17≤255;decide,by show 1<4294967296;decide,h⟩
theorem Ajm (a:Nat):(ipPutT (La a)).1.length=20:=by
 rw[ipPutT,if_neg (by show ¬ 1480<0;decide)]
 show (D9 (La a) _++[]).length=20
 rw[List.append_nil]
 rfl
theorem Ab8 {n:Net} (hu:Ef n) (d:Int):0≤(nth n.irbs d).addr∧(nth n.irbs d).addr<4294967296:=by
 rw[nth]
 cases h:n.irbs[d.toNat]? with
 | none=>exact⟨by decide,by decide⟩
 | some x=>exact hu x (List.mem_of_getElem? h)
theorem Tt {n:Net} (hu:Ef n) (l:List Hop):FrameOK (frameW n l):=by
 unfold frameW
 split
 ·have:=Ab8 hu (nth n.domains (nth l (Eo l-1)).domain).irb
  refine⟨?_,by show 2203318222849<281474976710656;decide,by show 2048≤65535;decide,?_⟩
  ·show 2199023255552+(irbOf n l).addr.toNat<281474976710656
   unfold irbOf
   omega
  ·show (ipPutT _).1.length≤1504
   rw[Ajm];decide
 ·exact⟨by decide,by decide,by decide,by decide⟩
theorem S8 (n:Net) (hn:n.Fin) (hu:Ef n) (l:List Hop) (hl:Aj l) (hla:∀ h∈l,0≤h.addr∧h.addr<4294967296) :
  Sy.Spec Tryz.prog 14 [Al n,.sl 4 Bl l] [] (.tup [.sl 1 Ae (wayBytes n l).1,Aa (wayBytes n l).2]) []:=cT F14 Tryz.ntmps14 fun F hF=>by
 have hres:=wayBytes.eq_1 n l
 generalize wayBytes n l=res at *
 have hr:=A9 n hn
 have hl2:=hl
 unfold Aj at hl2
 conv=>whnf
 refine⟨fun h=>?_,fun h=>?_⟩
 ·have h0:l=[]:=List.eq_nil_of_length_eq_zero (qA h)
  rw[if_neg (fun x=>x.2.1 h0)]at hres
  subst hres
  refine T ?_
  refine Ak 4 1 Ae E ?_
  exact D
 have h0:0<l.length:=qB h
 clear h
 have hne:l≠[]:=fun e=>by rw[e]at h0;simp at h0
 refine Ba 2 8 (Al n) E E E ?_
 refine T ?_
 refine C hr F23 ?_
 cases hb:Ac n
 ·rw[if_neg (fun x=>by rw[hb]at x;cases x.1)]at hres
  subst hres
  refine T ?_
  refine Ak 4 1 Ae E ?_
  exact D
 refine T ?_
 refine Ay l.length (fun j=>C4 (stepB n l) l j) (fun j=>[(1,.sl 4 Bl l),(2,.ref 8 (Al n) 0),(6,.ptr 6 0),(22,.sl 4 Bl l),(23,Aa l.length),(24,Aa j)]) (fun _=>[(6,.box [A5 281474976710655,A5 2203318222849,Aa 34997,.val (.slice none 0 0)])]) [] (At _ _) U ?_
 intro j hj hI
 refine T ?_
 refine⟨fun h=>?_,fun h=>?_⟩
 ·have hlt:j<l.length:=qA h
  have hj0:((j:Nat):Int).toNat<l.length:=by simpa using hlt
  obtain ⟨x,hoo⟩:∃ x,l[j]=x:=⟨_,rfl⟩
  have e1:l[((j:Nat):Int).toNat]'hj0=x:=hoo
  have hst:=stepB.eq_1 n l j x
  have hbad:stepB n l j x=false→res=([],2):=fun h2=>by
   rw[if_neg (fun y=>by have:=allB_iff.1 y.2.2 j hlt;rw[hoo,h2]at this;cases this)]at hres
   exact hres
  clear h
  refine S ?_
  refine⟨E,by omega,hj0,?_⟩
  rw[e1]
  by_cases hd1:x.domain<0
  ·have hres:=hbad (by rw[hst,Qw qn,Bool.false_and])
   subst hres
   refine T ?_
   refine Ak 4 1 Ae E ?_
   exact D
  by_cases hd2:(n.domains.length:Int)≤x.domain
  ·have hres:=hbad (by rw[hst,Qw qn,Bool.false_and])
   subst hres
   refine T ?_
   refine Ak 4 1 Ae E ?_
   exact D
  have hpl:=Iy (n:=n.domains.length) (i:=x.domain) qn
  rw[hpl,Bool.true_and]at hst
  by_cases hk:x.kind=3
  rotate_left
  ·rw[decide_eq_false hk,Bool.false_and]at hst
   refine T ?_
   exact Aw [] hI hlt (Ap hI hlt (by rw[hoo];exact hst)) U
  rw[decide_eq_true hk,Bool.true_and]at hst
  by_cases hj1:j=0
  ·have hres:=hbad (by rw[hst,decide_eq_true hj1];rfl)
   subst hres
   refine T ?_
   refine Ak 4 1 Ae E ?_
   exact D
  rw[decide_eq_false hj1,Bool.false_or]at hst
  have hk1:((j:Int)-1).toNat<l.length:=by omega
  have hpr:=hI (j-1) qn qn
  have hpr2:Ag (l[((j:Int)-1).toNat]'hk1).domain n.domains.length=true:=by
   have e:((j:Int)-1).toNat=j-1:=by omega
   simp only[e]
   unfold stepB at hpr
   simp only[Bool.and_eq_true]at hpr
   exact hpr.1
  have hpi:=placeB_iff.1 hpr2
  rw[Ai hk1,Ai hpi.2]at hst
  by_cases hir:(n.domains[(l[((j:Int)-1).toNat]'hk1).domain.toNat]'hpi.2).irb<0
  ·have hres:=hbad (by rw[hst,decide_eq_true hir];rfl)
   subst hres
   refine T ?_
   refine⟨fun _=>?_,fun h=>absurd hir (of_decide_eq_false h)⟩
   refine T ?_
   refine Ak 4 1 Ae E ?_
   exact D
  rw[decide_eq_false hir]at hst
  refine T ?_
  refine⟨fun h=>absurd (of_decide_eq_true h) hir,fun _=>?_⟩
  refine T ?_
  exact Aw [] hI hlt (Ap hI hlt (by rw[hoo];exact hst)) U
 ·have hjj:j=l.length:=qB h
  subst hjj
  clear h
  have hall:Cg (stepB n l) l=true:=allB_iff.2 fun i hi=>hI i hi hi
  rw[if_pos ⟨hb,hne,hall⟩]at hres
  subst hres
  have qi:=Wl l (fun h=>decide (h.kind=3)) 42 [] [] rfl (fun x hx=>⟨⟨_,_,F42⟩,Aef x⟩) hl
  have hri:B8 (fun h=>decide (h.kind=3)) l=Eo l:=rfl
  rw[hri]at qi
  have hlt:=D3 (fun h:Hop=>decide (h.kind=3)) l
  have his:=fun h0=>Agu hri h0
  rw[hri]at hlt
  have q7:=H7 (frameW n l) (Tt hu l)
  have hfw:=frameW.eq_1 n l
  have hirb:=irbOf.eq_1 n l
  generalize irbOf n l=ib at *
  generalize Eo l=r at *
  refine T ?_
  refine C qi F41 ?_
  refine⟨fun h=>?_,fun h=>?_⟩
  ·have h1:0<r:=of_decide_eq_true h
   rw[if_pos h1]at hfw
   obtain ⟨hr0,hr3⟩:=his qn
   have hst:=allB_iff.1 hall r.toNat hr0
   have hk1:(r-1).toNat<l.length:=by omega
   have hpr2:Ag (l[(r-1).toNat]'hk1).domain n.domains.length=true:=by
    have hpr:=allB_iff.1 hall (r-1).toNat hk1
    unfold stepB at hpr
    simp only[Bool.and_eq_true]at hpr
    exact hpr.1
   have hpi:=placeB_iff.1 hpr2
   unfold stepB at hst
   rw[hr3,show ((r.toNat:Int)-1)=r-1 by omega,Ai hk1,Ai hpi.2]at hst
   simp only[Bool.and_eq_true,Bool.true_and,Bool.not_eq_true',Bool.or_eq_false_iff,decide_eq_false_iff_not]at hst
   have hin:=(Tw hb hpi.2).resolve_left qn
   have hin1:0≤(n.domains[(l[(r-1).toNat]'hk1).domain.toNat]'hpi.2).irb∧(n.domains[(l[(r-1).toNat]'hk1).domain.toNat]'hpi.2).irb.toNat<n.irbs.length:=by unfold InIrbs at hin;omega
   rw[Ai hk1,Ai hpi.2,Ai hin1.2]at hirb
   rw[Ai hr0]at hfw
   have ha:=hla _ (List.getElem_mem hr0)
   have hae:=Int.toNat_of_nonneg ha.1
   have hxa:=hu _ (List.getElem_mem hin1.2)
   have hxe:=Int.toNat_of_nonneg hxa.1
   have q5:Sy.Spec Tryz.prog 43 [.agg [Aa 0,Aa 0,Aa 64,Aa 17,Bi 1,Bi ((l[r.toNat]'hr0).addr.toNat:Nat),.sl 1 Ae []]] [] (.tup [.sl 1 Ae (ipPutT (La (l[r.toNat]'hr0).addr.toNat)).1,Aa (ipPutT (La (l[r.toNat]'hr0).addr.toNat)).2]) []:=Z6 (La (l[r.toNat]'hr0).addr.toNat) (Adw _ qn) (by show 0<100000;decide)
   rw[hae]at q5
   have q6:=Yu (n.irbs[(n.domains[(l[(r-1).toNat]'hk1).domain.toNat]'hpi.2).irb.toNat]'hin1.2).addr.toNat qn
   rw[hxe]at q6
   subst hirb
   rw[hfw]at q7 ⊢
   clear hfw
   generalize (ipPutT (La (l[r.toNat]'hr0).addr.toNat)).1=bo at *
   refine T ?_
   refine Amq 74 (.agg [Aa 0,Aa 0,Aa 64,Aa 17,Bi 1,Bi (l[r.toNat]'hr0).addr,.sl 1 Ae []]) (.agg (.cons (.refl _) (.cons (.refl _) (.cons (.refl _) (.cons (.refl _) (.cons (.refl _) (.cons (.refl _) (.cons .nil .nil)))))))) ?_
   refine C q5 F43 ?_
   refine C q6 F44 ?_
   refine Ad (Af [(0,999)] E F45 q7 E Y E ⟨.inr E,Y⟩) E E ?_
   refine Aq 999 E ?_
   refine T ?_
   exact D
  ·have h1:¬ 0<r:=of_decide_eq_false h
   rw[if_neg h1]at hfw
   rw[hfw]at q7 ⊢
   clear hfw
   refine T ?_
   refine Amq 99 (.agg [A5 281474976710655,A5 Qm,Aa 34997,.sl 1 Ae []]) (.agg (.cons (.refl _) (.cons (.refl _) (.cons (.refl _) (.cons .nil .nil))))) ?_
   refine Ad (Af [(0,999)] E F45 q7 E Y E ⟨.inr E,Y⟩) E E ?_
   refine Aq 999 E ?_
   refine T ?_
   exact D
theorem Yd (b:List UInt8):FrameOK (takeF b).1:=by
 by_cases h:(takeF b).2=0
 ·exact Vm h
 ·rw[Ahe h];exact Ct
theorem Aa9 {f:FrameM} (hf:FrameOK f) (v:Nat) (hv:v≤4094):FrameOK (tagT f v).1:=by
 by_cases h:(tagT f v).2=0
 ·exact Aj6 hf v hv h
 ·unfold tagT at h ⊢
  split
  ·exact Ct
  ·rename_i h1
   rw[if_neg h1]at h
   split
   ·exact Ct
   ·rename_i h2
    rw[if_neg h2]at h
    exact absurd E h
theorem Qd {n:Net} (hu:Ef n) (l:List Hop):(wayBytes n l).1.length≤1518:=by
 unfold wayBytes
 split
 ·show (Mz _).length≤1518
  rw[Et]
  have:=(Tt hu l).body
  omega
 ·show 0≤1518;decide
theorem Ad2 (n:Net) (hn:n.Fin) (hu:Ef n) (hb:Ac n=true) (port:Int) (hp:0≤port∧port.toNat<n.ports.length) (l:List Hop) (hl:Aj l) (hla:∀ h∈l,S5 n h) (h0:0<l.length) :
  Sy.Spec Tryz.prog 55 [Al n,Aa port,.sl 4 Bl l] [] (Du (injectW n port l)) []:=cT F55 Tryz.ntmps55 fun F hF=>by
 have hk0:(0:Int).toNat<l.length:=h0
 have hd:=hla _ (List.getElem_mem hk0)
 have q1:=S8 n hn hu l hl (fun h hh=>(hla h hh).2)
 have hwl:=Qd (n:=n) hu l
 have hv:=O6 hb hd.1.2
 have hres:=injectW.eq_1 n port l
 rw[Ai hk0,Ai hd.1.2,Ai hp.2]at hres
 generalize injectW n port l=res at *
 obtain ⟨ve,hve⟩:∃ v:Nat,(n.domains[(l[(0:Int).toNat]'hk0).domain.toNat]'hd.1.2).vlan=v:=⟨_,(Int.toNat_of_nonneg qn).symm⟩
 have hd1:0≤(l[(0:Int).toNat]'hk0).domain∧(l[(0:Int).toNat]'hk0).domain.toNat<n.domains.length:=hd.1
 have q3:=fun f hf=>Aba f ve hf qn
 have ho:=fun f hf=>Aa9 (f:=f) hf ve qn
 rw[← hve]at q3 ho
 clear hve
 generalize wayBytes n l=bb at *
 have q2:=Kw bb.1 qn
 have hf:=Yd bb.1
 generalize takeF bb.1=tk at *
 have q3:=q3 _ hf
 have q4:=H7 _ (ho _ hf)
 clear ho
 conv=>whnf
 refine Ba 3 8 (Al n) E E E ?_
 refine T ?_
 refine C q1 F14 ?_
 refine⟨fun h=>?_,fun h=>?_⟩
 ·have hv2:(n.domains[(l[(0:Int).toNat]'hk0).domain.toNat]'hd.1.2).vlan≠(n.ports[port.toNat]'hp.2).native:=by simpa using h
  rw[if_pos hv2]at hres
  clear h hv hv2
  generalize tagT tk.1 (n.domains[(l[(0:Int).toNat]'hk0).domain.toNat]'hd.1.2).vlan=tg at *
  subst hres
  refine T ?_
  refine C q2 F121 ?_
  refine C q3 F122 ?_
  refine Ad (Af [(0,55)] E F45 q4 E Y E ⟨.inr E,Y⟩) E E ?_
  refine Aq 55 E ?_
  refine T ?_
  refine A8 6 [Aa 1,Aa port,Aa 0,Aa 0,.sl 1 Ae (Mz tg.1),.sl 1 Ab []] E (.cons (.refl _) (.cons (.refl _) (.cons (.refl _) (.cons (.refl _) (.cons (.refl _) (.cons .nil .nil)))))) ?_
  exact D
 ·have hv2:¬ (n.domains[(l[(0:Int).toNat]'hk0).domain.toNat]'hd.1.2).vlan≠(n.ports[port.toNat]'hp.2).native:=by simpa using h
  rw[if_neg hv2]at hres
  subst hres
  refine T ?_
  refine A8 6 [Aa 1,Aa port,Aa 0,Aa 0,.sl 1 Ae bb.1,.sl 1 Ab []] E (.cons (.refl _) (.cons (.refl _) (.cons (.refl _) (.cons (.refl _) (.cons (.refl _) (.cons .nil .nil)))))) ?_
  exact D
abbrev stO (n:Net) (s:GoM):Obs:=[(0,.box (Li n 1 s.m.now s.m.injected s.m.drops)),(1,.box (Hj n s.m.up s.d)),(2,.row 1 Jm s.m.tables),(3,.row 1 K4 s.m.queues),(5,.box [.ptr 0 0]),(6,.box [.osl 7]),(7,.row 6 Du s.out)]
abbrev stN (n:Net) (s:GoM):Obs:=[(0,.box (Li n 4 s.m.now s.m.injected s.m.drops)),(1,.non),(2,.row 1 Jm s.m.tables),(3,.row 1 K4 s.m.queues),(4,.box (Hj n s.m.up s.d)),(5,.box [.ptr 0 0]),(6,.box [.osl 8]),(7,.non),(8,.row 6 Du s.out)]
abbrev doSV:SV:=.clo (.func 51) [] [.ptr 5 0,.ptr 6 0]
abbrev pkO (n:Net) (s:GoM):Obs:=[(0,.box (Li n 1 s.m.now s.m.injected s.m.drops)),(1,.box (Hj n s.m.up s.d)),(2,.row 1 Jm s.m.tables),(3,.row 1 K4 s.m.queues),(5,.box [.ptr 0 0]),(6,.box [.osl 7]),(7,.row 6 Du s.out),(9,.box [doSV])]
abbrev pkN (n:Net) (s:GoM):Obs:=[(0,.box (Li n 4 s.m.now s.m.injected s.m.drops)),(1,.non),(2,.row 1 Jm s.m.tables),(3,.row 1 K4 s.m.queues),(4,.box (Hj n s.m.up s.d)),(5,.box [.ptr 0 0]),(6,.box [.osl 8]),(7,.non),(8,.row 6 Du s.out),(9,.box [doSV])]
theorem Ajs (n:Net) (hn:n.Fin) (hm1:n.Num) (s:GoM) (J D:Int) (hm0:MacOK n s.m J D) (hJ:J<900000000000) (hD0:0≤D) (hD:D≤900000000000) (hlen:s.out.length<1000000) (x:StepM) (hb:x.bytes.length<100000) :
  Sy.Spec Tryz.prog 51 [Du x,.ptr 5 0,.ptr 6 0] (stO n s) (.tup []) (stN n (doW n s x)):=cT F51 Tryz.ntmps51 fun F hF=>by
 have q1:=Akj n hn hm1 s.m s.d J D hm0 hJ hD0 hD x hb
 have hres:=doW.eq_1 n s x
 generalize doT n s.m x=r at *
 generalize doD n s.m s.d x=dd at *
 generalize doW n s x=res at *
 subst hres
 conv=>whnf
 refine X (Sl (d:=900) E E E) ?_
 refine X (Af [] E F52 q1 E W E V) ?_
 refine X (Ah Γ.toTy 8 E E E E E (.row E) (.lit (e:=Du) (l:=[x]) E E) qy (by simp;omega) (by simp;omega)) ?_
 exact A6 E .nil [] (stN n ⟨r.1,dd,s.out++[x]⟩) (fun _ h=>h) E E U
theorem Amv (n:Net) (hn:n.Fin) (hm1:n.Num) (m:MacM) (d:Bool) (J D:Int) (hm0:MacOK n m J D) (hJ:J<900000000000) (hD0:0≤D) (hD:D≤900000000000) (x:StepM) (hb:x.bytes.length<100000) :
  Sy.Spec Tryz.prog 51 [Du x,.ptr 5 0,.ptr 6 0] [(0,.box (Li n 1 m.now m.injected m.drops)),(1,.box (Hj n m.up d)),(2,.row 1 Jm m.tables),(3,.row 1 K4 m.queues),(5,.box [.ptr 0 0]),(6,.box [.val (.slice none 0 0)])] (.tup [])
   [(0,.box (Li n 4 (doW n ⟨m,d,[]⟩ x).m.now (doW n ⟨m,d,[]⟩ x).m.injected (doW n ⟨m,d,[]⟩ x).m.drops)),(1,.non),(2,.row 1 Jm (doW n ⟨m,d,[]⟩ x).m.tables),(3,.row 1 K4 (doW n ⟨m,d,[]⟩ x).m.queues),(4,.box (Hj n (doW n ⟨m,d,[]⟩ x).m.up (doW n ⟨m,d,[]⟩ x).d)),(5,.box [.ptr 0 0]),(6,.box [.osl 8]),(8,.row 6 Du (doW n ⟨m,d,[]⟩ x).out)]:=cT F51 Tryz.ntmps51 fun F hF=>by
 have q1:=Akj n hn hm1 m d J D hm0 hJ hD0 hD x hb
 have hres:=doW.eq_1 n ⟨m,d,[]⟩ x
 dsimp only at hres
 generalize doT n m x=r at *
 generalize doD n m d x=dd at *
 generalize doW n ⟨m,d,[]⟩ x=res at *
 subst hres
 conv=>whnf
 refine X (Sl (d:=900) E E E) ?_
 refine X (Af [] E F52 q1 E W E V) ?_
 refine X (Ah Γ.toTy 8 E E E E E .nil (.lit (e:=Du) (l:=[x]) E E) qy qy qy) ?_
 exact A6 E .nil [] [(0,.box (Li n 4 r.1.now r.1.injected r.1.drops)),(1,.non),(2,.row 1 Jm r.1.tables),(3,.row 1 K4 r.1.queues),(4,.box (Hj n r.1.up dd)),(5,.box [.ptr 0 0]),(6,.box [.osl 8]),(8,.row 6 Du ([]++[x]))] (fun _ h=>h) E E U
theorem Aix {P:Program} {o:Oper} {s:SS} {x y:Operand} {at_:Array TypeId} {k k':IntKind} {m n r:Int} (hr:(if m<n then n else m)=r) (h:o.op=.call ⟨.builtin .max,#[x,y],at_⟩)
  (hx:ev s x=.val (.int k m)) (hy:ev s y=.val (.int k' n)):Good P o s ⟨.val (.int k r),[],[]⟩:=by
 subst hr
 exact Good.pure fun κ a w _ hr ho=>by
  have h1:=hr x (by simp[h,Op.operands,Call.operands])
  have h2:=hr y (by simp[h,Op.operands,Call.operands])
  rw[hx]at h1
  rw[hy]at h2
  refine⟨.int k (if m<n then n else m),?_,by simp[Rd]⟩
  simp[execOp,h,resolve,invoke,builtin,Builtin.max_,Builtin.max2,h1.val,h2.val]
theorem Vg (n:Net) (hn:n.Fin) (hm1:n.Num) (s:GoM) (J D:Int) (hm0:MacOK n s.m J D) (hJ:J<900000000000) (hD0:0≤D) (hD:D≤900000000000) (hlen:s.out.length<1000000) (dom:Int) :
  Sy.Spec Tryz.prog 53 [Aa dom,.ptr 9 0,.ptr 5 0] (pkO n s) (.tup []) (pkN n (V9 n s dom)):=cT F53 Tryz.ntmps53 fun F hF=>by
 have hqo:=D2 hm0 dom
 have q1:=Ahn n s.m s.d dom hqo
 have q2:=Ajs n hn hm1 s J D hm0 hJ hD0 hD hlen (pickX s.m dom) (by show 0<100000;decide)
 rw[V9]
 generalize doW n s (pickX s.m dom)=res at *
 have hpx:=pickX.eq_1 s.m dom
 have hql:(if Ag dom s.m.queues.length=true then queueL s.m dom else []).length<1000000:=by
  have:=hqo.1
  split
  ·omega
  ·simp
 generalize (if Ag dom s.m.queues.length=true then queueL s.m dom else [])=qs at *
 obtain ⟨v,hv⟩:∃ v:Int,(if (qs.length:Int)-1<0 then 0 else (qs.length:Int)-1)=v:=⟨_,rfl⟩
 rw[hv]at hpx
 generalize pickX s.m dom=px at *
 subst hpx
 refine T ?_
 refine Xe (Af [] E F54 q1 E W E V) ?_
 refine Xd (Aix hv E E E) ?_
 refine Xd (Ev [] [] (Cm E E F51) q2 (.cons (.agg (.cons (.refl _) (.cons (.refl _) (.cons (.refl _) (.cons (.refl _) (.cons .nil (.cons .nil .nil))))))) (.cons (.refl _) (.cons (.refl _) .nil))) W E V E) ?_
 exact A6 E .nil [] (pkN n res) (fun _ h=>h) E E U
end Go.Sy.YteinjapglfkamaaGreat
namespace Go.Sy.YteinjapglfkamaaGreat
open Go.Proofs
theorem Aaj {n:Net} (hn:n.Fin) (hm1:n.Num) {s:GoM} {J D:Int} (h:MacOK n s.m J D) (hJ:0≤J) (hD:0≤D) (x:StepM):MacOK n (doW n s x).m (J+1) (D+4294967298)∧(doW n s x).out.length=s.out.length+1 :=
 ⟨doT_ok hn hm1 h hJ hD x,by simp[doW]⟩
theorem Alh {n:Net} (hn:n.Fin) (hm1:n.Num) {s:GoM} {J D:Int} (h:MacOK n s.m J D) (hJ:0≤J) (hD:0≤D) (x:Hop):MacOK n (linkW n s x).m (J+1) (D+4294967298)∧(linkW n s x).out.length≤s.out.length+1:=by
 unfold linkW
 split
 ·have:=Aaj hn hm1 h hJ hD ⟨5,0,0,0,[],upW n x⟩
  exact⟨this.1,by omega⟩
 ·exact⟨h.mono qn qn,by omega⟩
theorem Alx {n:Net} (hn:n.Fin) (hm1:n.Num) (from_:Int) (l:List Hop):∀ k:Nat,MacOK n (goW n from_ l k).m (1+2 * k) ((1+2 * k) * 4294967298)∧(goW n from_ l k).out.length≤1+2 * k
 | 0=>by
  have:=Aaj hn hm1 (s:=⟨newT n,false,[]⟩) (Ago n) (Int.le_refl _) (Int.le_refl _) (injectW n from_ l)
  rw[goW]
  exact⟨this.1.mono qn qn,by rw[this.2];simp⟩
 | k+1=>by
  obtain ⟨h1,h2⟩:=Alx hn hm1 from_ l k
  rw[goW]
  have h3:=Alh hn hm1 h1 qn qn (nth l ((k+1:Nat):Int))
  have h4:=Aaj hn hm1 h3.1 qn qn (pickX (linkW n (goW n from_ l k) (nth l ((k+1:Nat):Int))).m (nth l ((k:Nat):Int)).domain)
  refine⟨h4.1.mono qn qn,?_⟩
  have h5:=h4.2
  unfold V9
  omega
theorem Acr {n:Net} (hu:Ef n) (hb:Ac n=true) (from_:Int) {l:List Hop} (h0:0<l.length) (hla:∀ h∈l,S5 n h):(injectW n from_ l).bytes.length<100000:=by
 have hk0:(0:Int).toNat<l.length:=h0
 have hd:=hla _ (List.getElem_mem hk0)
 have hv:=O6 hb hd.1.2
 show (if _ then _ else _:List UInt8).length<100000
 rw[Ai hk0,Ai hd.1.2]
 obtain ⟨ve,hve⟩:∃ v:Nat,(n.domains[(l[(0:Int).toNat]'hk0).domain.toNat]'hd.1.2).vlan=v:=⟨_,(Int.toNat_of_nonneg qn).symm⟩
 rw[hve]
 split
 ·rw[Et]
  have:=(Aa9 (Yd (wayBytes n l).1) ve qn).body
  omega
 ·have:=Qd (n:=n) hu l
  omega
attribute [local irreducible] Go.Sy.G Go.Sy.DR
set_option maxRecDepth 100000
set_option maxHeartbeats 8000000
theorem Vf (n:Net) (hn:n.Fin) (hm1:n.Num) (hu:Ef n) (from_ to:Int) :
  Sy.Spec Tryz.prog 16 [Al n,Aa from_,Aa to] [] (.tup [.sl 6 Du (wscriptT n from_ to).1,Aa (wscriptT n from_ to).2]) []:=cT F16 Tryz.ntmps16 fun F hF=>by
 have hlk:=wscriptT.eq_1 n from_ to
 generalize wscriptT n from_ to=res at *
 have h1:=Qc n from_
 have h2:=Qc n to
 have hls:=hn.links
 unfold Aj at hls
 conv=>whnf
 refine Ba 3 8 (Al n) E E E ?_
 refine T ?_
 refine C h1 F22 ?_
 cases hf:I2 n from_
 ·rw[if_neg (fun x=>by rw[hf]at x;cases x.1)]at hlk
  subst hlk
  refine T ?_
  refine Ak 6 6 Du E ?_
  exact D
 refine T ?_
 refine C h2 F22 ?_
 cases ht:I2 n to
 ·rw[if_neg (fun x=>by rw[ht]at x;cases x.2.1)]at hlk
  subst hlk
  refine T ?_
  refine Ak 6 6 Du E ?_
  exact D
 refine T ?_
 refine⟨fun h=>?_,fun h=>?_⟩
 ·rw[if_neg (fun x=>x.2.2.1 (by simpa using h))]at hlk
  subst hlk
  refine T ?_
  refine Ak 6 6 Du E ?_
  exact D
 have hne:from_≠to:=by simpa using h
 clear h
 refine T ?_
 cases hok:okB n (upsT n)
 ·rw[if_neg (fun x=>by rw[hok]at x;cases x.2.2.2)]at hlk
  subst hlk
  refine C (Aea n hn hok) F50 ?_
  refine Ak 6 6 Du E ?_
  exact D
 rw[if_pos ⟨hf,ht,hne,hok⟩]at hlk
 refine X (Af [(0,800),(1,801),(2,802),(3,803)] E F50 (Am7 n hn hok) E Y E V) ?_
 have q2:=wayS n hn hu from_ to
 have hfac:=@wayT_facts n hu from_ to
 have hlnk:=@way_links n from_ to
 have hsh:Aj (wayT n from_ to).1∨True:=.inr trivial
 generalize wayT n from_ to=wr at *
 obtain ⟨l,ok⟩:=wr
 cases ok
 ·rw[if_neg qy]at hlk
  subst hlk
  refine C q2 F9 ?_
  refine Ak 6 6 Du E ?_
  exact D
 rw[if_pos rfl]at hlk
 obtain ⟨hla,hlen,hlne,hb⟩:=hfac rfl
 have hlk2:=hlnk rfl
 clear hfac hlnk hsh
 dsimp only at *
 have hfe:=Aol hb
 have h0:0<l.length:=List.length_pos_iff.2 hlne
 have hsl:Aj l:=by unfold Aj;omega
 have hp:=Sc hf
 have q3:=Ad2 n hn hu hb from_ hp l hsl hla h0
 have q4:=Amv n hn hm1 (newT n) false 0 0 (Ago n) qn qn qn (injectW n from_ l) (Acr hu hb from_ h0 hla)
 rw[show doW n ⟨newT n,false,[]⟩ (injectW n from_ l)=goW n from_ l 0 from rfl]at q4
 refine C q2 F9 ?_
 refine C q3 F55 ?_
 refine Xd (B7 [(0,800),(1,801),(2,802),(3,803),(4,804),(5,8),(6,12),(8,805)] (Cm E E F51) q4 E W E V) ?_
 have hdl:(l.drop 1).length=l.length-1:=by simp
 refine X (Oh (lo:=1) (hi:=l.length) Γ.toTy (l.drop 1) E E E E (.inr ⟨_,_,E,E⟩) (.inl ⟨E,E⟩) qn (Nat.le_refl _) (by rw[List.take_length])) ?_
 clear q2 q3 q4
 refine Az (l.drop 1).length (fun j=>[(3,.ref 8 (Al n) 0),(10,.sl 4 Bl l),(12,.ptr 6 0),(13,.ptr 9 0),(14,.clo (.func 53) [] [.ptr 9 0,.ptr 5 0]),(58,.sl 4 Bl (l.drop 1)),(59,Aa (l.drop 1).length),(60,Aa j)]) (fun j=>pkO n (goW n from_ l j))
  [(0,800),(1,804),(2,802),(3,803),(5,8),(6,12),(7,805),(9,13)] U ?_
 intro j hj
 obtain ⟨hm0,hol⟩:=Alx hn hm1 from_ l j
 refine T ?_
 refine⟨fun h=>?_,fun h=>?_⟩
 ·have hlt:j<(l.drop 1).length:=qA h
  have hj0:((j:Nat):Int).toNat<(l.drop 1).length:=by simpa using hlt
  have hk1:((j+1:Nat):Int).toNat<l.length:=by omega
  have hk0:((j:Nat):Int).toNat<l.length:=by omega
  have hgs:goW n from_ l (j+1)=V9 n (linkW n (goW n from_ l j) (l[((j+1:Nat):Int).toNat]'hk1)) (l[((j:Nat):Int).toNat]'hk0).domain:=by rw[goW,Ai hk1,Ai hk0]
  have e1:(l.drop 1)[((j:Nat):Int).toNat]'hj0=l[((j+1:Nat):Int).toNat]'hk1:=by
   rw[List.getElem_drop]
   congr 1
   omega
  have hxl:=hlk2 _ (List.getElem_mem hk1)
  generalize l[((j+1:Nat):Int).toNat]'hk1=x at *
  generalize goW n from_ l j=s at *
  have hgl:=linkW.eq_1 n s x
  clear h
  refine S ?_
  refine⟨E,by omega,hj0,?_⟩
  rw[e1]
  refine T ?_
  refine⟨fun h=>?_,fun h=>?_⟩
  ·have hk:x.kind=1:=by simpa using h
   rw[if_pos hk]at hgl
   obtain ⟨hp1,hl0,hl1⟩:=hxl hk
   have hup:=upW.eq_1 n x
   rw[Ai hp1.2]at hl0 hl1 hup
   have q6:=Ajs n hn hm1 s _ _ hm0 qn qn qn qn ⟨5,0,0,0,[],upW n x⟩ (by show 0<100000;decide)
   obtain ⟨hm2,hol2⟩:=Aaj hn hm1 hm0 qn qn ⟨5,0,0,0,[],upW n x⟩
   rw[← hgl]at q6 hm2 hol2
   rw[hup]at q6
   clear hgl hup
   generalize linkW n s x=s1 at *
   have q7:=Vg n hn hm1 s1 _ _ hm2 qn qn qn qn (l[((j:Nat):Int).toNat]'hk0).domain
   rw[← hgs]at q7
   clear h
   refine T ?_
   refine X (Bh Γ.toTy (d:=71) (n:=n.links.length) Ab false E E E E E E E E qn qn E E E) ?_
   refine⟨by rw[List.length_replicate];exact hl1,?_⟩
   conv=>whnf
   refine⟨E,(by rw[List.length_replicate];exact hl1),true,E,E,?_⟩
   refine T ?_
   refine Aq 71 E ?_
   refine X (Ev [(4,40),(8,41)] [] (Cm E E F51) q6 (.cons (.agg (.cons (.refl _) (.cons (.refl _) (.cons (.refl _) (.cons (.refl _) (.cons .nil (.cons (.refl _) .nil))))))) (.cons (.refl _) (.cons (.refl _) .nil))) W E V E) ?_
   refine X (B7 [(1,40),(7,41),(4,42),(8,43)] (Cm E E F53) q7 E W E V) ?_
   exact Ar [(1,42),(7,43)] hlt U
  ·have hk:¬ x.kind=1:=by simpa using h
   rw[if_neg hk]at hgl
   rw[hgl]at hgs
   have q7:=Vg n hn hm1 s _ _ hm0 qn qn qn qn (l[((j:Nat):Int).toNat]'hk0).domain
   rw[← hgs]at q7
   clear h
   refine T ?_
   refine X (B7 [(4,42),(8,43)] (Cm E E F53) q7 E W E V) ?_
   exact Ar [(1,42),(7,43)] hlt U
 ·have hjj:j=(l.drop 1).length:=qB h
  subst hjj
  have hkl:((l.length:Int)-1).toNat<l.length:=by omega
  have hend:An0 n from_ l=V9 n (goW n from_ l (l.drop 1).length) (l[((l.length:Int)-1).toNat]'hkl).domain:=by rw[An0,Ai hkl,hdl]
  have q7:=Vg n hn hm1 _ _ _ hm0 qn qn qn qn (l[((l.length:Int)-1).toNat]'hkl).domain
  rw[← hend]at q7
  clear hend
  generalize An0 n from_ l=s2 at *
  generalize goW n from_ l (l.drop 1).length=s at *
  subst hlk
  clear h
  refine T ?_
  refine X (B7 [(4,42),(8,43)] (Cm E E F53) q7 E W E V) ?_
  refine Aq 43 E ?_
  exact D
end Go.Sy.YteinjapglfkamaaGreat
namespace Go.Sy
open Go.ChangeShapes Go.WideShapes Go.ChangeAt Go.RowKit
section
variable {H:Type} (enc:TypeId × Value→H) (P:Program) (W:World)
def Op1 (t:TypeId) {α:Type} (e:α→SV) (p:α→Prop):Prop :=
 ∀ n c y,DataW.trod enc P W 0 (fun _=>true) true n t [c]=some y→∃ x,p x∧Rd κ0 W (e x) c∧c.oneCell'=true
def OpN (t:TypeId) {α:Type} (e:α→SV) (p:α→Prop) (sz:Nat):Prop :=
 ∀ n cs y,DataW.trod enc P W 0 (fun _=>true) true n t cs=some y→∃ x,p x∧cs.length=sz∧Ones cs∧RdL κ0 W (cellsOf (e x)) cs
variable {enc P W}
theorem Bz {t:TypeId} {k:IntKind} (ht:P.underlying t=some (.int k)):Op1 enc P W t (fun z=>.val (.int k z)) (fun z=>(Lit.int k z).wf=true):=fun n c y h=>by
 obtain ⟨z,e,_,hw⟩:=DataW.trod_int ht h
 have e:c=.int k z:=by simpa using e
 subst e
 exact⟨z,hw,by simp[Rd],E⟩
theorem Aev {t:TypeId} (ht:P.underlying t=some .string):Op1 enc P W t Yf (fun s=>s.size≤maxLen):=fun n c y h=>by
 obtain ⟨z,e,_,hw⟩:=DataW.trod_string ht h
 have e:c=.string z:=by simpa using e
 subst e
 exact⟨z,hw,by simp[Yf,Rd],E⟩
theorem Agn {t:TypeId} {k:IntKind} (ht:P.underlying t=some (.int k)):OpN enc P W t (fun z=>.val (.int k z)) (fun z=>(Lit.int k z).wf=true) 1:=fun n cs y h=>by
 obtain ⟨z,rfl,_,hw⟩:=DataW.trod_int ht h
 refine⟨z,hw,E,fun c hc=>by simp at hc;subst hc;rfl,?_⟩
 simp[cellsOf,RdL,Rd]
theorem Y8 {base:Nat} {a:Addr} {n:Nat} {cs:List Value} (h:W.cells? base a n=some cs):cs.length=n∧∀ j (_:j<n),W.cell? (a.add j)=cs[j]?:=by
 unfold World.cells? at h
 split at h
 ·refine⟨by simpa using mapM_some_length h,fun j hj=>?_⟩
  exact mapM_some_get h j j (by simp[hj])
 ·cases h
theorem Dy {t et:TypeId} {α:Type} {e:α→SV} {p:α→Prop} {sz:Nat} (ht:P.underlying t=some (.slice et)) (hsz:P.cellsOf et=sz) (h0:0<sz) (hb:∀ x,(e x).boxed=true) (hd:∀ x,(e x).data=true) (hO:OpN enc P W et e p sz) :
  Op1 enc P W t (fun l:List α=>.sl sz e l) (fun l=>(∀ x∈l,p x)∧l.length≤maxLen):=fun n c y h=>by
 rcases DataW.trod_slice ht h with ⟨hcs,_⟩ | ⟨a,len,cap,elems,rest,m,rfl,hcs,_,_,hlc,hcm,hel,hget,_⟩
 ·have hc:c=.slice none 0 0:=by simpa using hcs
  subst hc
  refine⟨[],⟨by simp,Nat.zero_le _⟩,?_,E⟩
  simp only[Rd,RdD]
  exact .inl ⟨Y,none,0,E⟩
 ·have hc:c=.slice (some a) len cap:=by simpa using hcs
  subst hc
  rw[hsz]at hget
  have hall:∀ i:Fin len,∃ x,p x∧∃ cs,W.cells? 0 (a.add (i * sz)) sz=some cs∧cs.length=sz∧Ones cs∧RdL κ0 W (cellsOf (e x)) cs:=fun i=>by
   have h1:=hget i.1 i.2
   rw[List.getElem?_eq_getElem qn]at h1
   obtain ⟨cs,h2,h3⟩:=Option.bind_eq_some_iff.1 h1
   obtain ⟨x,h4,h5,h6,h7⟩:=hO _ _ _ h3
   exact⟨x,h4,cs,h2,h5,h6,h7⟩
  let xs:Fin len→α:=fun i=>Classical.choose (hall i)
  have hxs:∀ i,p (xs i)∧∃ cs,W.cells? 0 (a.add (i.1 * sz)) sz=some cs∧cs.length=sz∧Ones cs∧RdL κ0 W (cellsOf (e (xs i))) cs:=fun i=>Classical.choose_spec (hall i)
  refine⟨List.ofFn xs,⟨fun x hx=>?_,by simp;omega⟩,?_,E⟩
  ·obtain ⟨i,rfl⟩:=List.mem_ofFn.1 hx
   exact(hxs i).1
  ·simp only[Rd,RdD]
   by_cases hl:len=0
   ·subst hl
    exact .inl ⟨by simp,_,_,E⟩
   ·have hcell:∀ i:Fin len,∀ j,j<sz→∃ v,W.cell? ((a.add (i.1 * sz)).add j)=some v:=fun i j hj=>by
     obtain ⟨_,cs,h1,h2,_⟩:=hxs i
     have:=(Y8 h1).2 j hj
     rw[List.getElem?_eq_getElem qn]at this
     exact⟨_,this⟩
    obtain ⟨b,off,spot⟩:=a
    have hspot:spot=none:=by
     obtain ⟨v,hv⟩:=hcell ⟨0,by omega⟩ 0 h0
     simpa [Addr.add] using World.cell?_spot hv
    subst hspot
    have hadd:∀ i j,((⟨b,off,none⟩:Addr).add i).add j=⟨b,off+i+j,none⟩:=fun i j=>by rw[Addr.add_lit,Addr.add_lit]
    refine .inr ⟨b,off,cap,by simp,by simpa using hlc,?_,?_,fun i hi=>?_⟩
    ·rintro (⟨k,hk⟩ | hk)
     ·cases hk
     ·exact hk
    ·obtain ⟨v,hv⟩:=hcell ⟨0,by omega⟩ 0 h0
     rw[hadd]at hv
     rcases Nat.lt_or_ge b W.heap.size with h | h
     ·exact h
     ·simp[World.cell?,Array.getElem?_eq_none h]at hv
    ·simp only[List.length_ofFn]at hi
     obtain ⟨_,cs,h1,h2,h3,h4⟩:=hxs ⟨i,hi⟩
     obtain ⟨u,g1,g2⟩:=Rd.of_cells (hb _) h3 h4
     refine⟨u,?_,?_,by rw[g2];exact h3,fun j hj=>?_⟩
     ·rw[List.getElem_ofFn]
      exact Rd.data _ _ (hd _) g1
     ·have:u.cells.toList.length=sz:=by rw[g2,h2]
      simpa using this
     ·have:=(Y8 h1).2 j hj
      rw[hadd]at this
      rw[this,← g2]
      simp
end
end Go.Sy
namespace Go.Sy.YteinjapglfkamaaGreat
open Go.Proofs Go.ChangeShapes Go.WideShapes Go.ChangeAt Go.RowKit
set_option maxRecDepth 100000
section
variable {H:Type} {enc:TypeId × Value→H} {W:World}
def wI (k:IntKind) (z:Int):Prop:=(Lit.int k z).wf=true
theorem U3:Op1 enc Tryz.prog W 56 (fun l:List Int=>.sl 1 (fun z=>.val (.int .i64 z)) l) (fun l=>(∀ z∈l,wI .i64 z)∧l.length≤maxLen) :=
 Dy Tryz.underlying56 (by kernel_rfl:Tryz.prog.cellsOf 3=1) qx (fun _=>rfl) (fun _=>rfl) (Agn Tryz.underlying3)
theorem Ane:Op1 enc Tryz.prog W 70 (fun l:List Int=>.sl 1 (fun z=>.val (.int .u32 z)) l) (fun l=>(∀ z∈l,wI .u32 z)∧l.length≤maxLen) :=
 Dy Tryz.underlying70 (by kernel_rfl:Tryz.prog.cellsOf 75=1) qx (fun _=>rfl) (fun _=>rfl) (Agn Tryz.underlying75)
def Device.In (x:Device):Prop:=wI .i64 x.row∧wI .i64 x.prio∧x.name.size≤maxLen∧wI .u64 x.mac∧wI .u32 x.vtep
theorem Aey:OpN enc Tryz.prog W 77 Bf Device.In 5:=fun n cs y h=>by
 obtain ⟨xs,m,_,_,hlen,hx,hg⟩:=DataW.trod_struct Tryz.underlying77 h
 have hlen:cs.length=5:=hlen.trans (by kernel_rfl:Tryz.prog.cellsOf 77=5)
 have hx:xs.length=5:=hx
 match cs,hlen with
 | [c0,c1,c2,c3,c4],_ =>
  have g0:DataW.trod enc Tryz.prog W 0 (fun _=>true) true m 3 (([c0,c1,c2,c3,c4].drop 0).take (Tryz.prog.cellsOf 3))=xs[0]?:=hg 0 _ rfl
  rw[(by kernel_rfl:Tryz.prog.cellsOf 3=1),List.getElem?_eq_getElem qn]at g0
  obtain ⟨z0,p0,r0,o0⟩:=Bz Tryz.underlying3 _ _ _ g0
  have g1:DataW.trod enc Tryz.prog W 0 (fun _=>true) true m 3 (([c0,c1,c2,c3,c4].drop 1).take (Tryz.prog.cellsOf 3))=xs[1]?:=hg 1 _ rfl
  rw[(by kernel_rfl:Tryz.prog.cellsOf 3=1),List.getElem?_eq_getElem qn]at g1
  obtain ⟨z1,p1,r1,o1⟩:=Bz Tryz.underlying3 _ _ _ g1
  have g2:DataW.trod enc Tryz.prog W 0 (fun _=>true) true m 9 (([c0,c1,c2,c3,c4].drop 2).take (Tryz.prog.cellsOf 9))=xs[2]?:=hg 2 _ rfl
  rw[(by kernel_rfl:Tryz.prog.cellsOf 9=1),List.getElem?_eq_getElem qn]at g2
  obtain ⟨z2,p2,r2,o2⟩:=Aev Tryz.underlying9 _ _ _ g2
  have g3:DataW.trod enc Tryz.prog W 0 (fun _=>true) true m 57 (([c0,c1,c2,c3,c4].drop 3).take (Tryz.prog.cellsOf 57))=xs[3]?:=hg 3 _ rfl
  rw[(by kernel_rfl:Tryz.prog.cellsOf 57=1),List.getElem?_eq_getElem qn]at g3
  obtain ⟨z3,p3,r3,o3⟩:=Bz Tryz.underlying57 _ _ _ g3
  have g4:DataW.trod enc Tryz.prog W 0 (fun _=>true) true m 75 (([c0,c1,c2,c3,c4].drop 4).take (Tryz.prog.cellsOf 75))=xs[4]?:=hg 4 _ rfl
  rw[(by kernel_rfl:Tryz.prog.cellsOf 75=1),List.getElem?_eq_getElem qn]at g4
  obtain ⟨z4,p4,r4,o4⟩:=Bz Tryz.underlying75 _ _ _ g4
  refine⟨⟨z0,z1,z2,z3,z4⟩,⟨p0,p1,p2,p3,p4⟩,E,fun c hc=>?_,?_⟩
  ·simp only[List.mem_cons,List.not_mem_nil,or_false]at hc
   rcases hc with rfl | rfl | rfl | rfl | rfl<;>assumption
  ·simp only[Bf,cellsOf,RdL]
   exact⟨_,_,E,r0,_,_,E,r1,_,_,E,r2,_,_,E,r3,_,_,E,r4,E⟩
def Port.In (x:Port):Prop:=wI .i64 x.row∧wI .i64 x.dev∧wI .i64 x.native∧wI .i64 x.cost∧wI .i64 x.link∧x.name.size≤maxLen∧((∀ z∈x.tagged,wI .i64 z)∧x.tagged.length≤maxLen)
theorem Ak4:OpN enc Tryz.prog W 67 A2 Port.In 7:=fun n cs y h=>by
 obtain ⟨xs,m,_,_,hlen,hx,hg⟩:=DataW.trod_struct Tryz.underlying67 h
 have hlen:cs.length=7:=hlen.trans (by kernel_rfl:Tryz.prog.cellsOf 67=7)
 have hx:xs.length=7:=hx
 match cs,hlen with
 | [c0,c1,c2,c3,c4,c5,c6],_ =>
  have g0:DataW.trod enc Tryz.prog W 0 (fun _=>true) true m 3 (([c0,c1,c2,c3,c4,c5,c6].drop 0).take (Tryz.prog.cellsOf 3))=xs[0]?:=hg 0 _ rfl
  rw[(by kernel_rfl:Tryz.prog.cellsOf 3=1),List.getElem?_eq_getElem qn]at g0
  obtain ⟨z0,p0,r0,o0⟩:=Bz Tryz.underlying3 _ _ _ g0
  have g1:DataW.trod enc Tryz.prog W 0 (fun _=>true) true m 3 (([c0,c1,c2,c3,c4,c5,c6].drop 1).take (Tryz.prog.cellsOf 3))=xs[1]?:=hg 1 _ rfl
  rw[(by kernel_rfl:Tryz.prog.cellsOf 3=1),List.getElem?_eq_getElem qn]at g1
  obtain ⟨z1,p1,r1,o1⟩:=Bz Tryz.underlying3 _ _ _ g1
  have g2:DataW.trod enc Tryz.prog W 0 (fun _=>true) true m 3 (([c0,c1,c2,c3,c4,c5,c6].drop 2).take (Tryz.prog.cellsOf 3))=xs[2]?:=hg 2 _ rfl
  rw[(by kernel_rfl:Tryz.prog.cellsOf 3=1),List.getElem?_eq_getElem qn]at g2
  obtain ⟨z2,p2,r2,o2⟩:=Bz Tryz.underlying3 _ _ _ g2
  have g3:DataW.trod enc Tryz.prog W 0 (fun _=>true) true m 3 (([c0,c1,c2,c3,c4,c5,c6].drop 3).take (Tryz.prog.cellsOf 3))=xs[3]?:=hg 3 _ rfl
  rw[(by kernel_rfl:Tryz.prog.cellsOf 3=1),List.getElem?_eq_getElem qn]at g3
  obtain ⟨z3,p3,r3,o3⟩:=Bz Tryz.underlying3 _ _ _ g3
  have g4:DataW.trod enc Tryz.prog W 0 (fun _=>true) true m 3 (([c0,c1,c2,c3,c4,c5,c6].drop 4).take (Tryz.prog.cellsOf 3))=xs[4]?:=hg 4 _ rfl
  rw[(by kernel_rfl:Tryz.prog.cellsOf 3=1),List.getElem?_eq_getElem qn]at g4
  obtain ⟨z4,p4,r4,o4⟩:=Bz Tryz.underlying3 _ _ _ g4
  have g5:DataW.trod enc Tryz.prog W 0 (fun _=>true) true m 9 (([c0,c1,c2,c3,c4,c5,c6].drop 5).take (Tryz.prog.cellsOf 9))=xs[5]?:=hg 5 _ rfl
  rw[(by kernel_rfl:Tryz.prog.cellsOf 9=1),List.getElem?_eq_getElem qn]at g5
  obtain ⟨z5,p5,r5,o5⟩:=Aev Tryz.underlying9 _ _ _ g5
  have g6:DataW.trod enc Tryz.prog W 0 (fun _=>true) true m 56 (([c0,c1,c2,c3,c4,c5,c6].drop 6).take (Tryz.prog.cellsOf 56))=xs[6]?:=hg 6 _ rfl
  rw[(by kernel_rfl:Tryz.prog.cellsOf 56=1),List.getElem?_eq_getElem qn]at g6
  obtain ⟨z6,p6,r6,o6⟩:=U3 _ _ _ g6
  refine⟨⟨z0,z1,z2,z3,z4,z5,z6⟩,⟨p0,p1,p2,p3,p4,p5,p6⟩,E,fun c hc=>?_,?_⟩
  ·simp only[List.mem_cons,List.not_mem_nil,or_false]at hc
   rcases hc with rfl | rfl | rfl | rfl | rfl | rfl | rfl<;>assumption
  ·simp only[A2,cellsOf,RdL]
   exact⟨_,_,E,r0,_,_,E,r1,_,_,E,r2,_,_,E,r3,_,_,E,r4,_,_,E,r5,_,_,E,r6,E⟩
def Link.In (x:Link):Prop:=wI .i64 x.row∧wI .i64 x.a∧wI .i64 x.b
theorem Ak5:OpN enc Tryz.prog W 167 Cb Link.In 3:=fun n cs y h=>by
 obtain ⟨xs,m,_,_,hlen,hx,hg⟩:=DataW.trod_struct Tryz.underlying167 h
 have hlen:cs.length=3:=hlen.trans (by kernel_rfl:Tryz.prog.cellsOf 167=3)
 have hx:xs.length=3:=hx
 match cs,hlen with
 | [c0,c1,c2],_ =>
  have g0:DataW.trod enc Tryz.prog W 0 (fun _=>true) true m 3 (([c0,c1,c2].drop 0).take (Tryz.prog.cellsOf 3))=xs[0]?:=hg 0 _ rfl
  rw[(by kernel_rfl:Tryz.prog.cellsOf 3=1),List.getElem?_eq_getElem qn]at g0
  obtain ⟨z0,p0,r0,o0⟩:=Bz Tryz.underlying3 _ _ _ g0
  have g1:DataW.trod enc Tryz.prog W 0 (fun _=>true) true m 3 (([c0,c1,c2].drop 1).take (Tryz.prog.cellsOf 3))=xs[1]?:=hg 1 _ rfl
  rw[(by kernel_rfl:Tryz.prog.cellsOf 3=1),List.getElem?_eq_getElem qn]at g1
  obtain ⟨z1,p1,r1,o1⟩:=Bz Tryz.underlying3 _ _ _ g1
  have g2:DataW.trod enc Tryz.prog W 0 (fun _=>true) true m 3 (([c0,c1,c2].drop 2).take (Tryz.prog.cellsOf 3))=xs[2]?:=hg 2 _ rfl
  rw[(by kernel_rfl:Tryz.prog.cellsOf 3=1),List.getElem?_eq_getElem qn]at g2
  obtain ⟨z2,p2,r2,o2⟩:=Bz Tryz.underlying3 _ _ _ g2
  refine⟨⟨z0,z1,z2⟩,⟨p0,p1,p2⟩,E,fun c hc=>?_,?_⟩
  ·simp only[List.mem_cons,List.not_mem_nil,or_false]at hc
   rcases hc with rfl | rfl | rfl<;>assumption
  ·simp only[Cb,cellsOf,RdL]
   exact⟨_,_,E,r0,_,_,E,r1,_,_,E,r2,E⟩
def Domain.In (x:Domain):Prop:=wI .i64 x.dev∧wI .i64 x.vlan∧wI .i64 x.vni∧wI .i64 x.irb∧wI .i64 x.row∧((∀ z∈x.peers,wI .i64 z)∧x.peers.length≤maxLen)
theorem Aex:OpN enc Tryz.prog W 69 Ao Domain.In 6:=fun n cs y h=>by
 obtain ⟨xs,m,_,_,hlen,hx,hg⟩:=DataW.trod_struct Tryz.underlying69 h
 have hlen:cs.length=6:=hlen.trans (by kernel_rfl:Tryz.prog.cellsOf 69=6)
 have hx:xs.length=6:=hx
 match cs,hlen with
 | [c0,c1,c2,c3,c4,c5],_ =>
  have g0:DataW.trod enc Tryz.prog W 0 (fun _=>true) true m 3 (([c0,c1,c2,c3,c4,c5].drop 0).take (Tryz.prog.cellsOf 3))=xs[0]?:=hg 0 _ rfl
  rw[(by kernel_rfl:Tryz.prog.cellsOf 3=1),List.getElem?_eq_getElem qn]at g0
  obtain ⟨z0,p0,r0,o0⟩:=Bz Tryz.underlying3 _ _ _ g0
  have g1:DataW.trod enc Tryz.prog W 0 (fun _=>true) true m 3 (([c0,c1,c2,c3,c4,c5].drop 1).take (Tryz.prog.cellsOf 3))=xs[1]?:=hg 1 _ rfl
  rw[(by kernel_rfl:Tryz.prog.cellsOf 3=1),List.getElem?_eq_getElem qn]at g1
  obtain ⟨z1,p1,r1,o1⟩:=Bz Tryz.underlying3 _ _ _ g1
  have g2:DataW.trod enc Tryz.prog W 0 (fun _=>true) true m 3 (([c0,c1,c2,c3,c4,c5].drop 2).take (Tryz.prog.cellsOf 3))=xs[2]?:=hg 2 _ rfl
  rw[(by kernel_rfl:Tryz.prog.cellsOf 3=1),List.getElem?_eq_getElem qn]at g2
  obtain ⟨z2,p2,r2,o2⟩:=Bz Tryz.underlying3 _ _ _ g2
  have g3:DataW.trod enc Tryz.prog W 0 (fun _=>true) true m 3 (([c0,c1,c2,c3,c4,c5].drop 3).take (Tryz.prog.cellsOf 3))=xs[3]?:=hg 3 _ rfl
  rw[(by kernel_rfl:Tryz.prog.cellsOf 3=1),List.getElem?_eq_getElem qn]at g3
  obtain ⟨z3,p3,r3,o3⟩:=Bz Tryz.underlying3 _ _ _ g3
  have g4:DataW.trod enc Tryz.prog W 0 (fun _=>true) true m 3 (([c0,c1,c2,c3,c4,c5].drop 4).take (Tryz.prog.cellsOf 3))=xs[4]?:=hg 4 _ rfl
  rw[(by kernel_rfl:Tryz.prog.cellsOf 3=1),List.getElem?_eq_getElem qn]at g4
  obtain ⟨z4,p4,r4,o4⟩:=Bz Tryz.underlying3 _ _ _ g4
  have g5:DataW.trod enc Tryz.prog W 0 (fun _=>true) true m 56 (([c0,c1,c2,c3,c4,c5].drop 5).take (Tryz.prog.cellsOf 56))=xs[5]?:=hg 5 _ rfl
  rw[(by kernel_rfl:Tryz.prog.cellsOf 56=1),List.getElem?_eq_getElem qn]at g5
  obtain ⟨z5,p5,r5,o5⟩:=U3 _ _ _ g5
  refine⟨⟨z0,z1,z2,z3,z4,z5⟩,⟨p0,p1,p2,p3,p4,p5⟩,E,fun c hc=>?_,?_⟩
  ·simp only[List.mem_cons,List.not_mem_nil,or_false]at hc
   rcases hc with rfl | rfl | rfl | rfl | rfl | rfl<;>assumption
  ·simp only[Ao,cellsOf,RdL]
   exact⟨_,_,E,r0,_,_,E,r1,_,_,E,r2,_,_,E,r3,_,_,E,r4,_,_,E,r5,E⟩
def Static.In (x:Static):Prop:=wI .i64 x.row∧wI .i64 x.domain∧wI .i64 x.port∧wI .u64 x.mac
theorem Aew:OpN enc Tryz.prog W 171 Bd Static.In 4:=fun n cs y h=>by
 obtain ⟨xs,m,_,_,hlen,hx,hg⟩:=DataW.trod_struct Tryz.underlying171 h
 have hlen:cs.length=4:=hlen.trans (by kernel_rfl:Tryz.prog.cellsOf 171=4)
 have hx:xs.length=4:=hx
 match cs,hlen with
 | [c0,c1,c2,c3],_ =>
  have g0:DataW.trod enc Tryz.prog W 0 (fun _=>true) true m 3 (([c0,c1,c2,c3].drop 0).take (Tryz.prog.cellsOf 3))=xs[0]?:=hg 0 _ rfl
  rw[(by kernel_rfl:Tryz.prog.cellsOf 3=1),List.getElem?_eq_getElem qn]at g0
  obtain ⟨z0,p0,r0,o0⟩:=Bz Tryz.underlying3 _ _ _ g0
  have g1:DataW.trod enc Tryz.prog W 0 (fun _=>true) true m 3 (([c0,c1,c2,c3].drop 1).take (Tryz.prog.cellsOf 3))=xs[1]?:=hg 1 _ rfl
  rw[(by kernel_rfl:Tryz.prog.cellsOf 3=1),List.getElem?_eq_getElem qn]at g1
  obtain ⟨z1,p1,r1,o1⟩:=Bz Tryz.underlying3 _ _ _ g1
  have g2:DataW.trod enc Tryz.prog W 0 (fun _=>true) true m 3 (([c0,c1,c2,c3].drop 2).take (Tryz.prog.cellsOf 3))=xs[2]?:=hg 2 _ rfl
  rw[(by kernel_rfl:Tryz.prog.cellsOf 3=1),List.getElem?_eq_getElem qn]at g2
  obtain ⟨z2,p2,r2,o2⟩:=Bz Tryz.underlying3 _ _ _ g2
  have g3:DataW.trod enc Tryz.prog W 0 (fun _=>true) true m 57 (([c0,c1,c2,c3].drop 3).take (Tryz.prog.cellsOf 57))=xs[3]?:=hg 3 _ rfl
  rw[(by kernel_rfl:Tryz.prog.cellsOf 57=1),List.getElem?_eq_getElem qn]at g3
  obtain ⟨z3,p3,r3,o3⟩:=Bz Tryz.underlying57 _ _ _ g3
  refine⟨⟨z0,z1,z2,z3⟩,⟨p0,p1,p2,p3⟩,E,fun c hc=>?_,?_⟩
  ·simp only[List.mem_cons,List.not_mem_nil,or_false]at hc
   rcases hc with rfl | rfl | rfl | rfl<;>assumption
  ·simp only[Bd,cellsOf,RdL]
   exact⟨_,_,E,r0,_,_,E,r1,_,_,E,r2,_,_,E,r3,E⟩
def Flood.In (x:Flood):Prop:=wI .i64 x.row∧wI .i64 x.dev∧wI .i64 x.vni∧((∀ z∈x.addrs,wI .u32 z)∧x.addrs.length≤maxLen)
theorem Aie:OpN enc Tryz.prog W 72 Bs Flood.In 4:=fun n cs y h=>by
 obtain ⟨xs,m,_,_,hlen,hx,hg⟩:=DataW.trod_struct Tryz.underlying72 h
 have hlen:cs.length=4:=hlen.trans (by kernel_rfl:Tryz.prog.cellsOf 72=4)
 have hx:xs.length=4:=hx
 match cs,hlen with
 | [c0,c1,c2,c3],_ =>
  have g0:DataW.trod enc Tryz.prog W 0 (fun _=>true) true m 3 (([c0,c1,c2,c3].drop 0).take (Tryz.prog.cellsOf 3))=xs[0]?:=hg 0 _ rfl
  rw[(by kernel_rfl:Tryz.prog.cellsOf 3=1),List.getElem?_eq_getElem qn]at g0
  obtain ⟨z0,p0,r0,o0⟩:=Bz Tryz.underlying3 _ _ _ g0
  have g1:DataW.trod enc Tryz.prog W 0 (fun _=>true) true m 3 (([c0,c1,c2,c3].drop 1).take (Tryz.prog.cellsOf 3))=xs[1]?:=hg 1 _ rfl
  rw[(by kernel_rfl:Tryz.prog.cellsOf 3=1),List.getElem?_eq_getElem qn]at g1
  obtain ⟨z1,p1,r1,o1⟩:=Bz Tryz.underlying3 _ _ _ g1
  have g2:DataW.trod enc Tryz.prog W 0 (fun _=>true) true m 3 (([c0,c1,c2,c3].drop 2).take (Tryz.prog.cellsOf 3))=xs[2]?:=hg 2 _ rfl
  rw[(by kernel_rfl:Tryz.prog.cellsOf 3=1),List.getElem?_eq_getElem qn]at g2
  obtain ⟨z2,p2,r2,o2⟩:=Bz Tryz.underlying3 _ _ _ g2
  have g3:DataW.trod enc Tryz.prog W 0 (fun _=>true) true m 70 (([c0,c1,c2,c3].drop 3).take (Tryz.prog.cellsOf 70))=xs[3]?:=hg 3 _ rfl
  rw[(by kernel_rfl:Tryz.prog.cellsOf 70=1),List.getElem?_eq_getElem qn]at g3
  obtain ⟨z3,p3,r3,o3⟩:=Ane _ _ _ g3
  refine⟨⟨z0,z1,z2,z3⟩,⟨p0,p1,p2,p3⟩,E,fun c hc=>?_,?_⟩
  ·simp only[List.mem_cons,List.not_mem_nil,or_false]at hc
   rcases hc with rfl | rfl | rfl | rfl<;>assumption
  ·simp only[Bs,cellsOf,RdL]
   exact⟨_,_,E,r0,_,_,E,r1,_,_,E,r2,_,_,E,r3,E⟩
def Vrf.In (x:Vrf):Prop:=wI .i64 x.row∧wI .i64 x.dev∧x.name.size≤maxLen∧((∀ z∈x.imports,wI .i64 z)∧x.imports.length≤maxLen)∧((∀ z∈x.exports,wI .i64 z)∧x.exports.length≤maxLen)
theorem Anh:OpN enc Tryz.prog W 74 Cn Vrf.In 5:=fun n cs y h=>by
 obtain ⟨xs,m,_,_,hlen,hx,hg⟩:=DataW.trod_struct Tryz.underlying74 h
 have hlen:cs.length=5:=hlen.trans (by kernel_rfl:Tryz.prog.cellsOf 74=5)
 have hx:xs.length=5:=hx
 match cs,hlen with
 | [c0,c1,c2,c3,c4],_ =>
  have g0:DataW.trod enc Tryz.prog W 0 (fun _=>true) true m 3 (([c0,c1,c2,c3,c4].drop 0).take (Tryz.prog.cellsOf 3))=xs[0]?:=hg 0 _ rfl
  rw[(by kernel_rfl:Tryz.prog.cellsOf 3=1),List.getElem?_eq_getElem qn]at g0
  obtain ⟨z0,p0,r0,o0⟩:=Bz Tryz.underlying3 _ _ _ g0
  have g1:DataW.trod enc Tryz.prog W 0 (fun _=>true) true m 3 (([c0,c1,c2,c3,c4].drop 1).take (Tryz.prog.cellsOf 3))=xs[1]?:=hg 1 _ rfl
  rw[(by kernel_rfl:Tryz.prog.cellsOf 3=1),List.getElem?_eq_getElem qn]at g1
  obtain ⟨z1,p1,r1,o1⟩:=Bz Tryz.underlying3 _ _ _ g1
  have g2:DataW.trod enc Tryz.prog W 0 (fun _=>true) true m 9 (([c0,c1,c2,c3,c4].drop 2).take (Tryz.prog.cellsOf 9))=xs[2]?:=hg 2 _ rfl
  rw[(by kernel_rfl:Tryz.prog.cellsOf 9=1),List.getElem?_eq_getElem qn]at g2
  obtain ⟨z2,p2,r2,o2⟩:=Aev Tryz.underlying9 _ _ _ g2
  have g3:DataW.trod enc Tryz.prog W 0 (fun _=>true) true m 56 (([c0,c1,c2,c3,c4].drop 3).take (Tryz.prog.cellsOf 56))=xs[3]?:=hg 3 _ rfl
  rw[(by kernel_rfl:Tryz.prog.cellsOf 56=1),List.getElem?_eq_getElem qn]at g3
  obtain ⟨z3,p3,r3,o3⟩:=U3 _ _ _ g3
  have g4:DataW.trod enc Tryz.prog W 0 (fun _=>true) true m 56 (([c0,c1,c2,c3,c4].drop 4).take (Tryz.prog.cellsOf 56))=xs[4]?:=hg 4 _ rfl
  rw[(by kernel_rfl:Tryz.prog.cellsOf 56=1),List.getElem?_eq_getElem qn]at g4
  obtain ⟨z4,p4,r4,o4⟩:=U3 _ _ _ g4
  refine⟨⟨z0,z1,z2,z3,z4⟩,⟨p0,p1,p2,p3,p4⟩,E,fun c hc=>?_,?_⟩
  ·simp only[List.mem_cons,List.not_mem_nil,or_false]at hc
   rcases hc with rfl | rfl | rfl | rfl | rfl<;>assumption
  ·simp only[Cn,cellsOf,RdL]
   exact⟨_,_,E,r0,_,_,E,r1,_,_,E,r2,_,_,E,r3,_,_,E,r4,E⟩
def Irb.In (x:Irb):Prop:=wI .i64 x.row∧wI .i64 x.domain∧wI .i64 x.vrf∧wI .u32 x.addr∧wI .i64 x.bits
theorem Anj:OpN enc Tryz.prog W 119 Ca Irb.In 5:=fun n cs y h=>by
 obtain ⟨xs,m,_,_,hlen,hx,hg⟩:=DataW.trod_struct Tryz.underlying119 h
 have hlen:cs.length=5:=hlen.trans (by kernel_rfl:Tryz.prog.cellsOf 119=5)
 have hx:xs.length=4:=hx
 match cs,hlen with
 | [c0,c1,c2,c3,c4],_ =>
  have g0:DataW.trod enc Tryz.prog W 0 (fun _=>true) true m 3 (([c0,c1,c2,c3,c4].drop 0).take (Tryz.prog.cellsOf 3))=xs[0]?:=hg 0 _ rfl
  rw[(by kernel_rfl:Tryz.prog.cellsOf 3=1),List.getElem?_eq_getElem qn]at g0
  obtain ⟨z0,p0,r0,o0⟩:=Bz Tryz.underlying3 _ _ _ g0
  have g1:DataW.trod enc Tryz.prog W 0 (fun _=>true) true m 3 (([c0,c1,c2,c3,c4].drop 1).take (Tryz.prog.cellsOf 3))=xs[1]?:=hg 1 _ rfl
  rw[(by kernel_rfl:Tryz.prog.cellsOf 3=1),List.getElem?_eq_getElem qn]at g1
  obtain ⟨z1,p1,r1,o1⟩:=Bz Tryz.underlying3 _ _ _ g1
  have g2:DataW.trod enc Tryz.prog W 0 (fun _=>true) true m 3 (([c0,c1,c2,c3,c4].drop 2).take (Tryz.prog.cellsOf 3))=xs[2]?:=hg 2 _ rfl
  rw[(by kernel_rfl:Tryz.prog.cellsOf 3=1),List.getElem?_eq_getElem qn]at g2
  obtain ⟨z2,p2,r2,o2⟩:=Bz Tryz.underlying3 _ _ _ g2
  have g3:DataW.trod enc Tryz.prog W 0 (fun _=>true) true m 117 (([c0,c1,c2,c3,c4].drop 3).take (Tryz.prog.cellsOf 117))=xs[3]?:=hg 3 _ rfl
  rw[(by kernel_rfl:Tryz.prog.cellsOf 117=2),List.getElem?_eq_getElem qn]at g3
  obtain ⟨ys,m',_,_,_,hy,hg'⟩:=DataW.trod_struct Tryz.underlying117 g3
  have hy:ys.length=2:=hy
  have q0:DataW.trod enc Tryz.prog W 0 (fun _=>true) true m' 75 (([c3,c4].drop 0).take (Tryz.prog.cellsOf 75))=ys[0]?:=hg' 0 _ rfl
  have q1:DataW.trod enc Tryz.prog W 0 (fun _=>true) true m' 3 (([c3,c4].drop 1).take (Tryz.prog.cellsOf 3))=ys[1]?:=hg' 1 _ rfl
  rw[(by kernel_rfl:Tryz.prog.cellsOf 75=1),List.getElem?_eq_getElem qn]at q0
  rw[(by kernel_rfl:Tryz.prog.cellsOf 3=1),List.getElem?_eq_getElem qn]at q1
  obtain ⟨z3,p3,r3,o3⟩:=Bz Tryz.underlying75 _ _ _ q0
  obtain ⟨z4,p4,r4,o4⟩:=Bz Tryz.underlying3 _ _ _ q1
  refine⟨⟨z0,z1,z2,z3,z4⟩,⟨p0,p1,p2,p3,p4⟩,E,fun c hc=>?_,?_⟩
  ·simp only[List.mem_cons,List.not_mem_nil,or_false]at hc
   rcases hc with rfl | rfl | rfl | rfl | rfl<;>assumption
  ·simp only[Ca,cellsOf,RdL]
   exact⟨_,_,E,r0,_,_,E,r1,_,_,E,r2,_,_,E,r3,_,_,E,r4,E⟩
structure Net.In (n:Net):Prop where
 devices:(∀ x∈n.devices,Device.In x)∧n.devices.length≤maxLen
 ports:(∀ x∈n.ports,Port.In x)∧n.ports.length≤maxLen
 links:(∀ x∈n.links,Link.In x)∧n.links.length≤maxLen
 domains:(∀ x∈n.domains,Domain.In x)∧n.domains.length≤maxLen
 statics:(∀ x∈n.statics,Static.In x)∧n.statics.length≤maxLen
 floods:(∀ x∈n.floods,Flood.In x)∧n.floods.length≤maxLen
 vrfs:(∀ x∈n.vrfs,Vrf.In x)∧n.vrfs.length≤maxLen
 irbs:(∀ x∈n.irbs,Irb.In x)∧n.irbs.length≤maxLen
theorem Ani:OpN enc Tryz.prog W 31 Al Net.In 8:=fun n cs y h=>by
 obtain ⟨xs,m,_,_,hlen,hx,hg⟩:=DataW.trod_struct Tryz.underlying31 h
 have hlen:cs.length=8:=hlen.trans (by kernel_rfl:Tryz.prog.cellsOf 31=8)
 have hx:xs.length=8:=hx
 match cs,hlen with
 | [c0,c1,c2,c3,c4,c5,c6,c7],_ =>
  have g0:DataW.trod enc Tryz.prog W 0 (fun _=>true) true m 22 (([c0,c1,c2,c3,c4,c5,c6,c7].drop 0).take (Tryz.prog.cellsOf 22))=xs[0]?:=hg 0 _ rfl
  rw[(by kernel_rfl:Tryz.prog.cellsOf 22=1),List.getElem?_eq_getElem qn]at g0
  obtain ⟨z0,p0,r0,o0⟩:=Dy Tryz.underlying22 (by kernel_rfl:Tryz.prog.cellsOf 77=5) qx (fun _=>rfl) (fun _=>rfl) Aey _ _ _ g0
  have g1:DataW.trod enc Tryz.prog W 0 (fun _=>true) true m 23 (([c0,c1,c2,c3,c4,c5,c6,c7].drop 1).take (Tryz.prog.cellsOf 23))=xs[1]?:=hg 1 _ rfl
  rw[(by kernel_rfl:Tryz.prog.cellsOf 23=1),List.getElem?_eq_getElem qn]at g1
  obtain ⟨z1,p1,r1,o1⟩:=Dy Tryz.underlying23 (by kernel_rfl:Tryz.prog.cellsOf 67=7) qx (fun _=>rfl) (fun _=>rfl) Ak4 _ _ _ g1
  have g2:DataW.trod enc Tryz.prog W 0 (fun _=>true) true m 24 (([c0,c1,c2,c3,c4,c5,c6,c7].drop 2).take (Tryz.prog.cellsOf 24))=xs[2]?:=hg 2 _ rfl
  rw[(by kernel_rfl:Tryz.prog.cellsOf 24=1),List.getElem?_eq_getElem qn]at g2
  obtain ⟨z2,p2,r2,o2⟩:=Dy Tryz.underlying24 (by kernel_rfl:Tryz.prog.cellsOf 167=3) qx (fun _=>rfl) (fun _=>rfl) Ak5 _ _ _ g2
  have g3:DataW.trod enc Tryz.prog W 0 (fun _=>true) true m 25 (([c0,c1,c2,c3,c4,c5,c6,c7].drop 3).take (Tryz.prog.cellsOf 25))=xs[3]?:=hg 3 _ rfl
  rw[(by kernel_rfl:Tryz.prog.cellsOf 25=1),List.getElem?_eq_getElem qn]at g3
  obtain ⟨z3,p3,r3,o3⟩:=Dy Tryz.underlying25 (by kernel_rfl:Tryz.prog.cellsOf 69=6) qx (fun _=>rfl) (fun _=>rfl) Aex _ _ _ g3
  have g4:DataW.trod enc Tryz.prog W 0 (fun _=>true) true m 26 (([c0,c1,c2,c3,c4,c5,c6,c7].drop 4).take (Tryz.prog.cellsOf 26))=xs[4]?:=hg 4 _ rfl
  rw[(by kernel_rfl:Tryz.prog.cellsOf 26=1),List.getElem?_eq_getElem qn]at g4
  obtain ⟨z4,p4,r4,o4⟩:=Dy Tryz.underlying26 (by kernel_rfl:Tryz.prog.cellsOf 171=4) qx (fun _=>rfl) (fun _=>rfl) Aew _ _ _ g4
  have g5:DataW.trod enc Tryz.prog W 0 (fun _=>true) true m 27 (([c0,c1,c2,c3,c4,c5,c6,c7].drop 5).take (Tryz.prog.cellsOf 27))=xs[5]?:=hg 5 _ rfl
  rw[(by kernel_rfl:Tryz.prog.cellsOf 27=1),List.getElem?_eq_getElem qn]at g5
  obtain ⟨z5,p5,r5,o5⟩:=Dy Tryz.underlying27 (by kernel_rfl:Tryz.prog.cellsOf 72=4) qx (fun _=>rfl) (fun _=>rfl) Aie _ _ _ g5
  have g6:DataW.trod enc Tryz.prog W 0 (fun _=>true) true m 28 (([c0,c1,c2,c3,c4,c5,c6,c7].drop 6).take (Tryz.prog.cellsOf 28))=xs[6]?:=hg 6 _ rfl
  rw[(by kernel_rfl:Tryz.prog.cellsOf 28=1),List.getElem?_eq_getElem qn]at g6
  obtain ⟨z6,p6,r6,o6⟩:=Dy Tryz.underlying28 (by kernel_rfl:Tryz.prog.cellsOf 74=5) qx (fun _=>rfl) (fun _=>rfl) Anh _ _ _ g6
  have g7:DataW.trod enc Tryz.prog W 0 (fun _=>true) true m 29 (([c0,c1,c2,c3,c4,c5,c6,c7].drop 7).take (Tryz.prog.cellsOf 29))=xs[7]?:=hg 7 _ rfl
  rw[(by kernel_rfl:Tryz.prog.cellsOf 29=1),List.getElem?_eq_getElem qn]at g7
  obtain ⟨z7,p7,r7,o7⟩:=Dy Tryz.underlying29 (by kernel_rfl:Tryz.prog.cellsOf 119=5) qx (fun _=>rfl) (fun _=>rfl) Anj _ _ _ g7
  refine⟨⟨z0,z1,z2,z3,z4,z5,z6,z7⟩,⟨p0,p1,p2,p3,p4,p5,p6,p7⟩,E,fun c hc=>?_,?_⟩
  ·simp only[List.mem_cons,List.not_mem_nil,or_false]at hc
   rcases hc with rfl | rfl | rfl | rfl | rfl | rfl | rfl | rfl<;>assumption
  ·simp only[Al,cellsOf,RdL]
   exact⟨_,_,E,r0,_,_,E,r1,_,_,E,r2,_,_,E,r3,_,_,E,r4,_,_,E,r5,_,_,E,r6,_,_,E,r7,E⟩
theorem Ah7 {t:TypeId} {fs:Array Field} {α:Type} {e:α→SV} {p:α→Prop} {sz base:Nat} {v:Value} {d:DataW H} {ps:List MemPlace} (ht:Tryz.prog.underlying t=some (.struct fs)) (hO:OpN enc Tryz.prog W t e p sz) (he:∀ x,e x=.agg (cellsOf (e x)))
  (hval:Value.okWide Tryz.prog W .any base t v) (h1:DataW.Trod enc Tryz.prog W 0 (fun _=>true) true t v d ps):∃ x,p x∧Rd κ0 W (e x) v:=by
 obtain ⟨cs,rfl,_⟩:=okWide_struct ht hval
 obtain ⟨fuel,hf⟩:=h1
 obtain ⟨x,h1,_,h2,h3⟩:=hO _ _ _ hf
 refine⟨x,h1,?_⟩
 rw[he x]
 simp only[Rd]
 exact⟨cs.toList,by simp,by simpa [Value.cells] using h2,by simpa [Value.cells] using h3⟩
theorem rd_net {base:Nat} {v:Value} {d:DataW H} {ps:List MemPlace} (hval:Value.okWide Tryz.prog W .any base 31 v) (h1:DataW.Trod enc Tryz.prog W 0 (fun _=>true) true 31 v d ps):∃ n:Net,n.In∧Rd κ0 W (Al n) v :=
 Ah7 Tryz.underlying31 Ani (fun _=>rfl) hval h1
theorem Akt {t et:TypeId} {α:Type} {e:α→SV} {p:List α→Prop} {sz base:Nat} {v:Value} {d:DataW H} {ps:List MemPlace} (ht:Tryz.prog.underlying t=some (.slice et)) (hO:Op1 enc Tryz.prog W t (fun l:List α=>.sl sz e l) p)
  (hval:Value.okWide Tryz.prog W .any base t v) (h1:DataW.Trod enc Tryz.prog W 0 (fun _=>true) true t v d ps):∃ l,p l∧Rd κ0 W (.sl sz e l) v:=by
 obtain ⟨a,len,cap,rfl⟩:=okWide_slice ht hval
 obtain ⟨fuel,hf⟩:=h1
 obtain ⟨x,h1,h2,_⟩:=hO _ _ _ hf
 exact⟨x,h1,h2⟩
end
end Go.Sy.YteinjapglfkamaaGreat
namespace Go.Sy.YteinjapglfkamaaGreat
open Go.Proofs
attribute [local irreducible] Go.Sy.G Go.Sy.DR
set_option maxRecDepth 100000
set_option maxHeartbeats 8000000
def netW37:Net:=⟨[⟨0,0,⟨#[97]⟩,0,0⟩],[⟨0,0,10,1,-1,⟨#[112]⟩,[]⟩,⟨0,0,10,1,-1,⟨#[113]⟩,[]⟩,⟨0,0,20,1,-1,⟨#[114]⟩,[]⟩],[],[⟨0,10,0,-1,0,[]⟩,⟨0,20,0,-1,0,[]⟩],[],[],[],[]⟩
theorem Aae:netW37.Fin:=by
 constructor<;>first | (unfold Aj;decide) | (intro x hx;unfold Aj;simp only[netW37,List.mem_cons,List.not_mem_nil,or_false]at hx;first | (subst hx;decide) | (rcases hx with rfl | rfl<;>decide) | (rcases hx with rfl | rfl | rfl<;>decide) | exact hx.elim)
theorem Ak6:netW37.Num:=by
 refine⟨fun x hx=>?_,fun x hx=>?_⟩
 ·simp only[netW37,List.mem_cons,List.not_mem_nil,or_false]at hx
  subst hx
  decide
 ·cases hx
theorem S2:Ef netW37:=fun x hx=>by cases hx
def bytesW37:List UInt8:=Mz ⟨281474976710655,Qm,34997,[]⟩
theorem Ahs:wscriptT netW37 0 1=([⟨1,0,0,0,bytesW37,[]⟩,⟨2,0,0,0,[],[]⟩],0):=by kernel_rfl
theorem Ahr:wscriptT netW37 0 2=([],31):=by kernel_rfl
theorem wayW37:wayT netW37 0 1=([⟨0,0,0,0⟩],true):=by kernel_rfl
theorem wayB37:wayBytes netW37 []=([],2):=by kernel_rfl
theorem Amb:bytesW37.length=14:=by kernel_rfl
theorem Ve:Sy.Spec Tryz.prog 8 [] [] (Ab true) []:=cT F8 Tryz.ntmps8 fun F hF=>by
 have q1:=Vf netW37 Aae Ak6 S2 0 1
 have q2:=Vf netW37 Aae Ak6 S2 0 2
 have q3:=wayS netW37 Aae S2 0 1
 have q4:=S8 netW37 Aae S2 [] (by unfold Aj;decide) (fun h hh=>by cases hh)
 have hbl:=Amb
 rw[Ahs]at q1
 rw[Ahr]at q2
 rw[wayW37]at q3
 rw[wayB37]at q4
 generalize bytesW37=bs at *
 dsimp only at q1 q2 q3 q4
 conv=>whnf
 refine Iw 11 Bf netW37.devices E E ?_
 refine Aq 11 E ?_
 refine Aau 15 (netW37.ports.map A2) E (.cons (.agg (.cons (.refl _) (.cons (.refl _) (.cons (.refl _) (.cons (.refl _) (.cons (.refl _) (.cons (.refl _) (.cons .nil .nil)))))))) (.cons (.agg (.cons (.refl _) (.cons (.refl _) (.cons (.refl _) (.cons (.refl _) (.cons (.refl _) (.cons (.refl _) (.cons .nil .nil)))))))) (.cons (.agg (.cons (.refl _) (.cons (.refl _) (.cons (.refl _) (.cons (.refl _) (.cons (.refl _) (.cons (.refl _) (.cons .nil .nil)))))))) .nil))) E ?_
 refine Iw 15 A2 netW37.ports E E ?_
 refine Aq 15 E ?_
 refine Aau 18 (netW37.domains.map Ao) E (.cons (.agg (.cons (.refl _) (.cons (.refl _) (.cons (.refl _) (.cons (.refl _) (.cons (.refl _) (.cons .nil .nil))))))) (.cons (.agg (.cons (.refl _) (.cons (.refl _) (.cons (.refl _) (.cons (.refl _) (.cons (.refl _) (.cons .nil .nil))))))) .nil)) E ?_
 refine Iw 18 Ao netW37.domains E E ?_
 refine Aq 18 E ?_
 refine A8 1 (Ak8 netW37) E (.cons (.refl _) (.cons (.refl _) (.cons .nil (.cons (.refl _) (.cons .nil (.cons .nil (.cons .nil (.cons .nil .nil)))))))) ?_
 refine Amq 21 (Al netW37) (.agg (.cons (.refl _) (.cons (.refl _) (.cons .nil (.cons (.refl _) (.cons .nil (.cons .nil (.cons .nil (.cons .nil .nil))))))))) ?_
 refine C q1 F16 ?_
 refine C q2 F16 ?_
 refine C q3 F9 ?_
 refine X (Afg [] [] E F14 q4 (.cons (.refl _) (.cons .nil .nil)) Y E Y E) ?_
 refine⟨Nat.zero_lt_two,?_⟩
 refine T ?_
 refine⟨Nat.zero_lt_two,?_⟩
 refine T ?_
 refine⟨Nat.one_lt_two,?_⟩
 refine T ?_
 exact D
theorem toldS (l:List Hop) (hl:l.length<2147483648):Sy.Spec Tryz.prog 13 [.sl 4 Bl l] [] (.sl 4 Bl l) []:=cT F13 Tryz.ntmps13 fun F hF=>by
 conv=>whnf
 refine Cc 3 1000 4 Bl E E ?_
 refine Az l.length (fun j=>[(3,.osl 1000),(6,.sl 4 Bl l),(7,Aa l.length),(8,Aa j)]) (fun j=>[(1000,.row 4 Bl (l.take j))]) [] U ?_
 intro j hj
 refine T ?_
 refine⟨fun h=>?_,fun h=>?_⟩
 ·have hlt:j<l.length:=qA h
  have hj0:((j:Nat):Int).toNat<l.length:=by simpa using hlt
  have hs:l.take (j+1)=l.take j++[l[((j:Nat):Int).toNat]'hj0]:=List.take_succ_eq_append_getElem hlt
  refine T ?_
  refine X (Ah Γ.toTy 15 E E E E E (.row E) (.lit (e:=Bl) (l:=[l[((j:Nat):Int).toNat]'hj0]) E E) qy (by simp;omega) (by simp;omega)) ?_
  exact Ar [(1000,15)] hlt ⟨⟨E,E,E,E,E,E,E,E,Y⟩,⟨.inl (congrArg (Ob.row 4 Bl) hs),E,Y⟩,E,E⟩
 ·have hjj:j=l.length:=qB h
  subst hjj
  rw[List.take_length]
  refine T ?_
  refine Aq 1000 E ?_
  exact D
end Go.Sy.YteinjapglfkamaaGreat
