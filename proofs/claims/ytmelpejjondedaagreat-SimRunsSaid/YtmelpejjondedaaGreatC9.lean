/-
  K16 K17 K18 K19 K20 K21 K22 K23 K12 K13 K14 K24 K43 K44 Z5 Z6 Z7 Z8 Z9 Z10 Z11 Z12 Z13: parts of a proof, joined by program.
-/
import Derived.Test.YtmelpejjondedaaGreatC8
import Derived.Test.YtmelpejjondedaaGreatC5
import Derived.Test.YtmelpejjondedaaGreatC7
import Derived.Test.YtmelpejjondedaaGreatC6
import Derived.Tactics
import Derived.Tactics2
import Derived.Defers
import Derived.Laws.Pointers
import Derived.Laws.LoneSync
import Derived.RegionTactic
import Derived.RegionCalls
import Derived.ChangeAlike
import Derived.Laws.NewBlocks
namespace Go.Sy.YtmelpejjondedaaGreat
open Go.Proofs
attribute [local irreducible] Go.Sy.G Go.Sy.DR
set_option maxRecDepth 100000
set_option maxHeartbeats 4000000
def Aiv (n:Net) (fw:List Bool) (l:List Int):Prop:=∀ p ∈ l,0 ≤ p ∧ p < n.ports.length ∧ (nth n.ports p).link < fw.length
theorem Af4 (n:Net) (fw:List Bool) (at_ from_:Int) (ml l:List Int) (hl:Aq l) (hp:Aiv n fw l) :
  Sy.Spec Tryz.prog 241 [.ref 12 (Ls n fw at_ from_ ml) 0,.sl 1 Aa l] [] (.sl 1 Aa (B9 n fw from_ l)) []:=Ab Γ hm 100 F241 Tryz.ntmps241 rfl fun F hF=>by
 have q:=Wb l (fun p=>decide (p = from_) || !(usableB n fw p)) 289 [] [.ref 1 (.ref 12 (Ls n fw at_ from_ ml) 0) 0] rfl rfl (fun p h=>⟨⟨_,_,F289⟩,portsC n fw at_ from_ ml p (hp p h).1 (hp p h).2.1 (hp p h).2.2⟩) hl
 unfold Aq at hl
 conv=>whnf
 refine Bf 2 1 (.ref 12 (Ls n fw at_ from_ ml) 0) E E E ?_
 refine rg ?_;conv=>whnf
 refine Ai (Ak [(0,55)] E F95 (Ab2 l hl) E Y E ⟨.inr E,Y⟩) E E ?_
 refine rg ?_;conv=>whnf
 refine Ai (Ak [(0,55),(1,56)] E F291 q E ⟨E,Y⟩ E ⟨.inl E,.inr E,Y⟩) E E ?_
 refine rg ?_;conv=>whnf
 refine As 56 E ?_
 exact Ac E (.cons .tmp .nil) E E
theorem Ah6 (n:Net) (hn:n.Fin) (fw:List Bool) (dom from_:Int) (ml:List Int) (hd:Al dom n.domains.length = true) :
  Sy.Spec Tryz.prog 242 [.ref 12 (Ls n fw dom from_ ml) 0] [] (.sl 1 Aa (peersOut n dom from_)) []:=Ab Γ hm 100 F242 Tryz.ntmps242 rfl fun F hF=>by
 have hdi:=Bn hd
 have hd0:0 ≤ dom:=hdi.1
 have hkd:dom.toNat < n.domains.length:=by omega
 have e2:nth n.domains dom = n.domains[dom.toNat]:=Ao hkd
 have hpe:=hn.peers _ (List.getElem_mem hkd)
 have hres:=peersOut.eq_1 n dom from_
 generalize peersOut n dom from_ = res at *
 rw [e2] at hres
 obtain ⟨d,hdd⟩:∃ d,n.domains[dom.toNat]'hkd = d:=⟨_,rfl⟩
 rw [hdd] at hres hpe
 have qc:=Lk d.peers hpe
 conv=>whnf
 refine ⟨fun h=>?_,fun h=>?_⟩
 ·rw [if_pos (by simpa using h)] at hres
  subst hres
  refine rg ?_;conv=>whnf
  refine Am 2 1 Aa E ?_
  exact Ac E (.cons .tmp .nil) E E
 ·rw [if_neg (by simpa using h)] at hres
  subst hres
  refine rg ?_;conv=>whnf
  refine ⟨E,hd0,hkd,?_⟩
  rw [hdd]
  conv=>whnf
  refine At qc F95 E E E (by kernel_rfl) E ?_
  refine rd (by kernel_rfl) ?_;conv=>whnf
  refine ⟨(by kernel_rfl),?_⟩
  conv=>whnf
  exact Ac E (.cons .tmp .nil) E E
def J5 (n:Net) (fw:List Bool) (dom:Int):Bool:=Al dom n.domains.length && decide (fw.length = n.links.length) && Ah n
theorem Ah2 (n:Net) (hn:n.Fin) (fw:List Bool) (dom from_:Int) (h:J5 n fw dom = false) :
  Sy.Spec Tryz.prog 240 [Ap n,.sl 1 Ad fw,Aa dom,Aa from_] [] (.tup [.val (.pointer none),Ad false]) []:=Ab Γ hm 100 F240 Tryz.ntmps240 rfl fun F hF=>by
 have qr:=B3 n hn
 conv=>whnf
 refine ⟨fun h1=>?_,fun h1=>?_⟩
 ·(refine rg ?_;(conv=>whnf);refine aT ?_;refine rg ?_;(conv=>whnf);refine aT ?_;refine rg ?_;(conv=>whnf);refine aT ?_;refine rg ?_;conv=>whnf)
  exact Ac E (.cons .tmp (.cons .tmp .nil)) E E
 refine rg ?_;conv=>whnf
 refine ⟨fun h2=>?_,fun h2=>?_⟩
 ·(refine rg ?_;(conv=>whnf);refine aT ?_;refine rg ?_;(conv=>whnf);refine aT ?_;refine rg ?_;conv=>whnf)
  exact Ac E (.cons .tmp (.cons .tmp .nil)) E E
 refine rg ?_;conv=>whnf
 refine ⟨fun h3=>?_,fun h3=>?_⟩
 ·(refine rg ?_;(conv=>whnf);refine aT ?_;refine rg ?_;conv=>whnf)
  exact Ac E (.cons .tmp (.cons .tmp .nil)) E E
 refine rg ?_;conv=>whnf
 refine Ag qr F67 E E E E E ?_
 cases hbn:Ah n
 ·(refine rg ?_;(conv=>whnf);refine aT ?_;refine rg ?_;conv=>whnf)
  exact Ac E (.cons .tmp (.cons .tmp .nil)) E E
 ·exfalso
  have h4:Al dom n.domains.length = true:=Dx ⟨by simp at h1; omega,by simp at h2; omega⟩
  have h5:fw.length = n.links.length:=by simp at h3; omega
  simp [J5,h4,h5,hbn] at h
theorem Al3 (n:Net) (hn:n.Fin) (fw:List Bool) (dom from_:Int) (h:J5 n fw dom = true) :
  Sy.Spec Tryz.prog 240 [Ap n,.sl 1 Ad fw,Aa dom,Aa from_] [] (.tup [.ref 12 (Ls n fw dom from_ (Ax n dom)) 0,Ad (decide (from_ = -1) || decide (from_ = -2) || inB (Ax n dom) from_)]) []:=Ab Γ hm 100 F240 Tryz.ntmps240 rfl fun F hF=>by
 have qr:=B3 n hn
 simp only [J5,Bool.and_eq_true,decide_eq_true_eq] at h
 obtain ⟨⟨hd,hfw⟩,hbn⟩:=h
 rw [hbn] at qr
 have hdi:=Bn hd
 have qm:=Yz n hn dom
 have qc:=Du (Cb n dom) from_ (Hu n hn dom)
 have hmt:Cb n dom = Ax n dom:=by rw [Cb,if_pos ⟨⟨hdi.1,hdi.2⟩,hbn⟩]
 rw [hmt] at qm qc
 generalize Ax n dom = ml at *
 conv=>whnf
 refine ⟨fun h1=>absurd h1 (by simp; omega),fun _=>?_⟩
 refine rg ?_;conv=>whnf
 refine ⟨fun h1=>absurd h1 (by simp; omega),fun _=>?_⟩
 refine rg ?_;conv=>whnf
 refine ⟨fun h1=>absurd h1 (by simp; omega),fun _=>?_⟩
 refine rg ?_;conv=>whnf
 refine Ag qr F67 E E E E E ?_
 (refine rg ?_;(conv=>whnf);refine aF ?_;refine rg ?_;conv=>whnf)
 refine At qm F288 E E E (by kernel_rfl) E ?_
 refine rd (by kernel_rfl) ?_;conv=>whnf
 refine ⟨(by kernel_rfl),?_⟩
 conv=>whnf
 refine ⟨fun h1=>?_,fun h1=>?_⟩
 ·have h2:from_ = -1:=by simpa using h1
  refine Bf 41 12 (Ls n fw dom from_ ml) E E E ?_
  (refine rg ?_;(conv=>whnf);refine aT ?_;refine rg ?_;conv=>whnf)
  exact Ac E (.cons .tmp (.cons .tmp .nil)) (congrArg (fun z=>SV.tup [_,Ad z]) (by simp [h2])) E
 have h2:¬ from_ = -1:=by simpa using h1
 refine Bf 41 12 (Ls n fw dom from_ ml) E E E ?_
 refine rg ?_;conv=>whnf
 refine ⟨fun h3=>?_,fun h3=>?_⟩
 ·have h4:from_ = -2:=by simpa using h3
  refine rg ?_;conv=>whnf
  exact Ac E (.cons .tmp (.cons .tmp .nil)) (congrArg (fun z=>SV.tup [_,Ad z]) (by simp [h4])) E
 have h4:¬ from_ = -2:=by simpa using h3
 refine rg ?_;conv=>whnf
 refine Ag qc F86 E E E E E ?_
 refine rg ?_;conv=>whnf
 exact Ac E (.cons .tmp (.cons .tmp .nil)) (congrArg (fun z=>SV.tup [_,Ad z]) (by simp [h2,h4])) E
theorem Ly {n:Net} (hb:Ah n = true) {p:Int} (h0:0 ≤ p) (hp:p < n.ports.length):(nth n.ports p).link < n.links.length:=by
 have hk:p.toNat < n.ports.length:=by omega
 have e1:nth n.ports p = n.ports[p.toNat]:=Ao hk
 rw [e1]
 by_cases hl:0 ≤ n.ports[p.toNat].link
 ·have:=Km hb hk hl
  omega
 ·omega
theorem Xh {n:Net} {fw:List Bool} (hb:Ah n = true) (hf:fw.length = n.links.length) {l:List Int} (h:∀ p ∈ l,0 ≤ p ∧ p < n.ports.length):Aiv n fw l:=fun p hp =>
 ⟨(h p hp).1,(h p hp).2,by rw [hf]; exact Ly hb (h p hp).1 (h p hp).2⟩
theorem By {n:Net} {dom:Int}:∀ p ∈ Ax n dom,0 ≤ p ∧ p < n.ports.length:=fun p hp=>by
 rw [Ax,filtI_mem] at hp
 exact ⟨hp.1,hp.2.1⟩
theorem Ii {n:Net} (hn:n.Fin) (dom:Int):Aq (Ax n dom):=by
 have h1:=D8 (It n (nth n.domains dom)) n.ports.length
 have h2:=hn.ports
 unfold Aq at *
 rw [Ax]
 omega
theorem Io (n:Net) (fw:List Bool) (dom from_:Int):roomB n fw dom from_ = (J5 n fw dom && (decide (from_ = -1) || decide (from_ = -2) || inB (Ax n dom) from_)):=rfl
theorem floodS (n:Net) (hn:n.Fin) (fw:List Bool) (dom from_:Int) :
  Sy.Spec Tryz.prog 171 [Ap n,.sl 1 Ad fw,Aa dom,Aa from_] [] (.tup [.sl 1 Aa (floodT n fw dom from_).1,.sl 1 Aa (floodT n fw dom from_).2.1,Aa (floodT n fw dom from_).2.2]) []:=Ab Γ hm 100 F171 Tryz.ntmps171 rfl fun F hF=>by
 have hres:=floodT.eq_1 n fw dom from_
 generalize floodT n fw dom from_ = res at *
 rw [Io] at hres
 cases hbase:J5 n fw dom
 ·rw [hbase,Bool.false_and,if_pos rfl] at hres
  subst hres
  have q:=Ah2 n hn fw dom from_ hbase
  conv=>whnf
  refine Ag q F240 E E E E E ?_
  (refine rg ?_;(conv=>whnf);refine aT ?_;refine rg ?_;conv=>whnf)
  refine Am 8 1 Aa E ?_
  refine Am 9 1 Aa E ?_
  exact Ac E (.cons .tmp (.cons .tmp (.cons .tmp .nil))) E E
 rw [hbase,Bool.true_and] at hres
 have q:=Al3 n hn fw dom from_ hbase
 have hb2:=hbase
 simp only [J5,Bool.and_eq_true,decide_eq_true_eq] at hb2
 obtain ⟨⟨hd,hfw⟩,hbn⟩:=hb2
 have qp:=Af4 n fw dom from_ (Ax n dom) (Ax n dom) (Ii hn dom) (Xh hbn hfw By)
 have qe:=Ah6 n hn fw dom from_ (Ax n dom) hd
 generalize (decide (from_ = -1) || decide (from_ = -2) || inB (Ax n dom) from_) = ok at *
 generalize Ax n dom = ml at *
 conv=>whnf
 refine Ag q F240 E E E E E ?_
 cases ok
 ·rw [if_pos rfl] at hres
  subst hres
  (refine rg ?_;(conv=>whnf);refine aT ?_;refine rg ?_;conv=>whnf)
  refine Am 8 1 Aa E ?_
  refine Am 9 1 Aa E ?_
  exact Ac E (.cons .tmp (.cons .tmp (.cons .tmp .nil))) E E
 rw [if_neg (by decide)] at hres
 subst hres
 (refine rg ?_;(conv=>whnf);refine aF ?_;refine rg ?_;conv=>whnf)
 refine Ag qp F241 E E E E E ?_
 refine rg ?_;conv=>whnf
 refine Ag qe F242 E E E E E ?_
 refine rg ?_;conv=>whnf
 exact Ac E (.cons .tmp (.cons .tmp (.cons .tmp .nil))) E E
theorem To (l:List Static) (p:Static → Bool) (f:FuncId) (first cap:List SV) (hc:(SV.clo (.func f) first cap).inn [] = true) (hf:∀ x ∈ l,I4 Tryz.prog f (first ++ [Bp x] ++ cap) (Ad (p x))) (hl:Aq l) :
  Sy.Spec Tryz.prog 346 [.sl 4 Bp l,.clo (.func f) first cap] [] (Aa (C5 p l)) []:=Ab Γ hm 100 F346 Tryz.ntmps346 rfl fun F hF=>by
 unfold Aq at hl
 have hin:∀ x:Static,Ci [] (first ++ [Bp x] ++ cap) = true:=fun x=>Db hc rfl
 conv=>whnf
 refine A2 l.length (fun j=>C8 (fun _ x=>!(p x)) l j) (fun j=>[(0,.sl 4 Bp l),(1,.clo (.func f) first cap),(7,Aa l.length),(8,Aa j)]) (fun _=>[]) [] (A5 _ _) ⟨⟨E,E,Bm _,hc,E,E,E,E,Y⟩,Y,E,E⟩ ?_
 intro j hj hI
 refine rg ?_;conv=>whnf
 refine ⟨fun h=>?_,fun h=>?_⟩
 ·have h:=of_decide_eq_true h
  have hj2:j < l.length:=by omega
  refine rg ?_;conv=>whnf
  refine ⟨E,by omega,by omega,?_⟩
  conv=>whnf
  refine Ei (hf l[j] (List.getElem_mem hj2)) E E E (by simp only [hin]; rfl) E E ?_
  refine rg ?_;conv=>whnf
  refine ⟨fun h2=>?_,fun h2=>?_⟩
  ·refine rg ?_;conv=>whnf
   refine Ac E (.cons .tmp .nil) (congrArg Aa ?_) E
   exact Cs hj2 (fun i hi hij=>by simpa using hI i hi hij) h2
  ·refine rg ?_;conv=>whnf
   refine ⟨by unfold I64; omega,?_⟩
   conv=>whnf
   exact Aw [] hI hj2 (A3 hI hj2 (by simp [h2])) ⟨⟨E,E,Bm _,hc,E,E,E,E,Y⟩,Y,E,E⟩
 ·have h:=of_decide_eq_false h
  refine rg ?_;conv=>whnf
  refine Ac E (.cons .tmp .nil) (congrArg Aa ?_) E
  exact C3 (fun i hi=>by simpa using hI i hi (by omega))
theorem entryC (dom:Int) (m:Nat) (s:Static):Sy.Spec Tryz.prog 347 [Bp s,.ref 1 (Aa dom) 0,.ref 1 (Az m) 0] [] (Ad (decide (s.domain = dom) && decide (s.mac = (m:Int)))) []:=Ab Γ hm 100 F347 Tryz.ntmps347 rfl fun F hF=>by
 conv=>whnf
 refine ⟨fun h=>?_,fun h=>?_⟩
 ·refine rg ?_;conv=>whnf
  refine Ac E (.cons .tmp .nil) (congrArg Ad ?_) E
  have h1:s.domain = dom:=by simpa using h
  rw [decide_eq_true h1,Bool.true_and,Bool.eq_iff_iff]
  simp
 ·refine rg ?_;conv=>whnf
  refine Ac E (.cons .tmp .nil) (congrArg Ad ?_) E
  have h1:¬ s.domain = dom:=by simpa using h
  rw [decide_eq_false h1,Bool.false_and]
theorem entryI (n:Net) (hn:n.Fin) (dom:Int) (m:Nat):Sy.Spec Tryz.prog 333 [Ap n,Aa dom,Az m] [] (Aa (C9 n dom m)) []:=Ab Γ hm 100 F333 Tryz.ntmps333 rfl fun F hF=>by
 have q:=To n.statics (fun s:Static=>decide (s.domain = dom) && decide (s.mac = (m:Int))) 347 [] [.ref 1 (Aa dom) 0,.ref 1 (Az m) 0] rfl (fun x _=>⟨⟨_,_,F347⟩,entryC dom m x⟩) hn.statics
 conv=>whnf
 refine Bf 4 1 (Aa dom) E E E ?_
 refine Bf 5 1 (Az m) E E E ?_
 refine rg ?_;conv=>whnf
 refine Ag q F346 E E E E E ?_
 refine rg ?_;conv=>whnf
 exact Ac E (.cons .tmp .nil) E E
def staticP (n:Net) (dom:Int) (m:Nat):Int:=if 0 ≤ C9 n dom m then (nth n.statics (C9 n dom m)).port else -1
theorem Ahf (n:Net) (hn:n.Fin) (hb:Ah n = true) (dom:Int) (m:Nat):Sy.Spec Tryz.prog 306 [Ap n,Aa dom,Az m] [] (Aa (staticP n dom m)) []:=Ab Γ hm 100 F306 Tryz.ntmps306 rfl fun F hF=>by
 have q:=entryI n hn dom m
 have qr:=B3 n hn
 rw [hb] at qr
 have hlt:C9 n dom m < n.statics.length:=Ij _ _
 have hres:=staticP.eq_1 n dom m
 generalize staticP n dom m = res at *
 generalize C9 n dom m = i at *
 conv=>whnf
 refine Ag q F333 E E E E E ?_
 refine rg ?_;conv=>whnf
 refine ⟨fun h=>?_,fun h=>?_⟩
 ·rw [if_neg (by simp at h; omega)] at hres
  subst hres
  (refine rg ?_;(conv=>whnf);refine aT ?_;refine rg ?_;conv=>whnf)
  exact Ac E (.cons .tmp .nil) E E
 ·have h0:0 ≤ i:=by simp at h; omega
  have hk:i.toNat < n.statics.length:=by omega
  have e1:nth n.statics i = n.statics[i.toNat]:=Ao hk
  rw [if_pos h0,e1] at hres
  refine rg ?_;conv=>whnf
  refine Ag qr F67 E E E E E ?_
  (refine rg ?_;(conv=>whnf);refine aF ?_;refine rg ?_;conv=>whnf)
  refine ⟨E,h0,hk,?_⟩
  conv=>whnf
  exact Ac E (.cons .tmp .nil) (congrArg Aa hres) E
def knownT (n:Net) (fw:List Bool) (t:List EntryM) (dom from_:Int) (m:Nat):List Int × List Int × Bool :=
 if 0 ≤ staticP n dom m then (B9 n fw from_ [staticP n dom m],[],true)
 else if (findE t m).2 = false then ([],[],false)
 else if 0 ≤ (findE t m).1 ∧ inB (Ax n dom) (findE t m).1 = true then (B9 n fw from_ [(findE t m).1],[],true)
 else if (findE t m).1 < 0 ∧ inB (nth n.domains dom).peers (-1 - (findE t m).1) = true then (if from_ = -1 then ([],[],true) else ([],[-1 - (findE t m).1],true))
 else ([],[],false)
theorem Mn {n:Net} (hb:Ah n = true) (dom:Int) (m:Nat) (h:0 ≤ staticP n dom m):staticP n dom m < n.ports.length:=by
 unfold staticP at h ⊢
 split at h
 ·rename_i h0
  rw [if_pos h0]
  have hlt:C9 n dom m < n.statics.length:=Ij _ _
  have hk:(C9 n dom m).toNat < n.statics.length:=by omega
  simp only [Ah,Bool.and_eq_true] at hb
  have:=allB_iff.1 hb.1.1.1.2 _ hk
  simp only [E6,Bool.and_eq_true,Al,decide_eq_true_eq] at this
  rw [Ao hk]
  exact this.1.1.2.2
 ·omega
theorem knownS (n:Net) (hn:n.Fin) (fw:List Bool) (t:List EntryM) (dom from_:Int) (m:Nat) (hl:Aq t) (hw:I64 (-1 - (findE t m).1)) (hbase:J5 n fw dom = true) :
  Sy.Spec Tryz.prog 249 [.ref 12 (Ls n fw dom from_ (Ax n dom)) 0,.sl 3 An t,Az m] [] (.tup [.sl 1 Aa (knownT n fw t dom from_ m).1,.sl 1 Aa (knownT n fw t dom from_ m).2.1,Ad (knownT n fw t dom from_ m).2.2]) []:=Ab Γ hm 100 F249 Tryz.ntmps249 rfl fun F hF=>by
 simp only [J5,Bool.and_eq_true,decide_eq_true_eq] at hbase
 obtain ⟨⟨hd,hfw⟩,hbn⟩:=hbase
 have hdi:=Bn hd
 have hd0:0 ≤ dom:=hdi.1
 have hkd:dom.toNat < n.domains.length:=by omega
 have e2:nth n.domains dom = n.domains[dom.toNat]:=Ao hkd
 have hpe:=hn.peers _ (List.getElem_mem hkd)
 have hres:=knownT.eq_1 n fw t dom from_ m
 have qs:=Ahf n hn hbn dom m
 have hsp:=Mn hbn dom m
 have qf:=Alp t m hl
 have qp:∀ p:Int,0 ≤ p → p < n.ports.length → _:=fun p h0 h1=>Af4 n fw dom from_ (Ax n dom) [p] (by unfold Aq; simp) (Xh hbn hfw (l:=[p]) (fun x hx=>by rw [List.mem_singleton] at hx; subst hx; exact ⟨h0,h1⟩))
 have hmem:∀ p,inB (Ax n dom) p = true → 0 ≤ p ∧ p < n.ports.length:=fun p hp=>By p (inB_mem.1 hp)
 have qc:=fun x=>Du (Ax n dom) x (Ii hn dom)
 rw [e2] at hres
 obtain ⟨d,hdd⟩:∃ d,n.domains[dom.toNat]'hkd = d:=⟨_,rfl⟩
 rw [hdd] at hres hpe
 have qc2:=fun x=>Du d.peers x hpe
 generalize knownT n fw t dom from_ m = res at *
 generalize staticP n dom m = sp at *
 generalize findE t m = fe at *
 obtain ⟨w,ok⟩:=fe
 dsimp only at hres hw qf
 generalize Ax n dom = ml at *
 conv=>whnf
 refine At qs F306 E E E (by kernel_rfl) E ?_
 refine rd (by kernel_rfl) ?_;conv=>whnf
 refine ⟨(by kernel_rfl),?_⟩
 conv=>whnf
 refine ⟨fun h1=>?_,fun h1=>?_⟩
 ·have h2:0 ≤ sp:=by simpa using h1
  rw [if_pos h2] at hres
  subst hres
  refine rg ?_;conv=>whnf
  refine D9 25 Aa [sp] E E ?_
  refine As 25 E ?_
  refine Ag (qp sp h2 (hsp h2)) F241 E E E E E ?_
  refine rg ?_;conv=>whnf
  refine Am 7 1 Aa E ?_
  exact Ac E (.cons .tmp (.cons .tmp (.cons .tmp .nil))) E E
 have h2:¬ 0 ≤ sp:=by simp at h1; omega
 rw [if_neg h2] at hres
 refine rg ?_;conv=>whnf
 refine Ag qf F307 E E E E E ?_
 cases ok
 ·rw [if_pos rfl] at hres
  subst hres
  (refine rg ?_;(conv=>whnf);refine aT ?_;refine rg ?_;conv=>whnf)
  refine Am 6 1 Aa E ?_
  refine Am 7 1 Aa E ?_
  exact Ac E (.cons .tmp (.cons .tmp (.cons .tmp .nil))) E E
 rw [if_neg (by decide)] at hres
 (refine rg ?_;(conv=>whnf);refine aF ?_;refine rg ?_;conv=>whnf)
 refine ⟨fun h3=>?_,fun h3=>?_⟩
 ·have h4:0 ≤ w:=by simpa using h3
  refine rg ?_;conv=>whnf
  refine Ag (qc w) F86 E E E E E ?_
  cases hin:inB ml w
  ·rw [if_neg (by simp [hin]),if_neg (by omega)] at hres
   subst hres
   (refine rg ?_;(conv=>whnf);refine aF ?_;refine rg ?_;conv=>whnf)
   refine ⟨fun h5=>absurd h5 (by simp; omega),fun _=>?_⟩
   refine rd (by kernel_rfl) ?_;conv=>whnf
   refine ⟨(by kernel_rfl),?_⟩
   ((conv=>whnf);refine aF ?_;refine rg ?_;conv=>whnf)
   refine Am 6 1 Aa E ?_
   refine Am 7 1 Aa E ?_
   exact Ac E (.cons .tmp (.cons .tmp (.cons .tmp .nil))) E E
  ·rw [if_pos ⟨h4,hin⟩] at hres
   subst hres
   (refine rg ?_;(conv=>whnf);refine aT ?_;refine rg ?_;conv=>whnf)
   refine D9 49 Aa [w] E E ?_
   refine As 49 E ?_
   refine Ag (qp w h4 (hmem w hin).2) F241 E E E E E ?_
   refine rg ?_;conv=>whnf
   refine Am 7 1 Aa E ?_
   exact Ac E (.cons .tmp (.cons .tmp (.cons .tmp .nil))) E E
 have h4:¬ 0 ≤ w:=by simp at h3; omega
 rw [if_neg (by omega)] at hres
 (refine rg ?_;(conv=>whnf);refine aF ?_;refine rg ?_;conv=>whnf)
 refine ⟨fun h5=>?_,fun h5=>absurd h5 (by simp; omega)⟩
 refine rd (by kernel_rfl) ?_;conv=>whnf
 refine ⟨E,hd0,hkd,?_⟩
 rw [hdd]
 conv=>whnf
 refine ⟨hw,?_⟩
 conv=>whnf
 refine At (qc2 (-1 - w)) F86 E E E (by kernel_rfl) E ?_
 cases hin:inB d.peers (-1 - w)
 ·rw [if_neg (by simp [hin])] at hres
  subst hres
  refine rd (by kernel_rfl) ?_;conv=>whnf
  refine ⟨(by kernel_rfl),?_⟩
  ((conv=>whnf);refine aF ?_;refine rg ?_;conv=>whnf)
  refine Am 6 1 Aa E ?_
  refine Am 7 1 Aa E ?_
  exact Ac E (.cons .tmp (.cons .tmp (.cons .tmp .nil))) E E
 rw [if_pos ⟨by omega,hin⟩] at hres
 refine rd (by kernel_rfl) ?_;conv=>whnf
 refine ⟨(by kernel_rfl),?_⟩
 ((conv=>whnf);refine aT ?_;refine rg ?_;conv=>whnf)
 refine ⟨fun h6=>?_,fun h6=>?_⟩
 ·rw [if_pos (by simpa using h6)] at hres
  subst hres
  refine rg ?_;conv=>whnf
  refine Am 6 1 Aa E ?_
  refine Am 7 1 Aa E ?_
  exact Ac E (.cons .tmp (.cons .tmp (.cons .tmp .nil))) E E
 ·rw [if_neg (by simpa using h6)] at hres
  subst hres
  refine rg ?_;conv=>whnf
  refine ⟨hw,?_⟩
  conv=>whnf
  refine Am 6 1 Aa E ?_
  refine D9 78 Aa [-1 - w] E E ?_
  refine As 78 E ?_
  exact Ac E (.cons .tmp (.cons .tmp (.cons .tmp .nil))) E E
theorem Lq {n:Net} (hb:Ah n = true) (dom:Int) (m:Nat):(0 ≤ staticP n dom m ↔ 0 ≤ C9 n dom m) ∧ (0 ≤ C9 n dom m → staticP n dom m = (nth n.statics (C9 n dom m)).port):=by
 refine ⟨⟨fun h=>?_,fun h=>?_⟩,fun h=>by rw [staticP,if_pos h]⟩
 ·unfold staticP at h
  split at h
  ·assumption
  ·omega
 ·rw [staticP,if_pos h]
  have hlt:C9 n dom m < n.statics.length:=Ij _ _
  have hk:(C9 n dom m).toNat < n.statics.length:=by omega
  simp only [Ah,Bool.and_eq_true] at hb
  have:=allB_iff.1 hb.1.1.1.2 _ hk
  simp only [E6,Bool.and_eq_true,Al,decide_eq_true_eq] at this
  rw [Ao hk]
  exact this.1.1.2.1
theorem Apl {n:Net} {fw:List Bool} {t:List EntryM} {dom from_:Int} {m:Nat} (hb:Ah n = true) (hr:roomB n fw dom from_ = true) (hg:Dt m = false) :
  decideT n fw t dom from_ m = if (knownT n fw t dom from_ m).2.2 = true then ((knownT n fw t dom from_ m).1,(knownT n fw t dom from_ m).2.1,0) else (B9 n fw from_ (Ax n dom),peersOut n dom from_,0):=by
 obtain ⟨h1,h2⟩:=Lq hb dom m
 rw [decideT,if_neg (by rw [hr]; decide),if_neg (by rw [hg]; decide)]
 unfold knownT
 by_cases hs:0 ≤ C9 n dom m
 ·rw [if_pos hs,if_pos (h1.2 hs),h2 hs]; rfl
 rw [if_neg hs,if_neg (fun h=>hs (h1.1 h))]
 generalize findE t m = fe
 obtain ⟨w,ok⟩:=fe
 cases ok
 ·simp
 simp only [Bool.true_eq_false,if_false,true_and]
 by_cases ha:0 ≤ w ∧ inB (Ax n dom) w = true
 ·rw [if_pos ha,if_pos ha]; rfl
 rw [if_neg ha,if_neg ha]
 by_cases hc:w < 0 ∧ inB (nth n.domains dom).peers (-1 - w) = true
 ·rw [if_pos hc,if_pos hc]
  split <;> rfl
 ·rw [if_neg hc,if_neg hc]; rfl
theorem Apm (n:Net) (hn:n.Fin) (fw:List Bool) (t:List EntryM) (dom from_:Int) (m:Nat) (hl:Aq t) (hw:I64 (-1 - (findE t m).1)) (hm64:m < 18446744073709551616) :
  Sy.Spec Tryz.prog 176 [Ap n,.sl 1 Ad fw,.sl 3 An t,Aa dom,Aa from_,Az m] [] (.tup [.sl 1 Aa (decideT n fw t dom from_ m).1,.sl 1 Aa (decideT n fw t dom from_ m).2.1,Aa (decideT n fw t dom from_ m).2.2]) []:=Ab Γ hm 100 F176 Tryz.ntmps176 rfl fun F hF=>by
 cases hbase:J5 n fw dom
 ·have hres:decideT n fw t dom from_ m = ([],[],2):=by
   rw [decideT,if_pos (by rw [Io,hbase]; rfl)]
  rw [hres]
  have q:=Ah2 n hn fw dom from_ hbase
  conv=>whnf
  refine Ag q F240 E E E E E ?_
  (refine rg ?_;(conv=>whnf);refine aT ?_;refine rg ?_;conv=>whnf)
  refine Am 12 1 Aa E ?_
  refine Am 13 1 Aa E ?_
  exact Ac E (.cons .tmp (.cons .tmp (.cons .tmp .nil))) E E
 have q:=Al3 n hn fw dom from_ hbase
 have qk:=knownS n hn fw t dom from_ m hl hw hbase
 have qg:=K9 m hm64
 have hb2:=hbase
 simp only [J5,Bool.and_eq_true,decide_eq_true_eq] at hb2
 obtain ⟨⟨hd,hfw⟩,hbn⟩:=hb2
 have qp:=Af4 n fw dom from_ (Ax n dom) (Ax n dom) (Ii hn dom) (Xh hbn hfw By)
 have qe:=Ah6 n hn fw dom from_ (Ax n dom) hd
 have hroom:=Io n fw dom from_
 rw [hbase,Bool.true_and] at hroom
 have hbad:roomB n fw dom from_ = false → decideT n fw t dom from_ m = ([],[],2):=fun h=>by rw [decideT,if_pos h]
 have hgrp:roomB n fw dom from_ = true → Dt m = true → decideT n fw t dom from_ m = (B9 n fw from_ (Ax n dom),peersOut n dom from_,0):=fun h h2=>by
  rw [decideT,if_neg (by rw [h]; decide),if_pos h2]
 have hkn:=fun h h2=>@Apl n fw t dom from_ m hbn h h2
 generalize decideT n fw t dom from_ m = res at *
 generalize knownT n fw t dom from_ m = kn at *
 obtain ⟨kp,ke,ko⟩:=kn
 generalize roomB n fw dom from_ = rm at *
 generalize (decide (from_ = -1) || decide (from_ = -2) || inB (Ax n dom) from_) = ok at *
 subst hroom
 generalize Ax n dom = ml at *
 dsimp only at hkn qk
 conv=>whnf
 refine Ag q F240 E E E E E ?_
 cases rm
 ·rw [hbad rfl]
  (refine rg ?_;(conv=>whnf);refine aT ?_;refine rg ?_;conv=>whnf)
  refine Am 12 1 Aa E ?_
  refine Am 13 1 Aa E ?_
  exact Ac E (.cons .tmp (.cons .tmp (.cons .tmp .nil))) E E
 (refine rg ?_;(conv=>whnf);refine aF ?_;refine rg ?_;conv=>whnf)
 refine Ag qg F162 E E E E E ?_
 cases hg:Dt m
 ·have hkn:=hkn rfl hg
  (refine rg ?_;(conv=>whnf);refine aT ?_;refine rg ?_;conv=>whnf)
  refine Ag qk F249 E E E E E ?_
  cases ko
  ·rw [if_neg (by decide)] at hkn
   subst hkn
   (refine rg ?_;(conv=>whnf);refine aF ?_;refine rg ?_;conv=>whnf)
   refine Ag qp F241 E E E E E ?_
   refine rg ?_;conv=>whnf
   refine Ag qe F242 E E E E E ?_
   refine rg ?_;conv=>whnf
   exact Ac E (.cons .tmp (.cons .tmp (.cons .tmp .nil))) E E
  ·rw [if_pos rfl] at hkn
   subst hkn
   (refine rg ?_;(conv=>whnf);refine aT ?_;refine rg ?_;conv=>whnf)
   exact Ac E (.cons .tmp (.cons .tmp (.cons .tmp .nil))) E E
 ·rw [hgrp rfl hg]
  (refine rg ?_;(conv=>whnf);refine aF ?_;refine rg ?_;conv=>whnf)
  refine Ag qp F241 E E E E E ?_
  refine rg ?_;conv=>whnf
  refine Ag qe F242 E E E E E ?_
  refine rg ?_;conv=>whnf
  exact Ac E (.cons .tmp (.cons .tmp (.cons .tmp .nil))) E E
theorem S9 (n:Net) (fw:List Bool) (p:Int) (h0:0 ≤ p) (hp:p < n.ports.length) (hl:(nth n.ports p).link < fw.length) (hneg:(nth n.ports p).link = -1 ∨ 0 ≤ (nth n.ports p).link):Sy.Spec Tryz.prog 211 [Ap n,.sl 1 Ad fw,Aa p] [] (Ad (usableB n fw p)) []:=Ab Γ hm 100 F211 Tryz.ntmps211 rfl fun F hF=>by
 have q:=Ba p n.ports.length
 rw [Dx ⟨h0,hp⟩] at q
 have hk:p.toNat < n.ports.length:=by omega
 have e1:nth n.ports p = n.ports[p.toNat]:=Ao hk
 have hu:=usableB.eq_1 n fw p
 generalize usableB n fw p = res at *
 rw [e1] at hu hl hneg
 obtain ⟨x,hx⟩:∃ x,n.ports[p.toNat]'hk = x:=⟨_,rfl⟩
 rw [hx] at hu hl hneg
 conv=>whnf
 refine Ag q F35 E E E E E ?_
 (refine rg ?_;(conv=>whnf);refine aT ?_;refine rg ?_;conv=>whnf)
 refine ⟨E,h0,hk,?_⟩
 rw [hx]
 conv=>whnf
 refine ⟨fun h=>?_,fun h=>?_⟩
 ·have h1:x.link = -1:=by simpa using h
  rw [decide_eq_true (by omega),Bool.true_or] at hu
  subst hu
  refine rg ?_;conv=>whnf
  exact Ac E (.cons .tmp .nil) E E
 ·have h1:¬ x.link = -1:=by simpa using h
  have h2:x.link.toNat < fw.length:=by omega
  rw [decide_eq_false (by omega),Bool.false_or,List.getElem?_eq_getElem h2] at hu
  refine rg ?_;conv=>whnf
  refine ⟨E,h0,hk,?_⟩
  rw [hx]
  conv=>whnf
  refine ⟨E,by omega,h2,?_⟩
  conv=>whnf
  exact Ac E (.cons .tmp .nil) (congrArg Ad hu) E
theorem Afq (n:Net) (hn:n.Fin) (fw:List Bool) (dom from_:Int):Sy.Spec Tryz.prog 209 [Ap n,.sl 1 Ad fw,Aa dom,Aa from_] [] (Ad (roomB n fw dom from_)) []:=Ab Γ hm 100 F209 Tryz.ntmps209 rfl fun F hF=>by
 have hr:=Dv n hn
 have hpl:=Ba dom n.domains.length
 have hres:=roomB.eq_1 n fw dom from_
 generalize roomB n fw dom from_ = res at *
 conv=>whnf
 refine Ag hr F74 E E E E E ?_
 cases hbn:Ah n
 ·rw [hbn,Bool.and_false,Bool.false_and] at hres
  subst hres
  (refine rg ?_;(conv=>whnf);refine aT ?_;refine rg ?_;(conv=>whnf);refine aT ?_;refine rg ?_;(conv=>whnf);refine aT ?_;refine rg ?_;conv=>whnf)
  exact Ac E (.cons .tmp .nil) E E
 (refine rg ?_;(conv=>whnf);refine aF ?_;refine rg ?_;conv=>whnf)
 refine ⟨fun h=>?_,fun h=>?_⟩
 ·have h1:¬ fw.length = n.links.length:=by simp at h; omega
  rw [decide_eq_false h1,Bool.and_false,Bool.false_and,Bool.false_and] at hres
  subst hres
  (refine rg ?_;(conv=>whnf);refine aT ?_;refine rg ?_;conv=>whnf)
  exact Ac E (.cons .tmp .nil) E E
 have h1:fw.length = n.links.length:=by simp at h; omega
 refine rg ?_;conv=>whnf
 refine Ag hpl F35 E E E E E ?_
 cases hd:Al dom n.domains.length
 ·rw [hd,Bool.false_and,Bool.false_and,Bool.false_and] at hres
  subst hres
  (refine rg ?_;(conv=>whnf);refine aT ?_;refine rg ?_;conv=>whnf)
  exact Ac E (.cons .tmp .nil) E E
 have hdi:=Bn hd
 have qm:=Kd n hn hbn dom
 have qi:=Ek (Cb n dom) from_ (Hu n hn dom)
 have hmt:Cb n dom = Ax n dom:=by rw [Cb,if_pos ⟨⟨hdi.1,hdi.2⟩,hbn⟩]
 rw [hmt] at qm qi
 rw [hd,hbn,decide_eq_true h1,Bool.true_and,Bool.true_and,Bool.true_and] at hres
 generalize Ax n dom = ml at *
 (refine rg ?_;(conv=>whnf);refine aF ?_;refine rg ?_;conv=>whnf)
 refine ⟨fun h2=>?_,fun h2=>?_⟩
 ·have h3:from_ = -1:=by simpa using h2
  rw [decide_eq_true h3,Bool.true_or,Bool.true_or] at hres
  subst hres
  (refine rg ?_;(conv=>whnf);refine aT ?_;refine rg ?_;conv=>whnf)
  exact Ac E (.cons .tmp .nil) E E
 have h3:¬ from_ = -1:=by simpa using h2
 refine rg ?_;conv=>whnf
 refine ⟨fun h4=>?_,fun h4=>?_⟩
 ·have h5:from_ = -2:=by simpa using h4
  rw [decide_eq_true h5,Bool.or_true,Bool.true_or] at hres
  subst hres
  refine rg ?_;conv=>whnf
  exact Ac E (.cons .tmp .nil) E E
 have h5:¬ from_ = -2:=by simpa using h4
 rw [decide_eq_false h3,decide_eq_false h5,Bool.false_or,Bool.false_or] at hres
 subst hres
 refine rg ?_;conv=>whnf
 refine Ag qm F210 E E E E E ?_
 refine rg ?_;conv=>whnf
 refine Ag qi F142 E E E E E ?_
 refine rg ?_;conv=>whnf
 exact Ac E (.cons .tmp .nil) E E
theorem Qq {n:Net} (hb:Ah n = true) {p:Int} (h0:0 ≤ p) (hp:p < n.ports.length):(nth n.ports p).link = -1 ∨ 0 ≤ (nth n.ports p).link:=by
 have hk:p.toNat < n.ports.length:=by omega
 rw [Ao hk]
 simp only [Ah,Bool.and_eq_true] at hb
 have:=allB_iff.1 hb.1.1.1.1.1.2 _ hk
 simp only [El,Bool.and_eq_true,Bool.or_eq_true,Al,decide_eq_true_eq,beq_iff_eq] at this
 rcases this.2 with h | h
 ·exact .inl h
 ·exact .inr h.1.1
theorem Yv (n:Net) (fw:List Bool) (from_:Int) (l:List Int) {j:Nat} (h:j < l.length):B9 n fw from_ (l.take (j + 1)) = if (!(decide (l[j] = from_) || !(usableB n fw l[j]))) = true then B9 n fw from_ (l.take j) ++ [l[j]] else B9 n fw from_ (l.take j):=by
 simp only [B9]
 rw [List.take_add_one,List.getElem?_eq_getElem h,List.filter_append,Option.toList_some]
 by_cases hc:(!(decide (l[j] = from_) || !(usableB n fw l[j]))) = true
 ·rw [if_pos hc,List.filter_cons,if_pos hc]; rfl
 ·rw [if_neg hc,List.filter_cons,if_neg hc]; simp
theorem V5 (n:Net) (fw:List Bool) (from_:Int) (l:List Int):(B9 n fw from_ l).length ≤ l.length:=List.length_filter_le _ _
theorem Ve (n:Net) (hn:n.Fin) (fw:List Bool) (dom from_:Int) :
  Sy.Spec Tryz.prog 143 [Ap n,.sl 1 Ad fw,Aa dom,Aa from_] [] (.tup [.sl 1 Aa (floodT n fw dom from_).1,.sl 1 Aa (floodT n fw dom from_).2.1,Aa (floodT n fw dom from_).2.2]) []:=Ab Γ hm 100 F143 Tryz.ntmps143 rfl fun F hF=>by
 have hres:=floodT.eq_1 n fw dom from_
 generalize floodT n fw dom from_ = res at *
 have qf:=Afq n hn fw dom from_
 cases hroom:roomB n fw dom from_
 ·rw [hroom] at qf
  rw [if_pos hroom] at hres
  subst hres
  conv=>whnf
  refine Ag qf F209 E E E E E ?_
  (refine rg ?_;(conv=>whnf);refine aT ?_;refine rg ?_;conv=>whnf)
  refine Am 8 1 Aa E ?_
  refine Am 9 1 Aa E ?_
  exact Ac E (.cons .tmp (.cons .tmp (.cons .tmp .nil))) E E
 rw [hroom] at qf
 rw [if_neg (by rw [hroom]; decide)] at hres
 have hb2:J5 n fw dom = true:=by rw [Io,Bool.and_eq_true] at hroom; exact hroom.1
 simp only [J5,Bool.and_eq_true,decide_eq_true_eq] at hb2
 obtain ⟨⟨hd,hfw⟩,hbn⟩:=hb2
 have hdi:=Bn hd
 have hd0:0 ≤ dom:=hdi.1
 have hkd:dom.toNat < n.domains.length:=by omega
 have e2:nth n.domains dom = n.domains[dom.toNat]:=Ao hkd
 have qm:=Kd n hn hbn dom
 have hmt:Cb n dom = Ax n dom:=by rw [Cb,if_pos ⟨⟨hdi.1,hdi.2⟩,hbn⟩]
 rw [hmt] at qm
 have hml:=Ii hn dom
 have qu:∀ p ∈ Ax n dom,_:=fun p hp=>S9 n fw p (By p hp).1 (By p hp).2 (by rw [hfw]; exact Ly hbn (By p hp).1 (By p hp).2) (Qq hbn (By p hp).1 (By p hp).2)
 have hpo:=peersOut.eq_1 n dom from_
 rw [e2] at hpo
 obtain ⟨d,hdd⟩:∃ d,n.domains[dom.toNat]'hkd = d:=⟨_,rfl⟩
 rw [hdd] at hpo
 generalize Ax n dom = ml at *
 generalize peersOut n dom from_ = po at *
 unfold Aq at hml
 conv=>whnf
 refine Ag qf F209 E E E E E ?_
 (refine rg ?_;(conv=>whnf);refine aF ?_;refine rg ?_;conv=>whnf)
 refine Ag qm F210 E E E E E ?_
 refine rg ?_;conv=>whnf
 refine Bs 11 1000 1 Aa E E ?_
 refine Bf 4 8 (Ap n) E E E ?_
 refine Av ml.length (fun j=>[(1,.sl 1 Ad fw),(2,Aa dom),(3,Aa from_),(4,.ref 8 (Ap n) 0),(11,.osl 1000),(12,.sl 1 Aa ml),(13,Aa j)]) (fun j=>[(1000,.row 1 Aa (B9 n fw from_ (ml.take j)))]) [] ⟨⟨E,E,E,E,E,E,E,E,E,E,E,E,E,E,Y⟩,⟨.inl E,E,Y⟩,E,E⟩ ?_
 intro j hj
 have hsucc:=fun h:j < ml.length=>Yv n fw from_ ml h
 have hlen:=V5 n fw from_ (ml.take j)
 rw [List.length_take] at hlen
 obtain ⟨u,hu⟩:∃ u,B9 n fw from_ (ml.take j) = u:=⟨_,rfl⟩
 rw [hu] at hsucc hlen ⊢
 refine rg ?_;conv=>whnf
 refine ⟨fun h=>?_,fun h=>?_⟩
 ·have hlt:j < ml.length:=by have:=of_decide_eq_true h; omega
  have hs:=hsucc hlt
  have qx:=qu ml[j] (List.getElem_mem hlt)
  have hej:ml[((j:Nat):Int).toNat]'(by omega) = ml[j]:=rfl
  obtain ⟨x,hx⟩:∃ x,ml[j] = x:=⟨_,rfl⟩
  rw [hx] at hs qx hej
  refine rg ?_;conv=>whnf
  refine ⟨E,by omega,by omega,?_⟩
  rw [hej]
  conv=>whnf
  refine ⟨fun h2=>?_,fun h2=>?_⟩
  ·have h3:¬ x = from_:=by simpa using h2
   refine rd (by kernel_rfl) ?_;conv=>whnf
   refine ⟨E,by omega,by omega,?_⟩
   rw [hej]
   conv=>whnf
   refine At qx F211 E E E (by kernel_rfl) E ?_
   cases hub:usableB n fw x
   ·rw [if_neg (by simp [hub])] at hs
    refine rd (by kernel_rfl) ?_;conv=>whnf
    refine ⟨(by kernel_rfl),?_⟩
    ((conv=>whnf);refine aF ?_;refine rg ?_;conv=>whnf)
    refine ⟨by unfold I64; omega,?_⟩
    conv=>whnf
    exact Ar [] hlt ⟨⟨E,E,E,E,E,E,E,E,E,E,E,E,E,E,Y⟩,⟨.inl (congrArg (Ob.row 1 Aa) hs),E,Y⟩,E,E⟩
   ·rw [if_pos (by simp [hub,h3])] at hs
    refine rd (by kernel_rfl) ?_;conv=>whnf
    refine ⟨(by kernel_rfl),?_⟩
    ((conv=>whnf);refine aT ?_;refine rg ?_;conv=>whnf)
    refine ⟨E,by omega,by omega,?_⟩
    rw [hej]
    conv=>whnf
    refine Ai (Af Γ.toTy 60 rfl rfl rfl rfl rfl (.row rfl) (.lit (e:=Aa) (l:=[x]) rfl rfl) (fun j hj=>by cases hj; decide) (by simp; omega) (by simp; omega)) rfl rfl ?_
    refine rg ?_;conv=>whnf
    refine ⟨by unfold I64; omega,?_⟩
    conv=>whnf
    exact Ar [(1000,60)] hlt ⟨⟨E,E,E,E,E,E,E,E,E,E,E,E,E,E,Y⟩,⟨.inl (congrArg (Ob.row 1 Aa) hs),E,Y⟩,E,E⟩
  ·have h3:x = from_:=by simpa using h2
   rw [if_neg (by simp [h3])] at hs
   refine rd (by kernel_rfl) ?_;conv=>whnf
   refine ⟨(by kernel_rfl),?_⟩
   ((conv=>whnf);refine aF ?_;refine rg ?_;conv=>whnf)
   refine ⟨by unfold I64; omega,?_⟩
   conv=>whnf
   exact Ar [] hlt ⟨⟨E,E,E,E,E,E,E,E,E,E,E,E,E,E,Y⟩,⟨.inl (congrArg (Ob.row 1 Aa) hs),E,Y⟩,E,E⟩
 ·have:j = ml.length:=by have:=of_decide_eq_false h; omega
  subst this
  rw [List.take_length] at hu
  rw [hu] at hres
  refine As 1000 E ?_
  refine rg ?_;conv=>whnf
  refine ⟨fun h2=>?_,fun h2=>?_⟩
  ·rw [if_pos (by simpa using h2)] at hpo
   rw [hpo] at hres
   subst hres
   refine rg ?_;conv=>whnf
   refine Am 9 1 Aa E ?_
   exact Ac E (.cons .tmp (.cons .tmp (.cons .tmp .nil))) E E
  ·rw [if_neg (by simpa using h2)] at hpo
   rw [hpo] at hres
   subst hres
   refine rg ?_;conv=>whnf
   refine ⟨E,hd0,hkd,?_⟩
   rw [hdd]
   conv=>whnf
   refine ⟨(by kernel_rfl),?_⟩
   conv=>whnf
   exact Ac E (.cons .tmp (.cons .tmp (.cons .tmp .nil))) E E
theorem Adm {b:Bool} (h:(!b) = true):b = false:=by simpa using h
theorem Aa1 (n:Net) (hn:n.Fin) (dom:Int) (m:Nat):Sy.Spec Tryz.prog 218 [Ap n,Aa dom,Az m] [] (Aa (staticP n dom m)) []:=Ab Γ hm 100 F218 Tryz.ntmps218 rfl fun F hF=>by
 have hst:=hn.statics
 unfold Aq at hst
 conv=>whnf
 refine Bf 3 8 (Ap n) E E E ?_
 refine A2 n.statics.length (fun j=>C8 (fun _ s=>!(decide (Static.domain s = dom) && decide (Static.mac s = (m:Int)))) n.statics j) (fun j=>[(1,Aa dom),(2,Az m),(3,.ref 8 (Ap n) 0),(7,Aa j)]) (fun _=>[]) [] (A5 _ _) ⟨⟨E,E,E,E,E,E,E,E,Y⟩,Y,E,E⟩ ?_
 intro j hj hI
 refine rg ?_;conv=>whnf
 refine ⟨fun h=>?_,fun h=>?_⟩
 ·have hlt:j < n.statics.length:=by have:=of_decide_eq_true h; omega
  have hej:n.statics[((j:Nat):Int).toNat]'(by omega) = n.statics[j]:=rfl
  have hfound:(decide (n.statics[j].domain = dom) && decide (n.statics[j].mac = (m:Int))) = true → staticP n dom m = n.statics[j].port:=fun h=>by
   have:C9 n dom m = j:=Cs hlt (fun i hi hij=>Adm (hI i hi hij)) h
   rw [staticP,this,if_pos (by omega),Ao (by simpa using hlt)]; rfl
  have hnext:(decide (n.statics[j].domain = dom) && decide (n.statics[j].mac = (m:Int))) = false → C8 (fun _ s=>!(decide (Static.domain s = dom) && decide (Static.mac s = (m:Int)))) n.statics (j + 1):=fun h=>A3 hI hlt (by simp only [h]; rfl)
  obtain ⟨x,hx⟩:∃ x,n.statics[j] = x:=⟨_,rfl⟩
  rw [hx] at hej hfound hnext
  refine rg ?_;conv=>whnf
  refine ⟨E,by omega,by omega,?_⟩
  rw [hej]
  conv=>whnf
  refine ⟨fun h2=>?_,fun h2=>?_⟩
  ·have h3:x.domain = dom:=by simpa using h2
   refine rg ?_;conv=>whnf
   refine ⟨E,by omega,by omega,?_⟩
   rw [hej]
   conv=>whnf
   refine ⟨fun h4=>?_,fun h4=>?_⟩
   ·rw [hfound (by rw [decide_eq_true h3,decide_eq_true (by simpa using h4)]; rfl)]
    refine rg ?_;conv=>whnf
    refine ⟨E,by omega,by omega,?_⟩
    rw [hej]
    conv=>whnf
    exact Ac E (.cons .tmp .nil) E E
   ·have hI2:=hnext (by rw [decide_eq_false (p:=x.mac = (m:Int)) (by simpa using h4),Bool.and_false])
    refine rg ?_;conv=>whnf
    refine ⟨by unfold I64; omega,?_⟩
    conv=>whnf
    exact Aw [] hI (by omega) hI2 ⟨⟨E,E,E,E,E,E,E,E,Y⟩,Y,E,E⟩
  ·have hI2:=hnext (by rw [decide_eq_false (p:=x.domain = dom) (by simpa using h2),Bool.false_and])
   (refine rg ?_;(conv=>whnf);refine aF ?_;refine rg ?_;conv=>whnf)
   refine ⟨by unfold I64; omega,?_⟩
   conv=>whnf
   exact Aw [] hI (by omega) hI2 ⟨⟨E,E,E,E,E,E,E,E,Y⟩,Y,E,E⟩
 ·have hend:j = n.statics.length:=by have:=of_decide_eq_false h; omega
  subst hend
  have hno:C9 n dom m = -1:=C3 fun i hi=>Adm (hI i hi hi)
  have hp:staticP n dom m = -1:=by rw [staticP,hno,if_neg (by decide)]
  rw [hp]
  refine rg ?_;conv=>whnf
  exact Ac E (.cons .tmp .nil) E E
theorem Ajt (n:Net) (fw:List Bool) (p from_:Int) (hb:Ah n = true) (hfw:fw.length = n.links.length) (h0:0 ≤ p) (hp:p < n.ports.length) :
  Sy.Spec Tryz.prog 219 [Ap n,.sl 1 Ad fw,Aa p,Aa from_] [] (.sl 1 Aa (B9 n fw from_ [p])) []:=Ab Γ hm 100 F219 Tryz.ntmps219 rfl fun F hF=>by
 have q:=S9 n fw p h0 hp (by rw [hfw]; exact Ly hb h0 hp) (Qq hb h0 hp)
 have hres:B9 n fw from_ [p] = if (!(decide (p = from_) || !(usableB n fw p))) = true then [p] else []:=by
  simp only [B9,List.filter_cons,List.filter_nil]
 rw [hres]
 conv=>whnf
 refine ⟨fun h=>?_,fun h=>?_⟩
 ·have h1:p = from_:=by simpa using h
  rw [if_neg (by simp [h1])]
  (refine rg ?_;(conv=>whnf);refine aT ?_;refine rg ?_;conv=>whnf)
  refine Am 8 1 Aa E ?_
  exact Ac E (.cons .tmp .nil) E E
 have h1:¬ p = from_:=by simpa using h
 refine rg ?_;conv=>whnf
 refine Ag q F211 E E E E E ?_
 cases hub:usableB n fw p
 ·rw [if_neg (by simp)]
  (refine rg ?_;(conv=>whnf);refine aT ?_;refine rg ?_;conv=>whnf)
  refine Am 8 1 Aa E ?_
  exact Ac E (.cons .tmp .nil) E E
 ·rw [if_pos (by simp [h1])]
  (refine rg ?_;(conv=>whnf);refine aF ?_;refine rg ?_;conv=>whnf)
  refine D9 20 Aa [p] E E ?_
  refine As 20 E ?_
  exact Ac E (.cons .tmp .nil) E E
theorem Ys (x:Int) (g:Bool) (q:Sy.Spec Tryz.prog 77 [Az x] [] (Ad g) []):Sy.Spec Tryz.prog 49 [Az x] [] (Ad (decide (x < 281474976710656) && !g)) []:=Ab Γ hm 100 F49 Tryz.ntmps49 rfl fun F hF=>by
 conv=>whnf
 refine ⟨fun h1=>?_,fun h1=>?_⟩
 ·refine rg ?_;conv=>whnf
  refine Ag q F77 E E E E E ?_
  refine rg ?_;conv=>whnf
  exact Ac E (.cons .tmp .nil) (congrArg Ad (by rw [h1,Bool.true_and])) E
 ·refine rg ?_;conv=>whnf
  exact Ac E (.cons .tmp .nil) (congrArg Ad (by rw [h1,Bool.false_and])) E
theorem Qo (m:Nat) (h:m < 18446744073709551616):Sy.Spec Tryz.prog 49 [Az m] [] (Ad (Eb m)) []:=by
 have q:=Ys m _ (Ip m h)
 have e:decide ((m:Int) < 281474976710656) = decide (m ≤ 281474976710655):=by
  by_cases h:m ≤ 281474976710655
  ·rw [decide_eq_true h,decide_eq_true (by omega)]
  ·rw [decide_eq_false h,decide_eq_false (by omega)]
 rw [e] at q
 exact q
theorem Lu (i:Int):Sy.Spec Tryz.prog 50 [Aa i] [] (Ad (Cj i)) []:=Ab Γ hm 100 F50 Tryz.ntmps50 rfl fun F hF=>by
 conv=>whnf
 (repeat' (first | (refine ⟨fun h=>?_,fun h=>?_⟩ <;> (repeat (first | simp only [decide_eq_true_eq] at h | simp only [decide_eq_false_iff_not] at h)) <;> ((refine rg ?_);(conv=>whnf))) | (refine Ac rfl (.cons .tmp .nil) ?_ rfl)))
 all_goals (refine congrArg Ad ?_)
 all_goals grind [Cj]
theorem Oc {t:List EntryM} {m:Nat} {j:Nat} (hj:j < t.length) (h1:∀ k (hk:k < t.length),k < j → t[k].mac ≠ m) (h2:t[j].mac = m):Cn t m = j :=
 Cs hj (fun k hk hkj=>decide_eq_false (h1 k hk hkj)) (decide_eq_true h2)
theorem W8 (t:List EntryM) (m:Nat) (hl:Aq t):Sy.Spec Tryz.prog 212 [.sl 3 An t,Az m] [] (.tup [Aa (findE t m).1,Ad (findE t m).2]) []:=Ab Γ hm 100 F212 Tryz.ntmps212 rfl fun F hF=>by
 unfold Aq at hl
 conv=>whnf
 refine A2 t.length (fun j=>∀ k (hk:k < t.length),k < j → t[k].mac ≠ m) (fun j=>[(0,.sl 3 An t),(1,Az m),(6,Aa j)]) (fun _=>[]) [] (fun k _ h=>absurd h (by omega)) ⟨⟨E,E,E,E,E,E,Y⟩,Y,E,E⟩ ?_
 intro j hj hI
 refine rg ?_;conv=>whnf
 refine ⟨fun h=>?_,fun h=>?_⟩
 ·have hlt:j < t.length:=by have:=of_decide_eq_true h; omega
  refine rg ?_;conv=>whnf
  refine ⟨E,by omega,by omega,?_⟩
  rw [show t[((j:Nat):Int).toNat]'(by omega) = t[j] from rfl]
  conv=>whnf
  refine ⟨fun h2=>?_,fun h2=>?_⟩
  ·have h3:t[j].mac = m:=by simp at h2; omega
   have hix:=Oc hlt hI h3
   have hfe:findE t m = (t[j].where_,true):=by
    rw [findE,hix,if_neg (by omega),Int.toNat_natCast,List.getElem?_eq_getElem hlt]; rfl
   rw [hfe]
   refine rg ?_;conv=>whnf
   refine ⟨E,by omega,by omega,?_⟩
   rw [show t[((j:Nat):Int).toNat]'(by omega) = t[j] from rfl]
   conv=>whnf
   exact Ac E (.cons .tmp (.cons .tmp .nil)) E E
  ·have h3:t[j].mac ≠ m:=by simp at h2; omega
   refine rg ?_;conv=>whnf
   refine ⟨by unfold I64; omega,?_⟩
   conv=>whnf
   exact Aw [] hI (by omega) (fun k hk hkj=>by
    by_cases hkj2:k < j
    ·exact hI k hk hkj2
    ·have:k = j:=by omega
     subst this
     exact h3) ⟨⟨E,E,E,E,E,E,Y⟩,Y,E,E⟩
 ·have hend:j = t.length:=by have:=of_decide_eq_false h; omega
  subst hend
  have hix:Cn t m = -1:=C3 fun i hi=>decide_eq_false (hI i hi hi)
  have hfe:findE t m = (0,false):=by rw [findE,hix,if_pos (by decide)]
  rw [hfe]
  refine rg ?_;conv=>whnf
  exact Ac E (.cons .tmp (.cons .tmp .nil)) E E
theorem Aeh {t:List EntryM} {j:Nat} (hj:j < t.length):Cn t t[j].mac = j ↔ ∀ k (hk:k < t.length),k < j → t[k].mac ≠ t[j].mac:=by
 refine ⟨fun h k hk hkj he=>?_,fun h=>Oc hj h E⟩
 rcases H8 (fun e=>decide (EntryM.mac e = t[j].mac)) t with ⟨h1,_⟩ | ⟨i,hi,h1,h2,h3⟩
 ·rw [Cn,h1] at h; omega
 ·have:i = j:=by rw [Cn,h1] at h; omega
  subst this
  have:=h3 k hk hkj
  rw [decide_eq_false_iff_not] at this
  exact this he
theorem Mv (t:List EntryM) (hl:Aq t) (hmac:∀ e ∈ t,e.mac < 18446744073709551616):Sy.Spec Tryz.prog 20 [.sl 3 An t] [] (Ad (tableB t)) []:=Ab Γ hm 100 F20 Tryz.ntmps20 rfl fun F hF=>by
 unfold Aq at hl
 have hres:=tableB.eq_1 t
 generalize tableB t = res at *
 conv=>whnf
 refine ⟨fun h=>?_,fun h=>?_⟩
 ·have h8:¬ t.length ≤ 8:=by simp at h; omega
  rw [decide_eq_false h8,Bool.false_and] at hres
  subst hres
  refine rg ?_;conv=>whnf
  exact Ac E (.cons .tmp .nil) E E
 have h8:t.length ≤ 8:=by simp at h; omega
 rw [decide_eq_true h8,Bool.true_and] at hres
 refine rg ?_;conv=>whnf
 refine A2 t.length (fun j=>C8 (Ic t) t j) (fun j=>[(0,.sl 3 An t),(3,Aa j)]) (fun _=>[]) [] (A5 _ _) ⟨⟨E,E,E,E,Y⟩,Y,E,E⟩ ?_
 intro j hj hI
 refine rg ?_;conv=>whnf
 refine ⟨fun h=>?_,fun h=>?_⟩
 ·have hlt:j < t.length:=by have:=of_decide_eq_true h; omega
  have q1:=Qo t[j].mac (hmac _ (List.getElem_mem hlt))
  have q2:=Lu t[j].seen
  have hfirst:=Aeh hlt
  have hent:Ic t j t[j] = (Eb t[j].mac && Cj t[j].seen && decide (Cn t t[j].mac = j)):=rfl
  have hbad:Ic t j t[j] = false → res = false:=fun hf=>by rw [hres]; exact Bd hlt hf
  have hgood:Ic t j t[j] = true → C8 (Ic t) t (j + 1):=fun ht=>A3 hI hlt ht
  have hej:t[((j:Nat):Int).toNat]'(by omega) = t[j]:=rfl
  obtain ⟨x,hx⟩:∃ x,t[j] = x:=⟨_,rfl⟩
  rw [hx] at q1 q2 hfirst hent hbad hgood hej
  refine rg ?_;conv=>whnf
  refine ⟨E,by omega,by omega,?_⟩
  rw [hej]
  conv=>whnf
  refine Ag q1 F49 E E E E E ?_
  cases h1:Eb x.mac
  ·rw [hbad (by rw [hent,h1]; rfl)]
   (refine rg ?_;(conv=>whnf);refine aT ?_;refine rg ?_;(conv=>whnf);refine aT ?_;refine rg ?_;conv=>whnf)
   exact Ac E (.cons .tmp .nil) E E
  (refine rg ?_;(conv=>whnf);refine aF ?_;refine rg ?_;conv=>whnf)
  refine ⟨E,by omega,by omega,?_⟩
  rw [hej]
  conv=>whnf
  refine Ag q2 F50 E E E E E ?_
  cases h2:Cj x.seen
  ·rw [hbad (by rw [hent,h1,h2]; rfl)]
   (refine rg ?_;(conv=>whnf);refine aT ?_;refine rg ?_;conv=>whnf)
   exact Ac E (.cons .tmp .nil) E E
  (refine rg ?_;(conv=>whnf);refine aF ?_;refine rg ?_;conv=>whnf)
  refine A2 j (fun i=>∀ k (hk:k < t.length),k < i → t[k].mac ≠ x.mac) (fun i=>[(0,.sl 3 An t),(3,Aa j),(4,Aa i)]) (fun _=>[]) [] (fun k _ h=>absurd h (by omega)) ⟨⟨E,E,E,E,E,E,Y⟩,Y,E,E⟩ ?_
  intro i hi hJ
  refine rg ?_;conv=>whnf
  refine ⟨fun h=>?_,fun h=>?_⟩
  ·have hlt2:i < j:=by have:=of_decide_eq_true h; omega
   refine rg ?_;conv=>whnf
   refine ⟨E,by omega,by omega,?_⟩
   rw [show t[((i:Nat):Int).toNat]'(by omega) = t[i] from rfl]
   conv=>whnf
   refine ⟨E,by omega,by omega,?_⟩
   rw [hej]
   conv=>whnf
   refine ⟨(by kernel_rfl),?_⟩
   conv=>whnf
   refine ⟨fun h3=>?_,fun h3=>?_⟩
   ·have h4:t[i].mac = x.mac:=by simp at h3; omega
    have h5:¬ Cn t x.mac = j:=fun h=>hfirst.1 h i (by omega) hlt2 h4
    rw [hbad (by rw [hent,h1,h2,decide_eq_false h5]; rfl)]
    refine rg ?_;conv=>whnf
    exact Ac E (.cons .tmp .nil) E E
   ·have h4:t[i].mac ≠ x.mac:=by simp at h3; omega
    refine rg ?_;conv=>whnf
    refine ⟨by unfold I64; omega,?_⟩
    conv=>whnf
    exact Aw [] hJ (by omega) (fun k hk hki=>by
     by_cases hki2:k < i
     ·exact hJ k hk hki2
     ·have:k = i:=by omega
      subst this
      exact h4) ⟨⟨E,E,E,E,E,E,Y⟩,Y,E,E⟩
  ·have:i = j:=by have:=of_decide_eq_false h; omega
   subst this
   have h4:=hgood (by rw [hent,h1,h2,decide_eq_true (hfirst.2 hJ)]; rfl)
   refine rg ?_;conv=>whnf
   refine ⟨by unfold I64; omega,?_⟩
   conv=>whnf
   exact Aw [] hI (by omega) h4 ⟨⟨E,E,E,E,Y⟩,Y,E,E⟩
 ·have hend:j = t.length:=by have:=of_decide_eq_false h; omega
  subst hend
  rw [hres.trans (B7 hI (Nat.le_refl _))]
  refine rg ?_;conv=>whnf
  exact Ac E (.cons .tmp .nil) E E
theorem Aps (t:List EntryM) (now:Int):ageT t now = t.filter fun e=>!(tableB t) || !(Cj now) || decide (now - e.seen ≤ 4):=by
 unfold ageT
 split
 ·rename_i h
  refine (List.filter_eq_self.2 fun e _=>?_).symm
  rcases h with h | h <;> simp [h]
 ·rename_i h
  rw [not_or] at h
  refine List.filter_congr fun e _=>?_
  have h1:tableB t = true:=by simpa using h.1
  have h2:Cj now = true:=by simpa using h.2
  rw [h1,h2,Bool.eq_iff_iff]
  simp
  omega
theorem table_seen {t:List EntryM} (h:tableB t = true) {i:Nat} (hi:i < t.length):0 ≤ t[i].seen ∧ t[i].seen ≤ 1099511627776:=by
 simp only [tableB,Bool.and_eq_true] at h
 have h2:=allB_iff.1 h.2 i hi
 simp only [Ic,Bool.and_eq_true,Cj,decide_eq_true_eq] at h2
 exact h2.1.2
theorem Zq (t:List EntryM) (now:Int) (hl:Aq t) (hmac:∀ e ∈ t,e.mac < 18446744073709551616):Sy.Spec Tryz.prog 40 [.sl 3 An t,Aa now] [] (.sl 3 An (ageT t now)) []:=Ab Γ hm 100 F40 Tryz.ntmps40 rfl fun F hF=>by
 have q1:=Mv t hl hmac
 have q2:=Lu now
 unfold Aq at hl
 have hseen:=@table_seen t
 rw [Aps]
 obtain ⟨c,hc⟩:∃ c:EntryM → Bool,(fun e=>!(tableB t) || !(Cj now) || decide (now - e.seen ≤ 4)) = c:=⟨_,rfl⟩
 rw [hc]
 conv=>whnf
 refine Bs 5 1000 3 An E E ?_
 refine Av t.length (fun j=>[(0,.sl 3 An t),(1,Aa now),(5,.osl 1000),(6,Aa j)]) (fun j=>[(1000,.row 3 An ((t.take j).filter c))]) [] ⟨⟨E,E,E,E,E,E,E,E,Y⟩,⟨.inl E,E,Y⟩,E,E⟩ ?_
 intro j hj
 have hfl:((t.take j).filter c).length ≤ j:=Nat.le_trans (List.length_filter_le _ _) (by rw [List.length_take]; omega)
 have hsucc:∀ h:j < t.length,(t.take (j + 1)).filter c = if c t[j] = true then (t.take j).filter c ++ [t[j]] else (t.take j).filter c:=fun h=>by
  rw [List.take_add_one,List.getElem?_eq_getElem h,List.filter_append]
  by_cases hct:c t[j] = true
  ·rw [if_pos hct]; simp [hct]
  ·rw [if_neg hct]; simp [hct]
 refine rg ?_;conv=>whnf
 refine ⟨fun h=>?_,fun h=>?_⟩
 ·have hlt:j < t.length:=by have:=of_decide_eq_true h; omega
  have hs:=hsucc hlt
  have hct:c t[j] = (!(tableB t) || !(Cj now) || decide (now - t[j].seen ≤ 4)):=by rw [← hc]
  have hsj:=fun h=>hseen h hlt
  have hej:t[((j:Nat):Int).toNat]'(by omega) = t[j]:=rfl
  obtain ⟨u,hu⟩:∃ u,(t.take j).filter c = u:=⟨_,rfl⟩
  obtain ⟨x,hx⟩:∃ x,t[j] = x:=⟨_,rfl⟩
  rw [hu] at hs hfl ⊢
  rw [hx] at hs hct hsj hej
  have fin:∀ b:Bool,c x = b → True:=fun _ _=>trivial
  refine rg ?_;conv=>whnf
  refine Ag q1 F20 E E E E E ?_
  cases h1:tableB t
  ·rw [h1] at hct
   have hcx:c x = true:=by rw [hct]; rfl
   rw [if_pos hcx] at hs
   (refine rg ?_;(conv=>whnf);refine aT ?_;refine rg ?_;(conv=>whnf);refine aT ?_;refine rg ?_;(conv=>whnf);refine aT ?_;refine rg ?_;conv=>whnf)
   refine ⟨E,by omega,by omega,?_⟩
   rw [hej]
   conv=>whnf
   refine Ai (Af Γ.toTy 60 rfl rfl rfl rfl rfl (.row rfl) (.lit (e:=An) (l:=[x]) rfl rfl) (fun j hj=>by cases hj; decide) (by simp; omega) (by simp; omega)) rfl rfl ?_
   refine rg ?_;conv=>whnf
   refine ⟨by unfold I64; omega,?_⟩
   conv=>whnf
   exact Ar [(1000,60)] hlt ⟨⟨E,E,E,E,E,E,E,E,Y⟩,⟨.inl (congrArg (Ob.row 3 An) hs),E,Y⟩,E,E⟩
  (refine rg ?_;(conv=>whnf);refine aF ?_;refine rg ?_;conv=>whnf)
  refine Ag q2 F50 E E E E E ?_
  cases h2:Cj now
  ·rw [h1,h2] at hct
   have hcx:c x = true:=by rw [hct]; rfl
   rw [if_pos hcx] at hs
   (refine rg ?_;(conv=>whnf);refine aT ?_;refine rg ?_;(conv=>whnf);refine aT ?_;refine rg ?_;conv=>whnf)
   refine ⟨E,by omega,by omega,?_⟩
   rw [hej]
   conv=>whnf
   refine Ai (Af Γ.toTy 60 rfl rfl rfl rfl rfl (.row rfl) (.lit (e:=An) (l:=[x]) rfl rfl) (fun j hj=>by cases hj; decide) (by simp; omega) (by simp; omega)) rfl rfl ?_
   refine rg ?_;conv=>whnf
   refine ⟨by unfold I64; omega,?_⟩
   conv=>whnf
   exact Ar [(1000,60)] hlt ⟨⟨E,E,E,E,E,E,E,E,Y⟩,⟨.inl (congrArg (Ob.row 3 An) hs),E,Y⟩,E,E⟩
  have hsj:=hsj h1
  have hnow:0 ≤ now ∧ now ≤ 1099511627776:=by simpa [Cj] using h2
  rw [h1,h2] at hct
  (refine rg ?_;(conv=>whnf);refine aF ?_;refine rg ?_;conv=>whnf)
  refine ⟨E,by omega,by omega,?_⟩
  rw [hej]
  conv=>whnf
  refine ⟨by unfold I64; omega,?_⟩
  conv=>whnf
  refine ⟨fun h3=>?_,fun h3=>?_⟩
  ·have hcx:c x = true:=by rw [hct,h3]; rfl
   rw [if_pos hcx] at hs
   refine rg ?_;conv=>whnf
   refine ⟨E,by omega,by omega,?_⟩
   rw [hej]
   conv=>whnf
   refine Ai (Af Γ.toTy 60 rfl rfl rfl rfl rfl (.row rfl) (.lit (e:=An) (l:=[x]) rfl rfl) (fun j hj=>by cases hj; decide) (by simp; omega) (by simp; omega)) rfl rfl ?_
   refine rg ?_;conv=>whnf
   refine ⟨by unfold I64; omega,?_⟩
   conv=>whnf
   exact Ar [(1000,60)] hlt ⟨⟨E,E,E,E,E,E,E,E,Y⟩,⟨.inl (congrArg (Ob.row 3 An) hs),E,Y⟩,E,E⟩
  ·have hcx:¬ c x = true:=by rw [hct,h3]; decide
   rw [if_neg hcx] at hs
   refine rg ?_;conv=>whnf
   refine ⟨by unfold I64; omega,?_⟩
   conv=>whnf
   exact Ar [] hlt ⟨⟨E,E,E,E,E,E,E,E,Y⟩,⟨.inl (congrArg (Ob.row 3 An) hs),E,Y⟩,E,E⟩
 ·have:j = t.length:=by have:=of_decide_eq_false h; omega
  subst this
  rw [List.take_length]
  refine As 1000 E ?_
  refine rg ?_;conv=>whnf
  exact Ac E (.cons .tmp .nil) E E
def Hp (t:List EntryM) (m:Nat) (new:EntryM) (old:Int):Nat → List EntryM
 | 0=>[]
 | j + 1=>match t[j]? with
  | some x=>if x.mac = m then Hp t m new old j ++ [new] else if (j:Int) ≠ old then Hp t m new old j ++ [x] else Hp t m new old j
  | none=>Hp t m new old j
def Adl (t:List EntryM):Nat → Int
 | 0=>-1
 | j + 1=>(oldestU t (j + 1):Nat)
theorem Af8 {t:List EntryM} {m:Nat} {new:EntryM} {i:Nat} (hi:i < t.length) (h:∀ j (hj:j < t.length),t[j].mac = m ↔ j = i) (j:Nat) (hj:j ≤ t.length):Hp t m new (-1) j = (t.set i new).take j:=by
 induction j with
 | zero=>rfl
 | succ j ih =>
  have hjl:j < t.length:=by omega
  rw [Hp,List.getElem?_eq_getElem hjl,ih (by omega)]
  have hsl:j < (t.set i new).length:=by rw [List.length_set]; omega
  rw [List.take_add_one,List.getElem?_eq_getElem hsl]
  dsimp only
  by_cases hm1:t[j].mac = m
  ·have:=(h j hjl).1 hm1
   subst this
   rw [if_pos hm1,List.getElem_set_self]; rfl
  ·have hne:i ≠ j:=fun e=>hm1 ((h j hjl).2 e.symm)
   rw [if_neg hm1,if_pos (by omega),List.getElem_set_ne hne]; rfl
theorem Aj2 {t:List EntryM} {m:Nat} {new:EntryM} (h:∀ j (hj:j < t.length),t[j].mac ≠ m) (j:Nat) (hj:j ≤ t.length):Hp t m new (-1) j = t.take j:=by
 induction j with
 | zero=>rfl
 | succ j ih =>
  have hjl:j < t.length:=by omega
  rw [Hp,List.getElem?_eq_getElem hjl,ih (by omega),List.take_add_one,List.getElem?_eq_getElem hjl]
  dsimp only
  rw [if_neg (h j hjl),if_pos (by omega)]; rfl
theorem Ami {t:List EntryM} {m:Nat} {new:EntryM} (o:Nat) (h:∀ j (hj:j < t.length),t[j].mac ≠ m) (j:Nat) (hj:j ≤ t.length):Hp t m new o j = (t.take j).eraseIdx o:=by
 induction j with
 | zero=>rw [Hp,List.take_zero,List.eraseIdx_nil]
 | succ j ih =>
  have hjl:j < t.length:=by omega
  have hlen:(t.take j).length = j:=by rw [List.length_take]; omega
  rw [Hp,List.getElem?_eq_getElem hjl,ih (by omega),List.take_add_one,List.getElem?_eq_getElem hjl]
  dsimp only
  rw [if_neg (h j hjl),Option.toList_some]
  by_cases ho:o < j
  ·rw [if_pos (by omega),List.eraseIdx_append_of_lt_length (by omega)]
  ·rw [List.eraseIdx_append_of_length_le (by omega),hlen,List.eraseIdx_of_length_le (l:=t.take j) (by omega)]
   by_cases hoj:o = j
   ·subst hoj
    rw [if_neg (by omega),Nat.sub_self]; simp
   ·rw [if_pos (by omega),List.eraseIdx_of_length_le (by simp; omega)]
theorem find_none {t:List EntryM} {m:Nat} (h:(findE t m).2 = false):Cn t m = -1 ∧ ∀ j (hj:j < t.length),t[j].mac ≠ m:=by
 rcases H8 (fun e=>decide (EntryM.mac e = m)) t with ⟨h1,h2⟩ | ⟨i,hi,h1,h2,h3⟩
 ·exact ⟨h1,fun j hj=>of_decide_eq_false (h2 t[j] (List.getElem_mem hj))⟩
 ·have h4:Cn t m = i:=h1
  rw [findE,h4,if_neg (by omega)] at h
  cases h
theorem find_some {t:List EntryM} {m:Nat} (hr:tableB t = true) (h:(findE t m).2 = true):∃ (i:Nat) (hi:i < t.length),Cn t m = i ∧ ∀ j (hj:j < t.length),t[j].mac = m ↔ j = i:=by
 rcases H8 (fun e=>decide (EntryM.mac e = m)) t with ⟨h1,h2⟩ | ⟨i,hi,h1,h2,h3⟩
 ·have h4:Cn t m = -1:=h1
  rw [findE,h4,if_pos (by decide)] at h
  cases h
 ·have him:t[i].mac = m:=of_decide_eq_true h2
  refine ⟨i,hi,h1,fun j hj=>⟨fun hj2=>?_,fun e=>by subst e; exact him⟩⟩
  simp only [tableB,Bool.and_eq_true] at hr
  have he:=allB_iff.1 hr.2 j hj
  simp only [Ic,Bool.and_eq_true,decide_eq_true_eq] at he
  have:=he.2
  rw [hj2] at this
  have h4:Cn t m = i:=h1
  omega
theorem O4 (t:List EntryM) (m:Nat) (new:EntryM) (old:Int) {j:Nat} (h:j < t.length):Hp t m new old (j + 1) = if t[j].mac = m then Hp t m new old j ++ [new] else if (j:Int) ≠ old then Hp t m new old j ++ [t[j]] else Hp t m new old j:=by
 rw [Hp,List.getElem?_eq_getElem h]
theorem Ke (t:List EntryM) (m:Nat) (new:EntryM) (old:Int) (j:Nat):(Hp t m new old j).length ≤ j:=by
 induction j with
 | zero=>exact Nat.le_refl _
 | succ j ih =>
  rw [Hp]
  split
  ·split
   ·rw [List.length_append]; simp; omega
   ·split
    ·rw [List.length_append]; simp; omega
    ·omega
  ·omega
theorem Vf (t:List EntryM) (m:Nat) (wh now:Int) (hl:Aq t) (hmac:∀ e ∈ t,e.mac < 18446744073709551616) (hm64:m < 18446744073709551616) :
  Sy.Spec Tryz.prog 144 [.sl 3 An t,Az m,Aa wh,Aa now] [] (.sl 3 An (learnT t m wh now)) []:=Ab Γ hm 100 F144 Tryz.ntmps144 rfl fun F hF=>by
 have q1:=Mv t hl hmac
 have q2:=Qo m hm64
 have q3:=Lu now
 have q4:=W8 t m hl
 unfold Aq at hl
 have hres:=learnT.eq_1 t m wh now
 generalize learnT t m wh now = res at *
 conv=>whnf
 refine Ag q1 F20 E E E E E ?_
 cases h1:tableB t
 ·rw [if_pos (.inl h1)] at hres
  subst hres
  (refine rg ?_;(conv=>whnf);refine aT ?_;refine rg ?_;(conv=>whnf);refine aT ?_;refine rg ?_;(conv=>whnf);refine aT ?_;refine rg ?_;conv=>whnf)
  refine Ai (Af Γ.toTy 30 E E E E E (.lit (e:=An) (l:=[]) E E) .sl (by simp) (by simp; omega) (by simp; omega)) E E ?_
  refine As 30 E ?_
  refine rg ?_;conv=>whnf
  exact Ac E (.cons .tmp .nil) E E
 (refine rg ?_;(conv=>whnf);refine aF ?_;refine rg ?_;conv=>whnf)
 refine Ag q2 F49 E E E E E ?_
 cases h2:Eb m
 ·rw [if_pos (.inr (.inl h2))] at hres
  subst hres
  (refine rg ?_;(conv=>whnf);refine aT ?_;refine rg ?_;(conv=>whnf);refine aT ?_;refine rg ?_;conv=>whnf)
  refine Ai (Af Γ.toTy 30 E E E E E (.lit (e:=An) (l:=[]) E E) .sl (by simp) (by simp; omega) (by simp; omega)) E E ?_
  refine As 30 E ?_
  refine rg ?_;conv=>whnf
  exact Ac E (.cons .tmp .nil) E E
 (refine rg ?_;(conv=>whnf);refine aF ?_;refine rg ?_;conv=>whnf)
 refine Ag q3 F50 E E E E E ?_
 cases h3:Cj now
 ·rw [if_pos (.inr (.inr h3))] at hres
  subst hres
  (refine rg ?_;(conv=>whnf);refine aT ?_;refine rg ?_;conv=>whnf)
  refine Ai (Af Γ.toTy 30 E E E E E (.lit (e:=An) (l:=[]) E E) .sl (by simp) (by simp; omega) (by simp; omega)) E E ?_
  refine As 30 E ?_
  refine rg ?_;conv=>whnf
  exact Ac E (.cons .tmp .nil) E E
 rw [if_neg (by simp [h1,h2,h3])] at hres
 have ht8:t.length ≤ 8:=by simp only [tableB,Bool.and_eq_true,decide_eq_true_eq] at h1; exact h1.1
 have hno:=@find_none t m
 have hso:=@find_some t m h1
 generalize findE t m = fe at *
 obtain ⟨fw,th⟩:=fe
 dsimp only at hno hso
 (refine rg ?_;(conv=>whnf);refine aF ?_;refine rg ?_;conv=>whnf)
 refine Ag q4 F212 E E E E E ?_
 by_cases hcase:t.length = 8 ∧ th = false
 ·obtain ⟨hc8,rfl⟩:=hcase
  obtain ⟨hi1,hi2⟩:=hno rfl
  obtain ⟨old,hold⟩:∃ old:Int,Adl t t.length = old:=⟨_,rfl⟩
  have hold2:old = (oldestU t t.length:Nat):=by rw [← hold,hc8]; rfl
  have hout:res = if (false:Bool) = true then Hp t m ⟨m,wh,now⟩ old t.length else Hp t m ⟨m,wh,now⟩ old t.length ++ [⟨m,wh,now⟩]:=by
   rw [if_neg (by decide),hres,hi1,if_neg (by decide),if_pos hc8,hold2,Ami _ hi2 _ (Nat.le_refl _),List.take_length]
  refine rg ?_;conv=>whnf
  refine Av t.length (fun j=>[(0,.sl 3 An t),(1,Az m),(2,Aa wh),(3,Aa now),(10,Ad false),(11,Aa (Adl t j)),(12,Aa j)]) (fun _=>[]) [] ⟨⟨E,E,E,E,E,E,E,E,E,E,E,E,E,E,Y⟩,Y,E,E⟩ ?_
  intro j hj
  refine rg ?_;conv=>whnf
  refine ⟨fun h=>?_,fun h=>?_⟩
  ·have hlt:j < t.length:=by have:=of_decide_eq_true h; omega
   refine rg ?_;conv=>whnf
   refine ⟨fun _=>?_,fun h=>absurd h (by simp; omega)⟩
   cases j with
   | zero =>
    have h10:Adl t 1 = 0:=by rw [Adl,oldestU]; split <;> rfl
    rw [show Adl t 0 = -1 from rfl]
    (refine rg ?_;(conv=>whnf);refine aT ?_;refine rg ?_;(conv=>whnf);refine aT ?_;refine rd (by kernel_rfl) ?_;conv=>whnf)
    refine ⟨(by kernel_rfl),?_⟩
    ((conv=>whnf);refine aT ?_;refine rg ?_;conv=>whnf)
    refine ⟨by unfold I64; omega,?_⟩
    conv=>whnf
    exact Ar (i:=0) [] hlt ⟨⟨E,E,E,E,E,E,E,E,E,E,congrArg Aa h10,E,E,E,Y⟩,Y,E,E⟩
   | succ j =>
    have hol:=Sb t (j + 1) (by omega) (by omega)
    have hs:Adl t (j + 1 + 1) = ((oldestU t (j + 1 + 1):Nat):Int):=rfl
    rw [oldestU,List.getElem?_eq_getElem hlt,List.getElem?_eq_getElem hol] at hs
    have hs2:Adl t (j + 1 + 1) = if t[j + 1].seen < t[oldestU t (j + 1)].seen then ((j + 1:Nat):Int) else ((oldestU t (j + 1):Nat):Int):=by
     rw [hs]
     show ((if t[j + 1].seen < t[oldestU t (j + 1)].seen then j + 1 else oldestU t (j + 1):Nat):Int) = _
     split <;> rfl
    rw [show Adl t (j + 1) = ((oldestU t (j + 1):Nat):Int) from rfl]
    obtain ⟨o,ho⟩:∃ o,oldestU t (j + 1) = o:=⟨_,rfl⟩
    simp only [ho] at hs2 hol ⊢
    (refine rg ?_;(conv=>whnf);refine aT ?_;refine rg ?_;(conv=>whnf);refine aF ?_;refine rd (by kernel_rfl) ?_;conv=>whnf)
    refine ⟨E,by omega,by omega,?_⟩
    rw [show t[((j + 1:Nat):Int).toNat]'(by omega) = t[j + 1] from rfl]
    conv=>whnf
    refine ⟨E,by omega,by omega,?_⟩
    rw [show t[((o:Nat):Int).toNat]'(by omega) = t[o] from rfl]
    conv=>whnf
    refine ⟨(by kernel_rfl),?_⟩
    conv=>whnf
    refine ⟨fun h3=>?_,fun h3=>?_⟩
    ·rw [if_pos (of_decide_eq_true h3)] at hs2
     refine rg ?_;conv=>whnf
     refine ⟨by unfold I64; omega,?_⟩
     conv=>whnf
     exact Ar [] hlt ⟨⟨E,E,E,E,E,E,E,E,E,E,congrArg Aa hs2,E,E,E,Y⟩,Y,E,E⟩
    ·rw [if_neg (of_decide_eq_false h3)] at hs2
     refine rg ?_;conv=>whnf
     refine ⟨by unfold I64; omega,?_⟩
     conv=>whnf
     exact Ar [] hlt ⟨⟨E,E,E,E,E,E,E,E,E,E,congrArg Aa hs2,E,E,E,Y⟩,Y,E,E⟩
  ·have:j = t.length:=by have:=of_decide_eq_false h; omega
   subst this
   rw [hold]
   (refine rg ?_;(conv=>whnf);refine aF ?_;refine rg ?_;(conv=>whnf);refine aF ?_;refine rg ?_;conv=>whnf)
   refine Bs 13 1000 3 An E E ?_
   refine Av t.length (fun j=>[(0,.sl 3 An t),(1,Az m),(2,Aa wh),(3,Aa now),(10,Ad false),(11,Aa old),(13,.osl 1000),(14,Aa j)]) (fun j=>[(1000,.row 3 An (Hp t m ⟨m,wh,now⟩ old j))]) [] ⟨⟨E,E,E,E,E,E,E,E,E,E,E,E,E,E,E,E,Y⟩,⟨.inl E,E,Y⟩,E,E⟩ ?_
   intro j hj
   have hol:=Ke t m ⟨m,wh,now⟩ old j
   have hsucc:=fun h:j < t.length=>O4 t m ⟨m,wh,now⟩ old h
   obtain ⟨u,hu⟩:∃ u,Hp t m ⟨m,wh,now⟩ old j = u:=⟨_,rfl⟩
   rw [hu] at hol hsucc ⊢
   refine rg ?_;conv=>whnf
   refine ⟨fun h=>?_,fun h=>?_⟩
   ·have hlt:j < t.length:=by have:=of_decide_eq_true h; omega
    have hs:=hsucc hlt
    have hej:t[((j:Nat):Int).toNat]'(by omega) = t[j]:=rfl
    obtain ⟨x,hx⟩:∃ x,t[j] = x:=⟨_,rfl⟩
    rw [hx] at hs hej
    refine rg ?_;conv=>whnf
    refine ⟨E,by omega,by omega,?_⟩
    rw [hej]
    conv=>whnf
    refine ⟨fun h3=>?_,fun h3=>?_⟩
    ·rw [if_pos (show x.mac = m by simp at h3; omega)] at hs
     refine rg ?_;conv=>whnf
     refine Ai (Af Γ.toTy 60 rfl rfl rfl rfl rfl (.row rfl) (.lit (e:=An) (l:=[⟨m,wh,now⟩]) rfl rfl) (fun j hj=>by cases hj; decide) (by simp; omega) (by simp; omega)) rfl rfl ?_
     refine rg ?_;conv=>whnf
     refine ⟨by unfold I64; omega,?_⟩
     conv=>whnf
     exact Ar [(1000,60)] hlt ⟨⟨E,E,E,E,E,E,E,E,E,E,E,E,E,E,E,E,Y⟩,⟨.inl (congrArg (Ob.row 3 An) hs),E,Y⟩,E,E⟩
    ·rw [if_neg (show ¬ x.mac = m by simp at h3; omega)] at hs
     refine rg ?_;conv=>whnf
     refine ⟨fun h4=>?_,fun h4=>?_⟩
     ·rw [if_pos (show (j:Int) ≠ old by simpa using h4)] at hs
      refine rg ?_;conv=>whnf
      refine ⟨E,by omega,by omega,?_⟩
      rw [hej]
      conv=>whnf
      refine Ai (Af Γ.toTy 60 rfl rfl rfl rfl rfl (.row rfl) (.lit (e:=An) (l:=[x]) rfl rfl) (fun j hj=>by cases hj; decide) (by simp; omega) (by simp; omega)) rfl rfl ?_
      refine rg ?_;conv=>whnf
      refine ⟨by unfold I64; omega,?_⟩
      conv=>whnf
      exact Ar [(1000,60)] hlt ⟨⟨E,E,E,E,E,E,E,E,E,E,E,E,E,E,E,E,Y⟩,⟨.inl (congrArg (Ob.row 3 An) hs),E,Y⟩,E,E⟩
     ·rw [if_neg (show ¬ (j:Int) ≠ old by simpa using h4)] at hs
      refine rg ?_;conv=>whnf
      refine ⟨by unfold I64; omega,?_⟩
      conv=>whnf
      exact Ar [] hlt ⟨⟨E,E,E,E,E,E,E,E,E,E,E,E,E,E,E,E,Y⟩,⟨.inl (congrArg (Ob.row 3 An) hs),E,Y⟩,E,E⟩
   ·have:j = t.length:=by have:=of_decide_eq_false h; omega
    subst this
    rw [hu] at hout
    rw [if_neg (by decide)] at hout
    (refine rg ?_;(conv=>whnf);refine aT ?_;refine rg ?_;conv=>whnf)
    refine Ai (Af Γ.toTy 61 rfl rfl rfl rfl rfl (.row rfl) (.lit (e:=An) (l:=[⟨m,wh,now⟩]) rfl rfl) (fun j hj=>by cases hj; decide) (by simp; omega) (by simp; omega)) rfl rfl ?_
    refine As 61 E ?_
    refine rg ?_;conv=>whnf
    exact Ac E (.cons .tmp .nil) (congrArg (SV.sl 3 An) hout) E
 ·have hout:res = if th = true then Hp t m ⟨m,wh,now⟩ (-1) t.length else Hp t m ⟨m,wh,now⟩ (-1) t.length ++ [⟨m,wh,now⟩]:=by
   cases th
   ·obtain ⟨hi1,hi2⟩:=hno rfl
    rw [if_neg (by decide),hres,hi1,if_neg (by decide),if_neg (fun h=>hcase ⟨h,rfl⟩),Aj2 hi2 _ (Nat.le_refl _),List.take_length]
   ·obtain ⟨i,hi,hi1,hi2⟩:=hso rfl
    rw [if_pos rfl,hres,hi1,if_pos (by omega),Af8 hi hi2 _ (Nat.le_refl _),Int.toNat_natCast,List.take_of_length_le (by simp)]
  obtain ⟨old,hold⟩:∃ old:Int,-1 = old:=⟨_,rfl⟩
  rw [hold] at hout
  refine rg ?_;conv=>whnf
  refine Av 0 (fun j=>[(0,.sl 3 An t),(1,Az m),(2,Aa wh),(3,Aa now),(10,Ad th),(11,Aa old),(12,Aa j)]) (fun _=>[]) [] ⟨⟨E,E,E,E,E,E,E,E,E,E,congrArg Aa hold.symm,E,E,E,Y⟩,Y,E,E⟩ ?_
  intro j hj
  have hj0:j = 0:=by omega
  subst hj0
  refine rg ?_;conv=>whnf
  refine ⟨fun h=>?_,fun h=>?_⟩
  ·refine rg ?_;conv=>whnf
   refine ⟨fun h8=>?_,fun h8=>?_⟩
   ·have hth:th = true:=by
     cases th with
     | true=>rfl
     | false=>exact absurd ⟨by simp at h8; omega,rfl⟩ hcase
    refine rg ?_;conv=>whnf
    refine ⟨fun h=>absurd h (by simp [hth]),fun _=>?_⟩
    refine rg ?_;conv=>whnf
    refine Bs 13 1000 3 An E E ?_
    refine Av t.length (fun j=>[(0,.sl 3 An t),(1,Az m),(2,Aa wh),(3,Aa now),(10,Ad th),(11,Aa old),(13,.osl 1000),(14,Aa j)]) (fun j=>[(1000,.row 3 An (Hp t m ⟨m,wh,now⟩ old j))]) [] ⟨⟨E,E,E,E,E,E,E,E,E,E,E,E,E,E,E,E,Y⟩,⟨.inl E,E,Y⟩,E,E⟩ ?_
    intro j hj
    have hol:=Ke t m ⟨m,wh,now⟩ old j
    have hsucc:=fun h:j < t.length=>O4 t m ⟨m,wh,now⟩ old h
    obtain ⟨u,hu⟩:∃ u,Hp t m ⟨m,wh,now⟩ old j = u:=⟨_,rfl⟩
    rw [hu] at hol hsucc ⊢
    refine rg ?_;conv=>whnf
    refine ⟨fun h=>?_,fun h=>?_⟩
    ·have hlt:j < t.length:=by have:=of_decide_eq_true h; omega
     have hs:=hsucc hlt
     have hej:t[((j:Nat):Int).toNat]'(by omega) = t[j]:=rfl
     obtain ⟨x,hx⟩:∃ x,t[j] = x:=⟨_,rfl⟩
     rw [hx] at hs hej
     refine rg ?_;conv=>whnf
     refine ⟨E,by omega,by omega,?_⟩
     rw [hej]
     conv=>whnf
     refine ⟨fun h3=>?_,fun h3=>?_⟩
     ·rw [if_pos (show x.mac = m by simp at h3; omega)] at hs
      refine rg ?_;conv=>whnf
      refine Ai (Af Γ.toTy 60 rfl rfl rfl rfl rfl (.row rfl) (.lit (e:=An) (l:=[⟨m,wh,now⟩]) rfl rfl) (fun j hj=>by cases hj; decide) (by simp; omega) (by simp; omega)) rfl rfl ?_
      refine rg ?_;conv=>whnf
      refine ⟨by unfold I64; omega,?_⟩
      conv=>whnf
      exact Ar [(1000,60)] hlt ⟨⟨E,E,E,E,E,E,E,E,E,E,E,E,E,E,E,E,Y⟩,⟨.inl (congrArg (Ob.row 3 An) hs),E,Y⟩,E,E⟩
     ·rw [if_neg (show ¬ x.mac = m by simp at h3; omega)] at hs
      refine rg ?_;conv=>whnf
      refine ⟨fun h4=>?_,fun h4=>?_⟩
      ·rw [if_pos (show (j:Int) ≠ old by simpa using h4)] at hs
       refine rg ?_;conv=>whnf
       refine ⟨E,by omega,by omega,?_⟩
       rw [hej]
       conv=>whnf
       refine Ai (Af Γ.toTy 60 rfl rfl rfl rfl rfl (.row rfl) (.lit (e:=An) (l:=[x]) rfl rfl) (fun j hj=>by cases hj; decide) (by simp; omega) (by simp; omega)) rfl rfl ?_
       refine rg ?_;conv=>whnf
       refine ⟨by unfold I64; omega,?_⟩
       conv=>whnf
       exact Ar [(1000,60)] hlt ⟨⟨E,E,E,E,E,E,E,E,E,E,E,E,E,E,E,E,Y⟩,⟨.inl (congrArg (Ob.row 3 An) hs),E,Y⟩,E,E⟩
      ·rw [if_neg (show ¬ (j:Int) ≠ old by simpa using h4)] at hs
       refine rg ?_;conv=>whnf
       refine ⟨by unfold I64; omega,?_⟩
       conv=>whnf
       exact Ar [] hlt ⟨⟨E,E,E,E,E,E,E,E,E,E,E,E,E,E,E,E,Y⟩,⟨.inl (congrArg (Ob.row 3 An) hs),E,Y⟩,E,E⟩
    ·have:j = t.length:=by have:=of_decide_eq_false h; omega
     subst this
     rw [hu] at hout
     cases th
     ·rw [if_neg (by decide)] at hout
      (refine rg ?_;(conv=>whnf);refine aT ?_;refine rg ?_;conv=>whnf)
      refine Ai (Af Γ.toTy 61 rfl rfl rfl rfl rfl (.row rfl) (.lit (e:=An) (l:=[⟨m,wh,now⟩]) rfl rfl) (fun j hj=>by cases hj; decide) (by simp; omega) (by simp; omega)) rfl rfl ?_
      refine As 61 E ?_
      refine rg ?_;conv=>whnf
      exact Ac E (.cons .tmp .nil) (congrArg (SV.sl 3 An) hout) E
     ·rw [if_pos rfl] at hout
      (refine rg ?_;(conv=>whnf);refine aF ?_;refine rg ?_;conv=>whnf)
      refine As 1000 E ?_
      exact Ac E (.cons .tmp .nil) (congrArg (SV.sl 3 An) hout) E
   ·(refine rg ?_;(conv=>whnf);refine aF ?_;refine rg ?_;conv=>whnf)
    refine Bs 13 1000 3 An E E ?_
    refine Av t.length (fun j=>[(0,.sl 3 An t),(1,Az m),(2,Aa wh),(3,Aa now),(10,Ad th),(11,Aa old),(13,.osl 1000),(14,Aa j)]) (fun j=>[(1000,.row 3 An (Hp t m ⟨m,wh,now⟩ old j))]) [] ⟨⟨E,E,E,E,E,E,E,E,E,E,E,E,E,E,E,E,Y⟩,⟨.inl E,E,Y⟩,E,E⟩ ?_
    intro j hj
    have hol:=Ke t m ⟨m,wh,now⟩ old j
    have hsucc:=fun h:j < t.length=>O4 t m ⟨m,wh,now⟩ old h
    obtain ⟨u,hu⟩:∃ u,Hp t m ⟨m,wh,now⟩ old j = u:=⟨_,rfl⟩
    rw [hu] at hol hsucc ⊢
    refine rg ?_;conv=>whnf
    refine ⟨fun h=>?_,fun h=>?_⟩
    ·have hlt:j < t.length:=by have:=of_decide_eq_true h; omega
     have hs:=hsucc hlt
     have hej:t[((j:Nat):Int).toNat]'(by omega) = t[j]:=rfl
     obtain ⟨x,hx⟩:∃ x,t[j] = x:=⟨_,rfl⟩
     rw [hx] at hs hej
     refine rg ?_;conv=>whnf
     refine ⟨E,by omega,by omega,?_⟩
     rw [hej]
     conv=>whnf
     refine ⟨fun h3=>?_,fun h3=>?_⟩
     ·rw [if_pos (show x.mac = m by simp at h3; omega)] at hs
      refine rg ?_;conv=>whnf
      refine Ai (Af Γ.toTy 60 rfl rfl rfl rfl rfl (.row rfl) (.lit (e:=An) (l:=[⟨m,wh,now⟩]) rfl rfl) (fun j hj=>by cases hj; decide) (by simp; omega) (by simp; omega)) rfl rfl ?_
      refine rg ?_;conv=>whnf
      refine ⟨by unfold I64; omega,?_⟩
      conv=>whnf
      exact Ar [(1000,60)] hlt ⟨⟨E,E,E,E,E,E,E,E,E,E,E,E,E,E,E,E,Y⟩,⟨.inl (congrArg (Ob.row 3 An) hs),E,Y⟩,E,E⟩
     ·rw [if_neg (show ¬ x.mac = m by simp at h3; omega)] at hs
      refine rg ?_;conv=>whnf
      refine ⟨fun h4=>?_,fun h4=>?_⟩
      ·rw [if_pos (show (j:Int) ≠ old by simpa using h4)] at hs
       refine rg ?_;conv=>whnf
       refine ⟨E,by omega,by omega,?_⟩
       rw [hej]
       conv=>whnf
       refine Ai (Af Γ.toTy 60 rfl rfl rfl rfl rfl (.row rfl) (.lit (e:=An) (l:=[x]) rfl rfl) (fun j hj=>by cases hj; decide) (by simp; omega) (by simp; omega)) rfl rfl ?_
       refine rg ?_;conv=>whnf
       refine ⟨by unfold I64; omega,?_⟩
       conv=>whnf
       exact Ar [(1000,60)] hlt ⟨⟨E,E,E,E,E,E,E,E,E,E,E,E,E,E,E,E,Y⟩,⟨.inl (congrArg (Ob.row 3 An) hs),E,Y⟩,E,E⟩
      ·rw [if_neg (show ¬ (j:Int) ≠ old by simpa using h4)] at hs
       refine rg ?_;conv=>whnf
       refine ⟨by unfold I64; omega,?_⟩
       conv=>whnf
       exact Ar [] hlt ⟨⟨E,E,E,E,E,E,E,E,E,E,E,E,E,E,E,E,Y⟩,⟨.inl (congrArg (Ob.row 3 An) hs),E,Y⟩,E,E⟩
    ·have:j = t.length:=by have:=of_decide_eq_false h; omega
     subst this
     rw [hu] at hout
     cases th
     ·rw [if_neg (by decide)] at hout
      (refine rg ?_;(conv=>whnf);refine aT ?_;refine rg ?_;conv=>whnf)
      refine Ai (Af Γ.toTy 61 rfl rfl rfl rfl rfl (.row rfl) (.lit (e:=An) (l:=[⟨m,wh,now⟩]) rfl rfl) (fun j hj=>by cases hj; decide) (by simp; omega) (by simp; omega)) rfl rfl ?_
      refine As 61 E ?_
      refine rg ?_;conv=>whnf
      exact Ac E (.cons .tmp .nil) (congrArg (SV.sl 3 An) hout) E
     ·rw [if_pos rfl] at hout
      (refine rg ?_;(conv=>whnf);refine aF ?_;refine rg ?_;conv=>whnf)
      refine As 1000 E ?_
      exact Ac E (.cons .tmp .nil) (congrArg (SV.sl 3 An) hout) E
  ·(refine rg ?_;(conv=>whnf);refine aF ?_;refine rg ?_;(conv=>whnf);refine aF ?_;refine rg ?_;conv=>whnf)
   refine Bs 13 1000 3 An E E ?_
   refine Av t.length (fun j=>[(0,.sl 3 An t),(1,Az m),(2,Aa wh),(3,Aa now),(10,Ad th),(11,Aa old),(13,.osl 1000),(14,Aa j)]) (fun j=>[(1000,.row 3 An (Hp t m ⟨m,wh,now⟩ old j))]) [] ⟨⟨E,E,E,E,E,E,E,E,E,E,E,E,E,E,E,E,Y⟩,⟨.inl E,E,Y⟩,E,E⟩ ?_
   intro j hj
   have hol:=Ke t m ⟨m,wh,now⟩ old j
   have hsucc:=fun h:j < t.length=>O4 t m ⟨m,wh,now⟩ old h
   obtain ⟨u,hu⟩:∃ u,Hp t m ⟨m,wh,now⟩ old j = u:=⟨_,rfl⟩
   rw [hu] at hol hsucc ⊢
   refine rg ?_;conv=>whnf
   refine ⟨fun h=>?_,fun h=>?_⟩
   ·have hlt:j < t.length:=by have:=of_decide_eq_true h; omega
    have hs:=hsucc hlt
    have hej:t[((j:Nat):Int).toNat]'(by omega) = t[j]:=rfl
    obtain ⟨x,hx⟩:∃ x,t[j] = x:=⟨_,rfl⟩
    rw [hx] at hs hej
    refine rg ?_;conv=>whnf
    refine ⟨E,by omega,by omega,?_⟩
    rw [hej]
    conv=>whnf
    refine ⟨fun h3=>?_,fun h3=>?_⟩
    ·rw [if_pos (show x.mac = m by simp at h3; omega)] at hs
     refine rg ?_;conv=>whnf
     refine Ai (Af Γ.toTy 60 rfl rfl rfl rfl rfl (.row rfl) (.lit (e:=An) (l:=[⟨m,wh,now⟩]) rfl rfl) (fun j hj=>by cases hj; decide) (by simp; omega) (by simp; omega)) rfl rfl ?_
     refine rg ?_;conv=>whnf
     refine ⟨by unfold I64; omega,?_⟩
     conv=>whnf
     exact Ar [(1000,60)] hlt ⟨⟨E,E,E,E,E,E,E,E,E,E,E,E,E,E,E,E,Y⟩,⟨.inl (congrArg (Ob.row 3 An) hs),E,Y⟩,E,E⟩
    ·rw [if_neg (show ¬ x.mac = m by simp at h3; omega)] at hs
     refine rg ?_;conv=>whnf
     refine ⟨fun h4=>?_,fun h4=>?_⟩
     ·rw [if_pos (show (j:Int) ≠ old by simpa using h4)] at hs
      refine rg ?_;conv=>whnf
      refine ⟨E,by omega,by omega,?_⟩
      rw [hej]
      conv=>whnf
      refine Ai (Af Γ.toTy 60 rfl rfl rfl rfl rfl (.row rfl) (.lit (e:=An) (l:=[x]) rfl rfl) (fun j hj=>by cases hj; decide) (by simp; omega) (by simp; omega)) rfl rfl ?_
      refine rg ?_;conv=>whnf
      refine ⟨by unfold I64; omega,?_⟩
      conv=>whnf
      exact Ar [(1000,60)] hlt ⟨⟨E,E,E,E,E,E,E,E,E,E,E,E,E,E,E,E,Y⟩,⟨.inl (congrArg (Ob.row 3 An) hs),E,Y⟩,E,E⟩
     ·rw [if_neg (show ¬ (j:Int) ≠ old by simpa using h4)] at hs
      refine rg ?_;conv=>whnf
      refine ⟨by unfold I64; omega,?_⟩
      conv=>whnf
      exact Ar [] hlt ⟨⟨E,E,E,E,E,E,E,E,E,E,E,E,E,E,E,E,Y⟩,⟨.inl (congrArg (Ob.row 3 An) hs),E,Y⟩,E,E⟩
   ·have:j = t.length:=by have:=of_decide_eq_false h; omega
    subst this
    rw [hu] at hout
    cases th
    ·rw [if_neg (by decide)] at hout
     (refine rg ?_;(conv=>whnf);refine aT ?_;refine rg ?_;conv=>whnf)
     refine Ai (Af Γ.toTy 61 rfl rfl rfl rfl rfl (.row rfl) (.lit (e:=An) (l:=[⟨m,wh,now⟩]) rfl rfl) (fun j hj=>by cases hj; decide) (by simp; omega) (by simp; omega)) rfl rfl ?_
     refine As 61 E ?_
     refine rg ?_;conv=>whnf
     exact Ac E (.cons .tmp .nil) (congrArg (SV.sl 3 An) hout) E
    ·rw [if_pos rfl] at hout
     (refine rg ?_;(conv=>whnf);refine aF ?_;refine rg ?_;conv=>whnf)
     refine As 1000 E ?_
     exact Ac E (.cons .tmp .nil) (congrArg (SV.sl 3 An) hout) E
theorem Aaz (n:Net) (hn:n.Fin) (fw:List Bool) (t:List EntryM) (dom from_:Int) (m:Nat) (hl:Aq t) (hw:I64 (findE t m).1) (hm64:m < 18446744073709551616) :
  Sy.Spec Tryz.prog 147 [Ap n,.sl 1 Ad fw,.sl 3 An t,Aa dom,Aa from_,Az m] [] (.tup [.sl 1 Aa (decideT n fw t dom from_ m).1,.sl 1 Aa (decideT n fw t dom from_ m).2.1,Aa (decideT n fw t dom from_ m).2.2]) []:=Ab Γ hm 100 F147 Tryz.ntmps147 rfl fun F hF=>by
 have qf:=Ve n hn fw dom from_
 have qg:=Ip m hm64
 cases hroom:roomB n fw dom from_
 ·have hres:decideT n fw t dom from_ m = ([],[],2):=by rw [decideT,if_pos hroom]
  have hfl:floodT n fw dom from_ = ([],[],2):=by rw [floodT,if_pos hroom]
  rw [hres]
  rw [hfl] at qf
  conv=>whnf
  refine Ag qf F143 E E E E E ?_
  (refine rg ?_;(conv=>whnf);refine aT ?_;refine rg ?_;(conv=>whnf);refine aT ?_;refine rg ?_;conv=>whnf)
  exact Ac E (.cons .tmp (.cons .tmp (.cons .tmp .nil))) E E
 have hb2:J5 n fw dom = true:=by rw [Io,Bool.and_eq_true] at hroom; exact hroom.1
 simp only [J5,Bool.and_eq_true,decide_eq_true_eq] at hb2
 obtain ⟨⟨hd,hfw⟩,hbn⟩:=hb2
 have hfl:floodT n fw dom from_ = (B9 n fw from_ (Ax n dom),peersOut n dom from_,0):=by rw [floodT,if_neg (by rw [hroom]; decide)]
 rw [hfl] at qf
 have hres:=decideT.eq_1 n fw t dom from_ m
 rw [if_neg (by rw [hroom]; decide)] at hres
 cases hg:Dt m
 rotate_left
 ·rw [if_pos hg] at hres
  rw [hres]
  rw [hg] at qg
  conv=>whnf
  refine Ag qf F143 E E E E E ?_
  (refine rg ?_;(conv=>whnf);refine aF ?_;refine rg ?_;conv=>whnf)
  refine Ag qg F77 E E E E E ?_
  (refine rg ?_;(conv=>whnf);refine aT ?_;refine rg ?_;conv=>whnf)
  exact Ac E (.cons .tmp (.cons .tmp (.cons .tmp .nil))) E E
 rw [if_neg (by rw [hg]; decide)] at hres
 rw [hg] at qg
 have hdi:=Bn hd
 have hd0:0 ≤ dom:=hdi.1
 have hkd:dom.toNat < n.domains.length:=by omega
 have e2:nth n.domains dom = n.domains[dom.toNat]:=Ao hkd
 have hpe:=hn.peers _ (List.getElem_mem hkd)
 have qs:=Aa1 n hn dom m
 obtain ⟨hs1,hs2⟩:=Lq hbn dom m
 have hsp:=Mn hbn dom m
 have qfd:=W8 t m hl
 have q1:∀ p:Int,0 ≤ p → p < n.ports.length → _:=fun p h0 h1=>Ajt n fw p from_ hbn hfw h0 h1
 have hmem:∀ p,inB (Ax n dom) p = true → 0 ≤ p ∧ p < n.ports.length:=fun p hp=>By p (inB_mem.1 hp)
 have qm:=Kd n hn hbn dom
 have qi:=fun x=>Ek (Cb n dom) x (Hu n hn dom)
 have hmt:Cb n dom = Ax n dom:=by rw [Cb,if_pos ⟨⟨hdi.1,hdi.2⟩,hbn⟩]
 rw [hmt] at qm qi
 rw [e2] at hres
 obtain ⟨d,hdd⟩:∃ d,n.domains[dom.toNat]'hkd = d:=⟨_,rfl⟩
 rw [hdd] at hres hpe
 have qp:=fun x=>Ek d.peers x hpe
 generalize decideT n fw t dom from_ m = res at *
 generalize findE t m = fe at *
 obtain ⟨w,ok⟩:=fe
 dsimp only at hres hw qfd
 have hw2:I64 (-1 - w) ∨ 0 ≤ w:=by unfold I64 at *; omega
 conv=>whnf
 refine Ag qf F143 E E E E E ?_
 (refine rg ?_;(conv=>whnf);refine aF ?_;refine rg ?_;conv=>whnf)
 refine Ag qg F77 E E E E E ?_
 (refine rg ?_;(conv=>whnf);refine aF ?_;refine rg ?_;conv=>whnf)
 refine Ag qs F218 E E E E E ?_
 refine rg ?_;conv=>whnf
 refine ⟨fun h1=>?_,fun h1=>?_⟩
 ·have h2:0 ≤ staticP n dom m:=by simpa using h1
  rw [if_pos (hs1.1 h2),← hs2 (hs1.1 h2)] at hres
  subst hres
  refine rg ?_;conv=>whnf
  refine Ag (q1 _ h2 (hsp h2)) F219 E E E E E ?_
  refine rg ?_;conv=>whnf
  refine Am 13 1 Aa E ?_
  exact Ac E (.cons .tmp (.cons .tmp (.cons .tmp .nil))) E E
 have h2:¬ 0 ≤ staticP n dom m:=by simp at h1; omega
 rw [if_neg (fun h=>h2 (hs1.2 h))] at hres
 refine rg ?_;conv=>whnf
 refine Ag qfd F212 E E E E E ?_
 cases ok
 ·simp only [Bool.false_eq_true,false_and,if_false] at hres
  subst hres
  (refine rg ?_;(conv=>whnf);refine aF ?_;refine rg ?_;(conv=>whnf);refine aF ?_;refine rg ?_;(conv=>whnf);refine aF ?_;refine rg ?_;(conv=>whnf);refine aF ?_;refine rg ?_;(conv=>whnf);refine aF ?_;refine rg ?_;conv=>whnf)
  exact Ac E (.cons .tmp (.cons .tmp (.cons .tmp .nil))) E E
 simp only [true_and] at hres
 (refine rg ?_;(conv=>whnf);refine aT ?_;refine rg ?_;conv=>whnf)
 refine Ag qm F210 E E E E E ?_
 refine rg ?_;conv=>whnf
 refine Ag (qi w) F142 E E E E E ?_
 cases hin:inB (Ax n dom) w
 rotate_left
 ·have hwp:=hmem w hin
  rw [if_pos ⟨hwp.1,hin⟩] at hres
  subst hres
  (refine rg ?_;(conv=>whnf);refine aT ?_;refine rg ?_;conv=>whnf)
  refine Ag (q1 w hwp.1 hwp.2) F219 E E E E E ?_
  refine rg ?_;conv=>whnf
  refine Am 13 1 Aa E ?_
  exact Ac E (.cons .tmp (.cons .tmp (.cons .tmp .nil))) E E
 rw [if_neg (by rw [hin]; simp)] at hres
 (refine rg ?_;(conv=>whnf);refine aF ?_;refine rg ?_;(conv=>whnf);refine aT ?_;refine rg ?_;conv=>whnf)
 refine ⟨fun h3=>?_,fun h3=>?_⟩
 rotate_left
 ·have h4:¬ w < 0:=by simpa using h3
  rw [if_neg (fun h=>h4 h.1)] at hres
  subst hres
  (refine rg ?_;(conv=>whnf);refine aF ?_;refine rg ?_;conv=>whnf)
  exact Ac E (.cons .tmp (.cons .tmp (.cons .tmp .nil))) E E
 have h4:w < 0:=by simpa using h3
 have hneg:-(w + 1) = -1 - w:=by omega
 refine rg ?_;conv=>whnf
 refine ⟨E,hd0,hkd,?_⟩
 rw [hdd]
 conv=>whnf
 refine ⟨by unfold I64 at *; omega,?_⟩
 conv=>whnf
 have hwr:IntKind.i64.wrap (0 - (w + 1)) = -1 - w:=by rw [IntKind.wrap_i64]; unfold I64 at *; omega
 rw [← hwr] at hres
 refine Ag (qp (IntKind.i64.wrap (0 - (w + 1)))) F142 E E E E E ?_
 cases hip:inB d.peers (IntKind.i64.wrap (0 - (w + 1)))
 ·rw [if_neg (by rw [hip]; simp)] at hres
  subst hres
  (refine rg ?_;(conv=>whnf);refine aF ?_;refine rg ?_;conv=>whnf)
  exact Ac E (.cons .tmp (.cons .tmp (.cons .tmp .nil))) E E
 rw [if_pos ⟨h4,hip⟩] at hres
 (refine rg ?_;(conv=>whnf);refine aT ?_;refine rg ?_;conv=>whnf)
 refine ⟨fun h5=>?_,fun h5=>?_⟩
 ·rw [if_pos (by simpa using h5)] at hres
  subst hres
  refine rg ?_;conv=>whnf
  refine Am 12 1 Aa E ?_
  refine Am 13 1 Aa E ?_
  exact Ac E (.cons .tmp (.cons .tmp (.cons .tmp .nil))) E E
 ·rw [if_neg (by simpa using h5)] at hres
  subst hres
  refine rg ?_;conv=>whnf
  refine ⟨by unfold I64 at *; omega,?_⟩
  conv=>whnf
  refine Am 12 1 Aa E ?_
  refine D9 91 Aa [IntKind.i64.wrap (0 - (w + 1))] E E ?_
  refine As 91 E ?_
  exact Ac E (.cons .tmp (.cons .tmp (.cons .tmp .nil))) E E
theorem Ab5 (t:List EntryM) (q:QueuedM) (now:Int) (ht:TabOK t) (hq:QueuedOK q):Sy.Spec Tryz.prog 172 [.sl 3 An t,A1 q,Aa now] [] (.sl 3 An (learnQ t q now)) []:=Ab Γ hm 100 F172 Tryz.ntmps172 rfl fun F hF=>by
 have hres:=learnQ.eq_1 t q now
 generalize learnQ t q now = res at *
 have hl:=ht.short
 have hl2:=hl
 unfold Aq at hl2
 have hs:=hq.frame.src
 have h1:=hq.peer
 conv=>whnf
 refine ⟨fun h=>?_,fun h=>?_⟩
 ·rw [if_pos (by simpa using h)] at hres
  subst hres
  refine rg ?_;conv=>whnf
  refine Ai (Ak [(0,55)] E F48 (Ol res hl2) E Y E ⟨.inr E,Y⟩) E E ?_
  refine As 55 E ?_
  refine rg ?_;conv=>whnf
  exact Ac E (.cons .tmp .nil) E E
 rw [if_neg (by simpa using h)] at hres
 clear h
 refine rg ?_;conv=>whnf
 refine ⟨fun h=>?_,fun h=>?_⟩
 ·rw [if_pos (by simpa using h)] at hres
  subst hres
  refine rg ?_;conv=>whnf
  refine ⟨by unfold I64; omega,?_⟩
  conv=>whnf
  refine Ag (Zi t q.frame.src (-1 - q.peer) now hl ht.mac (by omega)) F243 E E E E E ?_
  refine rg ?_;conv=>whnf
  exact Ac E (.cons .tmp .nil) E E
 rw [if_neg (by simpa using h)] at hres
 subst hres
 refine rg ?_;conv=>whnf
 refine Ag (Zi t q.frame.src q.from_ now hl ht.mac (by omega)) F243 E E E E E ?_
 refine rg ?_;conv=>whnf
 exact Ac E (.cons .tmp .nil) E E
def Jf (k p d:Int):OutM:=⟨k,p,d,[],noF,0⟩
theorem Aia (k p d:Int) (b:List UInt8) (e:Int):Dy (Jf k p d) (b,e) = if e ≠ 0 then ⟨5,p,d,[],noF,e⟩ else ⟨k,p,d,b,noF,0⟩:=rfl
theorem Su (l:List OutM) (k p d:Int) (b:List UInt8) (e:Int) (hl:l.length < 100000000000) :
  Sy.Spec Tryz.prog 175 [Bh (Jf k p d),.sl 1 Aj b,Aa e,.ptr 0 0] [(0,.box [.osl 1]),(1,.row 9 Bh l)] (.tup []) [(0,.box [.osl 2]),(1,.non),(2,.row 9 Bh (l ++ [Dy (Jf k p d) (b,e)]))]:=Ab Γ hm 100 F175 Tryz.ntmps175 rfl fun F hF=>by
 have hres:=Aia k p d b e
 generalize Dy (Jf k p d) (b,e) = res at *
 conv=>whnf
 refine ⟨fun h=>?_,fun h=>?_⟩
 ·rw [if_pos (by simpa using h)] at hres
  refine rg ?_;conv=>whnf
  refine Ow 17 [Bh ⟨5,p,d,[],noF,e⟩] E (.cons (.agg (.cons (.refl _) (.cons (.refl _) (.cons (.refl _) (.cons .nil (.cons (.refl _) (.cons (.refl _) (.cons (.refl _) (.cons (.refl _) (.cons (.refl _) .nil)))))))))) .nil) E ?_
  refine Ai (Af Γ.toTy 18 E E E E E (.row E) (.lit (e:=Bh) (l:=[res]) E (by rw [hres]; rfl)) (by decide) (by simp; omega) (by simp; omega)) E E ?_
  refine rg ?_;conv=>whnf
  exact Bx E .nil [(2,18)] [(0,.box [.osl 2]),(1,.non),(2,.row 9 Bh (l ++ [res]))] (fun _ h=>h) E E ⟨Y,⟨.inl E,E,.inl E,E,.inl E,E,Y⟩,E,E⟩
 ·rw [if_neg (by simpa using h)] at hres
  refine rg ?_;conv=>whnf
  refine Ai (Af Γ.toTy 18 E E E E E (.row E) (.lit (e:=Bh) (l:=[res]) E (by rw [hres]; rfl)) (by decide) (by simp; omega) (by simp; omega)) E E ?_
  refine rg ?_;conv=>whnf
  exact Bx E .nil [(2,18)] [(0,.box [.osl 2]),(1,.non),(2,.row 9 Bh (l ++ [res]))] (fun _ h=>h) E E ⟨Y,⟨.inl E,E,.inl E,E,.inl E,E,Y⟩,E,E⟩
theorem D2 (k p d:Int) (b:List UInt8) (e:Int):Sy.Spec Tryz.prog 149 [Bh (Jf k p d),.sl 1 Aj b,Aa e] [] (Bh (Dy (Jf k p d) (b,e))) []:=Ab Γ hm 100 F149 Tryz.ntmps149 rfl fun F hF=>by
 have hres:=Aia k p d b e
 generalize Dy (Jf k p d) (b,e) = res at *
 conv=>whnf
 refine ⟨fun h=>?_,fun h=>?_⟩
 ·rw [if_pos (by simpa using h)] at hres
  subst hres
  refine rg ?_;conv=>whnf
  refine Au 6 [Aa 5,Aa p,Aa d,.sl 1 Aj [],Az 0,Az 0,Aa 0,.sl 1 Aj [],Aa e] E (.cons (.refl _) (.cons (.refl _) (.cons (.refl _) (.cons .nil (.cons (.refl _) (.cons (.refl _) (.cons (.refl _) (.cons .nil (.cons (.refl _) .nil))))))))) ?_
  exact Ac E (.cons (.cell E E E E) .nil) E E
 ·rw [if_neg (by simpa using h)] at hres
  subst hres
  refine rg ?_;conv=>whnf
  exact Ac E (.cons (.cell E E E E) .nil) E E
theorem Aim {t:List EntryM} (ht:TabOK t) (m:Nat):I64 (findE t m).1:=by
 unfold findE
 split
 ·unfold I64; dsimp only; omega
 ·rename_i h
  have hlt:Cn t m < t.length:=Ij _ _
  have hk:(Cn t m).toNat < t.length:=by omega
  dsimp only
  rw [List.getElem?_eq_getElem hk]
  exact ht.wh _ (List.getElem_mem hk)
theorem Jd {n:Net} {fw:List Bool} {fr:Int} {l:List Int} {p:Int} (h:p ∈ B9 n fw fr l):p ∈ l:=(List.mem_filter.1 h).1
theorem T6 {n:Net} (hb:Ah n = true) (fw:List Bool) (t:List EntryM) (dom fr:Int) (m:Nat):∀ p ∈ (decideT n fw t dom fr m).1,0 ≤ p ∧ p < n.ports.length:=by
 intro p hp
 unfold decideT at hp
 split at hp
 ·cases hp
 split at hp
 ·exact By p (Jd hp)
 split at hp
 ·rename_i h1
  obtain ⟨hs1,hs2⟩:=Lq hb dom m
  have h2:=hs1.2 h1
  have h3:=Mn hb dom m h2
  have h4:=List.mem_singleton.1 (Jd hp)
  rw [h4,← hs2 h1]
  exact ⟨h2,h3⟩
 split at hp
 ·rename_i h1
  rw [List.mem_singleton.1 (Jd hp)]
  exact By _ (inB_mem.1 h1.2.2)
 split at hp
 ·cases hp
 ·exact By p (Jd hp)
theorem Aa9 (n:Net) (fw:List Bool) (fr:Int) (l:List Int):(B9 n fw fr l).length ≤ l.length:=List.length_filter_le _ _
theorem Abb {n:Net} (hn:n.Fin) (dom fr:Int) (hd:Al dom n.domains.length = true):(peersOut n dom fr).length < 2147483648:=by
 unfold peersOut
 split
 ·decide
 ·have h:=Em hd
  rw [Ao h.2]
  exact hn.peers _ (List.getElem_mem h.2)
theorem Sp {n:Net} (hn:n.Fin) (fw:List Bool) (t:List EntryM) (dom fr:Int) (m:Nat):(decideT n fw t dom fr m).1.length < 2147483648 ∧ (decideT n fw t dom fr m).2.1.length < 2147483648:=by
 have h1:=Adn n dom
 have h2:=hn.ports
 unfold Aq at h2
 have h3:=fun l=>Aa9 n fw fr l
 unfold decideT
 split
 ·decide
 rename_i h
 have hd:Al dom n.domains.length = true:=by
  cases hx:Al dom n.domains.length
  ·exact absurd (by rw [roomB,hx]; rfl) h
  ·rfl
 have h4:=Abb hn dom fr hd
 split
 ·have:=h3 (Ax n dom); exact ⟨by dsimp only; omega,h4⟩
 split
 ·have:=h3 [(nth n.statics (C9 n dom m)).port]; simp only [List.length_cons,List.length_nil] at this; exact ⟨by dsimp only; omega,by show (0:Nat) < 2147483648; decide⟩
 split
 ·have:=h3 [(findE t m).1]; simp only [List.length_cons,List.length_nil] at this; exact ⟨by dsimp only; omega,by show (0:Nat) < 2147483648; decide⟩
 split
 ·refine ⟨by show (0:Nat) < 2147483648; decide,?_⟩
  dsimp only
  split <;> simp
 ·have:=h3 (Ax n dom); exact ⟨by dsimp only; omega,h4⟩
theorem Aeu (n:Net) (hn:n.Fin) (hm0:n.Num) (fw:List Bool) (t:List EntryM) (dom:Int) (q:QueuedM) (now:Int) (ht:TabOK t) (hq:QueuedOK q) :
  Sy.Spec Tryz.prog 102 [Ap n,.sl 1 Ad fw,.sl 3 An t,Aa dom,A1 q,Aa now] [] (.tup [.sl 3 An (bridgeT n fw t dom q now).1,.sl 9 Bh (bridgeT n fw t dom q now).2.1,Aa (bridgeT n fw t dom q now).2.2]) []:=Ab Γ hm 100 F102 Tryz.ntmps102 rfl fun F hF=>by
 have hres:=bridgeT.eq_1 n fw t dom q now
 generalize bridgeT n fw t dom q now = res at *
 have qf:=floodS n hn fw dom q.from_
 have qr:=Uk t ht.short ht.mac
 conv=>whnf
 refine Bf 6 8 (Ap n) E E E ?_
 refine Bf 10 7 (A1 q) E E E ?_
 refine rg ?_;conv=>whnf
 cases hroom:roomB n fw dom q.from_
 ·rw [if_pos (.inl hroom)] at hres
  subst hres
  rw [floodT,if_pos hroom] at qf
  refine Ag qf F171 E E E E E ?_
  (refine rg ?_;(conv=>whnf);refine aT ?_;refine rg ?_;(conv=>whnf);refine aT ?_;refine rg ?_;conv=>whnf)
  refine Au 13 [.sl 9 Bh []] E (.cons .nil .nil) ?_
  refine Am 12 3 An E ?_
  exact Ac E (.cons .tmp (.cons (.cell E E E E) (.cons .tmp .nil))) E E
 rw [floodT,if_neg (by rw [hroom]; decide)] at qf
 refine Ag qf F171 E E E E E ?_
 (refine rg ?_;(conv=>whnf);refine aF ?_;refine rg ?_;conv=>whnf)
 refine Ag qr F47 E E E E E ?_
 cases htb:tableB t
 ·rw [if_pos (.inr htb)] at hres
  subst hres
  (refine rg ?_;(conv=>whnf);refine aT ?_;refine rg ?_;conv=>whnf)
  refine Au 13 [.sl 9 Bh []] E (.cons .nil .nil) ?_
  refine Am 12 3 An E ?_
  exact Ac E (.cons .tmp (.cons (.cell E E E E) (.cons .tmp .nil))) E E
 rw [if_neg (by simp [hroom,htb])] at hres
 have ql:=Ab5 t q now ht hq
 have hu:=La ht hq now
 generalize learnQ t q now = u at *
 have qro:=Aca n hn hm0 dom q.frame.dst
 generalize routerT n dom q.frame.dst = ro at *
 obtain ⟨irb,ok⟩:=ro
 dsimp only at hres qro
 have hbn:Ah n = true:=by
  simp only [roomB,Bool.and_eq_true] at hroom
  exact hroom.1.2
 (refine rg ?_;(conv=>whnf);refine aF ?_;refine rg ?_;conv=>whnf)
 refine Ag ql F172 E E E E E ?_
 refine rg ?_;conv=>whnf
 refine Ag qro F173 E E E E E ?_
 cases ok
 rotate_left
 ·rw [if_pos rfl] at hres
  have qh:=Ajf n hn hm0 irb q.frame hq.frame
  generalize hopT n irb q.frame = hp at *
  obtain ⟨to,g,e⟩:=hp
  dsimp only at hres qh
  (refine rg ?_;(conv=>whnf);refine aT ?_;refine rg ?_;conv=>whnf)
  refine Ag qh F174 E E E E E ?_
  refine rg ?_;conv=>whnf
  refine ⟨fun h=>?_,fun h=>?_⟩
  ·rw [if_pos (by simpa using h)] at hres
   subst hres
   refine rg ?_;conv=>whnf
   refine Au 13 [.sl 9 Bh []] E (.cons .nil .nil) ?_
   exact Ac E (.cons .tmp (.cons (.cell E E E E) (.cons .tmp .nil))) E E
  ·rw [if_neg (by simpa using h)] at hres
   subst hres
   refine rg ?_;conv=>whnf
   refine ⟨(by kernel_rfl),?_⟩
   conv=>whnf
   refine Ow 84 [Bh ⟨4,0,to,[],g,0⟩] E (.cons (.agg (.cons (.refl _) (.cons (.refl _) (.cons (.refl _) (.cons .nil (.cons (.refl _) (.cons (.refl _) (.cons (.refl _) (.cons (.refl _) (.cons (.refl _) .nil)))))))))) .nil) E ?_
   refine D9 84 Bh [⟨4,0,to,[],g,0⟩] E E ?_
   refine As 84 E ?_
   exact Ac E (.cons .tmp (.cons (.cell E E E E) (.cons .tmp .nil))) E E
 rw [if_neg (by decide)] at hres
 have hs:=hq.frame.src
 have hd2:=hq.frame.dst
 have hfw:=Aim hu q.frame.dst
 have qd:=Apm n hn fw u dom q.from_ q.frame.dst hu.short (by unfold I64 at *; omega) (by omega)
 have hports:=T6 hbn fw u dom q.from_ q.frame.dst
 have hfew:=Sp hn fw u dom q.from_ q.frame.dst
 generalize decideT n fw u dom q.from_ q.frame.dst = dc at *
 obtain ⟨ports,peers,e0⟩:=dc
 dsimp only at hres qd hports hfew
 obtain ⟨hf1,hf2⟩:=hfew
 (refine rg ?_;(conv=>whnf);refine aF ?_;refine rg ?_;conv=>whnf)
 refine Ag qd F176 E E E E E ?_
 refine rg ?_;conv=>whnf
 refine Uf 13 0 1000 9 Bh E E E E ?_
 refine Av ports.length (fun j=>[(3,Aa dom),(6,.ref 8 (Ap n) 0),(10,.ref 7 (A1 q) 0),(12,.sl 3 An u),(13,.ptr 13 0),(23,.clo (.func 175) [] [.ptr 13 0]),(25,.sl 1 Aa peers),(100,.sl 1 Aa ports),(101,Aa ports.length),(102,Aa j)])
  (fun j=>[(13,.box [.osl 1000]),(1000,.row 9 Bh ((ports.take j).map (Er n dom q.frame)))]) [(13,13),(1000,1000)] ⟨⟨rfl,rfl,rfl,rfl,rfl,rfl,rfl,rfl,rfl,rfl,rfl,rfl,rfl,rfl,rfl,rfl,rfl,rfl,rfl,rfl,trivial⟩,⟨.inl rfl,rfl,.inl rfl,rfl,trivial⟩,rfl,rfl⟩ ?_
 intro j hj
 refine rg ?_;conv=>whnf
 refine ⟨fun h=>?_,fun h=>?_⟩
 ·have hlt:j < ports.length:=by have:=of_decide_eq_true h; omega
  have hj0:((j:Nat):Int).toNat < ports.length:=by simpa using hlt
  obtain ⟨p,hp⟩:∃ p,ports[j] = p:=⟨_,rfl⟩
  have e1:ports[((j:Nat):Int).toNat]'hj0 = p:=hp
  have hs:(ports.take (j + 1)).map (Er n dom q.frame) = (ports.take j).map (Er n dom q.frame) ++ [Er n dom q.frame p]:=by
   rw [List.take_succ_eq_append_getElem hlt,List.map_append,hp]; rfl
  have hal:((ports.take j).map (Er n dom q.frame)).length = j:=by rw [List.length_map,List.length_take]; omega
  have hpi:=hports p (by rw [← hp]; exact List.getElem_mem hlt)
  have hpk:p.toNat < n.ports.length:=by omega
  have ql:=Am0 n hn p dom q.frame hq.frame
  have hop:Er n dom q.frame p = Dy (Jf (if (nth n.ports p).link < 0 then 1 else 2) p 0) ((leaveT n p dom q.frame).1,(leaveT n p dom q.frame).2):=rfl
  rw [hop,Ao hpk] at hs
  clear hop
  obtain ⟨acc,hacc⟩:∃ acc,(ports.take j).map (Er n dom q.frame) = acc:=⟨_,rfl⟩
  rw [hacc] at hs hal ⊢
  obtain ⟨x,hx⟩:∃ x,n.ports[p.toNat]'hpk = x:=⟨_,rfl⟩
  rw [hx] at hs
  clear h
  refine rg ?_;conv=>whnf
  refine ⟨E,by omega,hj0,?_⟩
  rw [e1]
  conv=>whnf
  refine ⟨E,hpi.1,hpk,?_⟩
  rw [hx]
  conv=>whnf
  refine ⟨fun h=>?_,fun h=>?_⟩
  ·rw [if_neg (by have:=of_decide_eq_true h; omega)] at hs
   refine rg ?_;conv=>whnf
   refine Ag ql F177 E E E E E ?_
   refine rg ?_;conv=>whnf
   refine Ai (Kk [(0,13),(1,1000),(2,1001)] [] (Id E E F175) (Su acc 2 p 0 (leaveT n p dom q.frame).1 (leaveT n p dom q.frame).2 (by omega)) (.cons (.agg (.cons (.refl _) (.cons (.refl _) (.cons (.refl _) (.cons .nil (.cons (.refl _) (.cons (.refl _) (.cons (.refl _) (.cons .nil (.cons (.refl _) .nil)))))))))) (.cons (.refl _) (.cons (.refl _) (.cons (.refl _) .nil)))) ⟨E,E,Y⟩ E ⟨.inl E,.inl E,.inr E,Y⟩ E) E E ?_
   refine rg ?_;conv=>whnf
   refine ⟨by unfold I64; omega,?_⟩
   conv=>whnf
   exact Ar [(13,13),(1000,1001)] hlt ⟨⟨E,E,E,E,E,E,E,E,E,E,E,E,E,E,E,E,E,E,E,E,Y⟩,⟨.inl E,E,.inl (congrArg (Ob.row 9 Bh) hs),E,Y⟩,E,E⟩
  ·rw [if_pos (by have:=of_decide_eq_false h; omega)] at hs
   refine rg ?_;conv=>whnf
   refine Ag ql F177 E E E E E ?_
   refine rg ?_;conv=>whnf
   refine Ai (Kk [(0,13),(1,1000),(2,1001)] [] (Id E E F175) (Su acc 1 p 0 (leaveT n p dom q.frame).1 (leaveT n p dom q.frame).2 (by omega)) (.cons (.agg (.cons (.refl _) (.cons (.refl _) (.cons (.refl _) (.cons .nil (.cons (.refl _) (.cons (.refl _) (.cons (.refl _) (.cons .nil (.cons (.refl _) .nil)))))))))) (.cons (.refl _) (.cons (.refl _) (.cons (.refl _) .nil)))) ⟨E,E,Y⟩ E ⟨.inl E,.inl E,.inr E,Y⟩ E) E E ?_
   refine rg ?_;conv=>whnf
   refine ⟨by unfold I64; omega,?_⟩
   conv=>whnf
   exact Ar [(13,13),(1000,1001)] hlt ⟨⟨E,E,E,E,E,E,E,E,E,E,E,E,E,E,E,E,E,E,E,E,Y⟩,⟨.inl E,E,.inl (congrArg (Ob.row 9 Bh) hs),E,Y⟩,E,E⟩
 have hjj:j = ports.length:=by have:=of_decide_eq_false h; omega
 subst hjj
 clear h
 rw [List.take_length]
 obtain ⟨acc0,hacc0⟩:∃ acc0,ports.map (Er n dom q.frame) = acc0:=⟨_,rfl⟩
 have hal0:acc0.length = ports.length:=by rw [← hacc0,List.length_map]
 rw [hacc0] at hres ⊢
 refine rg ?_;conv=>whnf
 refine Av peers.length (fun j=>[(3,Aa dom),(6,.ref 8 (Ap n) 0),(10,.ref 7 (A1 q) 0),(12,.sl 3 An u),(13,.ptr 13 0),(23,.clo (.func 175) [] [.ptr 13 0]),(130,.sl 1 Aa peers),(131,Aa peers.length),(132,Aa j)])
  (fun j=>[(13,.box [.osl 1000]),(1000,.row 9 Bh (acc0 ++ (peers.take j).map (Ho n dom q.frame)))]) [(13,13),(1000,1000)] ⟨⟨rfl,rfl,rfl,rfl,rfl,rfl,rfl,rfl,rfl,rfl,rfl,rfl,rfl,rfl,rfl,rfl,rfl,rfl,trivial⟩,⟨.inl rfl,rfl,.inl (congrArg (Ob.row 9 Bh) (by simp)),rfl,trivial⟩,rfl,rfl⟩ ?_
 intro j hj
 refine rg ?_;conv=>whnf
 refine ⟨fun h=>?_,fun h=>?_⟩
 ·have hlt:j < peers.length:=by have:=of_decide_eq_true h; omega
  have hj0:((j:Nat):Int).toNat < peers.length:=by simpa using hlt
  obtain ⟨p,hp⟩:∃ p,peers[j] = p:=⟨_,rfl⟩
  have e1:peers[((j:Nat):Int).toNat]'hj0 = p:=hp
  have hs:acc0 ++ (peers.take (j + 1)).map (Ho n dom q.frame) = (acc0 ++ (peers.take j).map (Ho n dom q.frame)) ++ [Ho n dom q.frame p]:=by
   rw [List.take_succ_eq_append_getElem hlt,List.map_append,hp,List.append_assoc]; rfl
  have hal:(acc0 ++ (peers.take j).map (Ho n dom q.frame)).length ≤ ports.length + j:=by rw [List.length_append,List.length_map,List.length_take]; omega
  have ql:=Agn n hn hm0 dom p q.frame hq.frame
  have hop:Ho n dom q.frame p = Dy (Jf 3 0 p) ((meshT n dom p q.frame).1,(meshT n dom p q.frame).2):=rfl
  rw [hop] at hs
  clear hop
  obtain ⟨acc,hacc⟩:∃ acc,acc0 ++ (peers.take j).map (Ho n dom q.frame) = acc:=⟨_,rfl⟩
  rw [hacc] at hs hal ⊢
  clear h
  refine rg ?_;conv=>whnf
  refine ⟨E,by omega,hj0,?_⟩
  rw [e1]
  conv=>whnf
  refine Ag ql F178 E E E E E ?_
  refine rg ?_;conv=>whnf
  refine Ai (Kk [(0,13),(1,1000),(2,1001)] [] (Id E E F175) (Su acc 3 0 p (meshT n dom p q.frame).1 (meshT n dom p q.frame).2 (by omega)) (.cons (.agg (.cons (.refl _) (.cons (.refl _) (.cons (.refl _) (.cons .nil (.cons (.refl _) (.cons (.refl _) (.cons (.refl _) (.cons .nil (.cons (.refl _) .nil)))))))))) (.cons (.refl _) (.cons (.refl _) (.cons (.refl _) .nil)))) ⟨E,E,Y⟩ E ⟨.inl E,.inl E,.inr E,Y⟩ E) E E ?_
  refine rg ?_;conv=>whnf
  refine ⟨by unfold I64; omega,?_⟩
  conv=>whnf
  exact Ar [(13,13),(1000,1001)] hlt ⟨⟨E,E,E,E,E,E,E,E,E,E,E,E,E,E,E,E,E,E,Y⟩,⟨.inl E,E,.inl (congrArg (Ob.row 9 Bh) hs),E,Y⟩,E,E⟩
 have hjj:j = peers.length:=by have:=of_decide_eq_false h; omega
 subst hjj
 clear h
 rw [List.take_length]
 subst hres
 refine rg ?_;conv=>whnf
 refine ⟨(by kernel_rfl),?_⟩
 conv=>whnf
 refine As 1000 E ?_
 exact Ac E (.cons .tmp (.cons (.cell E E E E) (.cons .tmp .nil))) E E
theorem Jb {l:List QueuedM} (h:Ev l):l.length < 1000000 ∧ Ox l:=⟨by have:=h.1; omega,fun q hq=>by have:=(h.2 q hq).frame.body; omega⟩
theorem O9 {α:Type} {l:List α} {i:Nat} (h:i < l.length) (d:α):(l[i]?).getD d = l[i]:=by
 rw [List.getElem?_eq_getElem h]; rfl
theorem placeB_iff {d:Int} {k:Nat}:Al d k = true ↔ 0 ≤ d ∧ d.toNat < k:=by
 simp only [Al,Bool.and_eq_true,decide_eq_true_eq]; omega
def Hb (m:MacM):Prop:=∀ i,0 ≤ m.drops i ∧ m.drops i ≤ 1000000000000
theorem S1 (n:Net) (m:MacM) (d:Bool) (dom:Int) (q:QueuedM) (e:Int) (he:0 ≤ e ∧ e < 64) (hd:e = 0 → 0 ≤ dom ∧ dom.toNat < m.queues.length) (hb:Hb m) (hl:Ev (queueL m dom)) (hq:QueuedOK q) :
  Sy.Spec Tryz.prog 101 [.ptr 0 0,Aa dom,A1 q,Aa e] (Df n m d) (.tup []) (Df n (comeM m dom q e) d):=Ab Γ hm 100 F101 Tryz.ntmps101 rfl fun F hF=>by
 have hqb:=Jb hl
 have hp:=Ade _ q hqb.1 hqb.2 (by have:=hq.frame.body; omega)
 have h1:=Aem n m d e he.1 he.2 (hb _)
 have h3:=Aem n m d 3 (by decide) (by decide) (hb _)
 have hres:=comeM.eq_1 m dom q e
 generalize comeM m dom q e = res at *
 conv=>whnf
 refine ⟨fun h=>?_,fun h=>?_⟩
 ·rw [if_pos (by simpa using h)] at hres
  subst hres
  refine rg ?_;conv=>whnf
  refine Ai (Ak [] E F104 h1 E ⟨E,E,E,E,Y⟩ E ⟨.inl E,.inl E,.inl E,.inl E,Y⟩) E E ?_
  refine rg ?_;conv=>whnf
  exact done E .nil [] (Df n (Be m e) d) (fun _ h=>h) E E ⟨Y,⟨.inl E,E,.inl E,E,.inl E,E,.inl E,E,Y⟩,E,E⟩
 have h0:e = 0:=by simpa using h
 have hd:=hd h0
 rw [if_neg (by rw [h0]; decide)] at hres
 clear h hqb h1 hl he
 have hq0:=queueL.eq_1 m dom
 rw [O9 hd.2] at hq0
 generalize queueL m dom = l at *
 generalize pushT l q = r at *
 obtain ⟨l2,ok⟩:=r
 subst hq0
 refine rg ?_;conv=>whnf
 refine ⟨hd.1,hd.2,?_⟩
 conv=>whnf
 refine ⟨E,hd.2,?_⟩
 conv=>whnf
 refine At hp F170 E E E (by kernel_rfl) E ?_
 refine rd (by kernel_rfl) ?_;conv=>whnf
 refine ⟨(by kernel_rfl),?_⟩
 conv=>whnf
 cases ok
 ·rw [if_neg (by simp)] at hres
  subst hres
  (refine ⟨fun _=>?_,fun h=>False.elim (by simp at h)⟩;refine rg ?_;conv=>whnf)
  refine Ai (Ak [] E F104 h3 E ⟨E,E,E,E,Y⟩ E ⟨.inl E,.inl E,.inl E,.inl E,Y⟩) E E ?_
  refine rg ?_;conv=>whnf
  exact done E .nil [] (Df n (Be m 3) d) (fun _ h=>h) E E ⟨Y,⟨.inl E,E,.inl E,E,.inl E,E,.inl E,E,Y⟩,E,E⟩
 ·rw [if_pos rfl] at hres
  subst hres
  (refine ⟨fun h=>False.elim (by simp at h),fun _=>?_⟩;refine rg ?_;conv=>whnf)
  refine ⟨hd.1,hd.2,?_⟩
  conv=>whnf
  refine ⟨E,hd.2,l2,E,E,?_⟩
  conv=>whnf
  exact Bx E .nil [] (Df n (Acu m dom l2) d) (fun _ h=>h) E E ⟨Y,⟨.inl E,E,.inl E,E,.inl E,E,.inl E,E,Y⟩,E,E⟩
theorem Acq (n:Net) (m:MacM) (d:Bool) (dom at_:Int) (hl:Ev (queueL m dom)) :
  Sy.Spec Tryz.prog 53 [.ptr 0 0,Aa dom,Aa at_] (Df n m d) (.tup [A1 (takeM m dom at_).2.1,Ad (takeM m dom at_).2.2]) (Df n (takeM m dom at_).1 d):=Ab Γ hm 100 F53 Tryz.ntmps53 rfl fun F hF=>by
 have hqb:=Jb hl
 have hp:=Af2 _ at_ hqb.1 hqb.2
 have h1:=Aor n m d dom
 have hpl:=placeB_iff (d:=dom) (k:=m.queues.length)
 have hres:=takeM.eq_1 m dom at_
 generalize takeM m dom at_ = res at *
 generalize Al dom m.queues.length = b at *
 have hq0:=queueL.eq_1 m dom
 clear hl hqb
 generalize queueL m dom = l at *
 generalize takeT l at_ = r at *
 obtain ⟨q,l2,ok⟩:=r
 conv=>whnf
 refine Ai (Ak [] E F46 h1 E ⟨E,E,E,E,Y⟩ E ⟨.inl E,.inl E,.inl E,.inl E,Y⟩) E E ?_
 refine rg ?_;conv=>whnf
 cases b
 ·rw [if_pos rfl] at hres
  subst hres
  (refine ⟨fun _=>?_,fun h=>False.elim (absurd h (by decide))⟩;refine rg ?_;conv=>whnf)
  refine Au 6 [Aa 0,Aa 0,Aa 0,Az 0,Az 0,Aa 0,.sl 1 Aj []] E (.cons (.refl _) (.cons (.refl _) (.cons (.refl _) (.cons (.refl _) (.cons (.refl _) (.cons (.refl _) (.cons .nil .nil))))))) ?_
  exact done E (.cons (.cell E E E E) (.cons .tmp .nil)) [] (Df n m d) (fun _ h=>h) E E ⟨Y,⟨.inl E,E,.inl E,E,.inl E,E,.inl E,E,Y⟩,E,E⟩
 have hd:=hpl.1 rfl
 rw [O9 hd.2] at hq0
 subst hq0
 rw [if_neg (by simp)] at hres
 subst hres
 (refine ⟨fun h=>False.elim (absurd h (by decide)),fun _=>?_⟩;refine rg ?_;conv=>whnf)
 refine ⟨hd.1,hd.2,?_⟩
 conv=>whnf
 refine ⟨E,hd.2,?_⟩
 conv=>whnf
 refine Ag hp F106 E E E E E ?_
 refine rg ?_;conv=>whnf
 refine ⟨hd.1,hd.2,?_⟩
 conv=>whnf
 refine ⟨E,hd.2,l2,E,E,?_⟩
 conv=>whnf
 exact done E (.cons (.cell E E E E) (.cons .tmp .nil)) [] (Df n (Acu m dom l2) d) (fun _ h=>h) E E ⟨Y,⟨.inl E,E,.inl E,E,.inl E,E,.inl E,E,Y⟩,E,E⟩
theorem Afa (n:Net) (hn:n.Fin) (m:MacM) (d:Bool) (J D:Int) (hm0:MacOK n m J D) (hJ:J < 1000000000000) (hD:D ≤ 1000000000000) (port:Int) (b:List UInt8) (hb:b.length < 100000) :
  Sy.Spec Tryz.prog 51 [.ptr 0 0,Aa port,.sl 1 Aj b] (Df n m d) (.tup []) (Df n (injectT n m port b) d):=Ab Γ hm 100 F51 Tryz.ntmps51 rfl fun F hF=>by
 have hres:=injectT.eq_1 n m port b
 generalize injectT n m port b = res at *
 have hpl:=placeB_iff (d:=port) (k:=n.ports.length)
 have hinj:=hm0.inj
 have hok:MacOK n ⟨m.up,m.tables,m.queues,m.now,m.injected + 1,m.drops⟩ (J + 1) D:=⟨hm0.up,hm0.tabs,hm0.ques,hm0.tab,hm0.que,hm0.now,⟨by dsimp only; omega,by dsimp only; omega⟩,hm0.drp⟩
 have hdr:Hb ⟨m.up,m.tables,m.queues,m.now,m.injected + 1,m.drops⟩:=fun i=>⟨(hm0.drp i).1,by have:=(hm0.drp i).2; dsimp only at *; omega⟩
 have he:=Sk n port b
 have hdom:=Sl (n:=n) (port:=port) (b:=b)
 have q1:=Aei n hn port b hb
 have hfr:=Qc n port b
 generalize enterT n port b = r at *
 have q2:=fun (hp:0 ≤ port ∧ port.toNat < n.ports.length)=>S1 n ⟨m.up,m.tables,m.queues,m.now,m.injected + 1,m.drops⟩ d r.1 ⟨port,0,m.injected + 1,r.2.1⟩ r.2.2 ⟨he.1,by have:=he.2; omega⟩ (fun h=>by
  have:=hdom h
  exact ⟨this.1,by show r.1.toNat < m.queues.length; rw [hm0.ques]; exact this.2⟩) hdr (Cv hok _) (Dd hfr _ ⟨by omega,by have:=hn.ports; unfold Aq at this; omega⟩ (by decide))
 conv=>whnf
 refine ⟨fun h=>?_,fun h=>?_⟩
 ·have h:=of_decide_eq_true h
  rw [if_pos (.inl (by cases hx:Al port n.ports.length; rfl; exact absurd (hpl.1 hx) (by omega)))] at hres
  subst hres
  (refine rg ?_;(conv=>whnf);refine aT ?_;refine rg ?_;(conv=>whnf);refine aT ?_;refine rg ?_;conv=>whnf)
  (skip)
  exact done E .nil [] (Df n res d) (fun _ h=>h) E E ⟨Y,⟨.inl E,E,.inl E,E,.inl E,E,.inl E,E,Y⟩,E,E⟩
 have h0:=of_decide_eq_false h
 clear h
 refine rg ?_;conv=>whnf
 refine ⟨fun h=>?_,fun h=>?_⟩
 ·have h:=of_decide_eq_true h
  rw [if_pos (.inl (by cases hx:Al port n.ports.length; rfl; exact absurd (hpl.1 hx) (by omega)))] at hres
  subst hres
  (refine rg ?_;(conv=>whnf);refine aT ?_;refine rg ?_;conv=>whnf)
  (skip)
  exact done E .nil [] (Df n res d) (fun _ h=>h) E E ⟨Y,⟨.inl E,E,.inl E,E,.inl E,E,.inl E,E,Y⟩,E,E⟩
 have h1:=of_decide_eq_false h
 clear h
 have hp:0 ≤ port ∧ port.toNat < n.ports.length:=by omega
 rw [hpl.2 hp,Ao hp.2] at hres
 obtain ⟨p,hpp⟩:∃ p,n.ports[port.toNat]'hp.2 = p:=⟨_,rfl⟩
 rw [hpp] at hres
 refine rg ?_;conv=>whnf
 refine ⟨E,hp.1,hp.2,?_⟩
 rw [hpp]
 conv=>whnf
 refine ⟨fun h=>?_,fun h=>?_⟩
 ·have h:=of_decide_eq_true h
  rw [if_pos (.inr h)] at hres
  subst hres
  refine rg ?_;conv=>whnf
  exact done E .nil [] (Df n res d) (fun _ h=>h) E E ⟨Y,⟨.inl E,E,.inl E,E,.inl E,E,.inl E,E,Y⟩,E,E⟩
 have h2:=of_decide_eq_false h
 clear h
 rw [if_neg (by simp; omega)] at hres
 subst hres
 refine rg ?_;conv=>whnf
 refine ⟨by unfold I64; omega,?_⟩
 conv=>whnf
 refine Ag q1 F100 E E E E E ?_
 refine rg ?_;conv=>whnf
 refine Bj (Ak [] E F101 (q2 hp) E ⟨E,E,E,E,Y⟩ E ⟨.inl E,.inl E,.inl E,.inl E,Y⟩) (by kernel_rfl) E ?_
 refine rd (by kernel_rfl) ?_;conv=>whnf
 refine ⟨(by kernel_rfl),?_⟩
 conv=>whnf
 refine Bx E .nil [] (Df n (comeM _ _ _ _) d) (fun _ h=>h) E E ⟨Y,⟨.inl E,E,.inl E,E,.inl E,E,.inl E,E,Y⟩,E,E⟩
theorem Wy (n:Net) (hn:n.Fin) (m:MacM) (d:Bool) (J D:Int) (hm0:MacOK n m J D) (hD:D ≤ 1000000000000) (o:OutM) (ho:OutOK n o) (origin:Int) :
  Sy.Spec Tryz.prog 105 [.ptr 0 0,Bh o,Aa origin] (Df n m d) (.sl 3 A8 (goesM n m o origin).2) (Df n (goesM n m o origin).1 d):=Ab Γ hm 100 F105 Tryz.ntmps105 rfl fun F hF=>by
 have hres:=goesM.eq_1 n m o origin
 generalize goesM n m o origin = res at *
 have hdr:Hb m:=fun i=>⟨(hm0.drp i).1,by have:=(hm0.drp i).2; omega⟩
 have hbl:o.bytes.length < 100000:=by have:=ho.bytes; omega
 have hin:∀ {x:Int},DomIn n x → 0 ≤ x ∧ x.toNat < m.queues.length:=fun h=>by rw [hm0.ques]; exact h
 conv=>whnf
 refine ⟨fun h=>?_,fun h=>?_⟩
 ·have h1:o.kind = 1:=by simpa using h
  rw [if_pos h1] at hres
  subst hres
  refine rg ?_;conv=>whnf
  refine D9 34 A8 [⟨o.port,origin,o.bytes⟩] E E ?_
  refine As 34 E ?_
  exact done E (.cons .tmp .nil) [] (Df n m d) (fun _ h=>h) E E ⟨Y,⟨.inl E,E,.inl E,E,.inl E,E,.inl E,E,Y⟩,E,E⟩
 have h1:¬ o.kind = 1:=by simpa using h
 rw [if_neg h1] at hres
 clear h
 refine rg ?_;conv=>whnf
 refine ⟨fun h=>?_,fun h=>?_⟩
 ·have h2:o.kind = 2:=by simpa using h
  rw [if_pos h2] at hres
  have q1:=Ago n hn o.port o.bytes hbl
  have he:=Zw n o.port o.bytes
  have hd:=fun h=>hin (Zx (n:=n) (port:=o.port) (b:=o.bytes) h)
  have hf:=Xn n o.port o.bytes
  have ht:=Xm hn o.port o.bytes
  generalize linkT n o.port o.bytes = r at *
  have q2:=S1 n m d r.2.1 ⟨r.1,0,origin,r.2.2.1⟩ r.2.2.2 he hd hdr (Cv hm0 _) (Dd hf _ (by omega) (by decide))
  subst hres
  refine rg ?_;conv=>whnf
  refine At q1 F182 E E E (by kernel_rfl) E ?_
  refine rd (by kernel_rfl) ?_;conv=>whnf
  refine ⟨(by kernel_rfl),?_⟩
  conv=>whnf
  refine ⟨(by kernel_rfl),?_⟩
  conv=>whnf
  refine Ai (Ak [] E F101 q2 E ⟨E,E,E,E,Y⟩ E ⟨.inl E,.inl E,.inl E,.inl E,Y⟩) E E ?_
  refine rg ?_;conv=>whnf
  refine Am 6 3 A8 E ?_
  exact done E (.cons .tmp .nil) [] (Df n (comeM _ _ _ _) d) (fun _ h=>h) E E ⟨Y,⟨.inl E,E,.inl E,E,.inl E,E,.inl E,E,Y⟩,E,E⟩
 have h2:¬ o.kind = 2:=by simpa using h
 rw [if_neg h2] at hres
 clear h
 refine rg ?_;conv=>whnf
 refine ⟨fun h=>?_,fun h=>?_⟩
 ·have h2:o.kind = 3:=by simpa using h
  rw [if_pos h2] at hres
  have q1:=Agp n hn o.bytes hbl
  have he:=Aah n o.bytes
  have hd:=fun h=>hin (U6 (n:=n) (b:=o.bytes) h).2
  have hf:=Yj n o.bytes
  have ht:=Ss hn o.bytes
  generalize comeT n o.bytes = r at *
  have q2:=S1 n m d r.2.1 ⟨-1,r.1,origin,r.2.2.1⟩ r.2.2.2 he hd hdr (Cv hm0 _) (Dd hf _ (by decide) ht)
  subst hres
  refine rg ?_;conv=>whnf
  refine At q1 F183 E E E (by kernel_rfl) E ?_
  refine rd (by kernel_rfl) ?_;conv=>whnf
  refine ⟨(by kernel_rfl),?_⟩
  conv=>whnf
  refine ⟨(by kernel_rfl),?_⟩
  conv=>whnf
  refine Ai (Ak [] E F101 q2 E ⟨E,E,E,E,Y⟩ E ⟨.inl E,.inl E,.inl E,.inl E,Y⟩) E E ?_
  refine rg ?_;conv=>whnf
  refine Am 6 3 A8 E ?_
  exact done E (.cons .tmp .nil) [] (Df n (comeM _ _ _ _) d) (fun _ h=>h) E E ⟨Y,⟨.inl E,E,.inl E,E,.inl E,E,.inl E,E,Y⟩,E,E⟩
 have h3:¬ o.kind = 3:=by simpa using h
 rw [if_neg h3] at hres
 clear h
 refine rg ?_;conv=>whnf
 refine ⟨fun h=>?_,fun h=>?_⟩
 ·have h4:o.kind = 4:=by simpa using h
  rw [if_pos h4] at hres
  have hf:=ho.frame h4
  have q2:=S1 n m d o.domain ⟨-2,0,origin,o.frame⟩ 0 (by decide) (fun _=>hin hf.2) hdr (Cv hm0 _) (Dd hf.1 _ (by decide) (by decide))
  subst hres
  refine rg ?_;conv=>whnf
  refine Ai (Ak [] E F101 q2 E ⟨E,E,E,E,Y⟩ E ⟨.inl E,.inl E,.inl E,.inl E,Y⟩) E E ?_
  refine rg ?_;conv=>whnf
  refine Am 6 3 A8 E ?_
  exact done E (.cons .tmp .nil) [] (Df n (comeM _ _ _ _) d) (fun _ h=>h) E E ⟨Y,⟨.inl E,E,.inl E,E,.inl E,E,.inl E,E,Y⟩,E,E⟩
 have h4:¬ o.kind = 4:=by simpa using h
 rw [if_neg h4] at hres
 have h5:o.kind = 5:=by have:=ho.kind; omega
 have he:=ho.err h5
 have q2:=Aem n m d o.error he.1 he.2 (hdr _)
 subst hres
 clear h
 refine rg ?_;conv=>whnf
 refine Ai (Ak [] E F104 q2 E ⟨E,E,E,E,Y⟩ E ⟨.inl E,.inl E,.inl E,.inl E,Y⟩) E E ?_
 refine rg ?_;conv=>whnf
 refine Am 6 3 A8 E ?_
 exact done E (.cons .tmp .nil) [] (Df n (Be m o.error) d) (fun _ h=>h) E E ⟨Y,⟨.inl E,E,.inl E,E,.inl E,E,.inl E,E,Y⟩,E,E⟩
def Adk (up:List Bool) (dn lk:Int) (fw:List Bool):List SV:=[.sl 1 Ad up,.val (.int .u32 dn),.val (.int .i32 lk),.val (.int .u32 0),.sl 1 Ad fw]
def Qj (n:Net) (up:List Bool) (dn lk:Int) (fw:List Bool):Obs:=[(1,.box (Adk up dn lk fw)),(2,.box [.ptr 1 0]),(3,.box (Aka n))]
theorem Aj8 (n:Net) (hn:n.Fin) (up fw:List Bool) (dn lk:Int) :
  Sy.Spec Tryz.prog 180 [.ptr 3 0,.ptr 2 0] (Qj n up dn lk fw) (.tup []) (Qj n up dn lk (Hq n up)):=Ab Γ hm 100 F180 Tryz.ntmps180 rfl fun F hF=>by
 have hf:∃ e,Sy.Spec Tryz.prog 44 [Ap n,.sl 1 Ad up] [] (.tup [.sl 1 Ad (Hq n up),Aa e]) []:=by
  unfold Hq
  split
  ·rename_i h; exact ⟨0,Aaa n up hn h⟩
  ·rename_i h; exact ⟨2,X8 n up hn (by simpa using h)⟩
 obtain ⟨e,hf⟩:=hf
 generalize Hq n up = r at *
 conv=>whnf
 refine At hf F44 E E E (by kernel_rfl) E ?_
 refine rd (by kernel_rfl) ?_;conv=>whnf
 refine ⟨(by kernel_rfl),?_⟩
 conv=>whnf
 exact Bx E .nil [] (Qj n up dn lk r) (fun _ h=>h) E E ⟨Y,⟨.inl E,E,.inl E,E,.inl E,E,Y⟩,E,E⟩
theorem Amy (a:Addr) (x:Int) (w:World) (hc:w.cell? a = some (.int .u32 x)):(callFunc 312 #[.pointer (some a)]).run Tryz.prog w = .ok (.value (.int .u32 x)) w :=
 run_call_load Tryz.func312 (by kernel_rfl) (by kernel_rfl) (by kernel_rfl) .u32 (by kernel_rfl) hc
theorem Zu (n:Net) (up fw:List Bool) (dn lk:Int):Sy.Spec Tryz.prog 255 [.ptr 1 1] (Qj n up dn lk fw) (Ad (dn != 0)) (Qj n up dn lk fw):=Ab Γ hm 100 F255 Tryz.ntmps255 rfl fun F hF=>by
 conv=>whnf
 refine Ai (Zb Amy E E E E) E E ?_
 refine rg ?_;conv=>whnf
 exact done E (.cons .tmp .nil) [] (Qj n up dn lk fw) (fun _ h=>h) E E ⟨Y,⟨.inl E,E,.inl E,E,.inl E,E,Y⟩,E,E⟩
theorem Tc (w:World):(callFunc 348 #[]).run Tryz.prog w = .ok (.value (.tuple #[])) w:=run_call_mark0 Tryz.func348 (by kernel_rfl) (by kernel_rfl) (by kernel_rfl) .disable (by kernel_rfl) w
theorem Vj (w:World):(callFunc 350 #[]).run Tryz.prog w = .ok (.value (.tuple #[])) w:=run_call_mark0 Tryz.func350 (by kernel_rfl) (by kernel_rfl) (by kernel_rfl) .enable (by kernel_rfl) w
theorem Aa8 (a:Addr) (w:World):(callFunc 351 #[.pointer (some a)]).run Tryz.prog w = .ok (.value (.tuple #[])) w:=run_call_marked Tryz.func351 (by kernel_rfl) (by kernel_rfl) (by kernel_rfl) .acquire (by kernel_rfl) a w
theorem Aa7 (a:Addr) (w:World):(callFunc 353 #[.pointer (some a)]).run Tryz.prog w = .ok (.value (.tuple #[])) w:=run_call_marked Tryz.func353 (by kernel_rfl) (by kernel_rfl) (by kernel_rfl) .releaseMerge (by kernel_rfl) a w
theorem Wt (a:Addr) (x:Value) (u:FrameMode) (w:World) (hc:w.cell? a = some x) (hz:w.frozen? a = false) :
  CallsD Tryz.prog 315 #[.pointer (some a),.bool true] u w fun e u' w'=>u' = u ∧ (e = .returned (.tuple #[]) ∧ w' = w.drew.setCell a (.int .u32 1)):=by
 have hc':w.drew.cell? a = some x:=by go_simp
 have hz':w.drew.frozen? a = false:=by go_simp
 have hst:=run_call_store (P:=Tryz.prog) Tryz.func336 (by kernel_rfl) (by kernel_rfl) (by kernel_rfl) (by kernel_rfl) (k:=.u32) (y:=1) hc' hz'
 go_enter_d Tryz.func315,Tryz.ntmps315
 go_wp2
 go_region_calls
 all_goals (go_end0; exact ⟨rfl,rfl⟩)
theorem V2 (a:Addr) (u:FrameMode) (w:World) (hc:w.cell? a = some (.int .i32 1)) (hz:w.frozen? a = false) :
  CallsD Tryz.prog 314 #[.pointer (some a)] u w fun e u' w'=>u' = u ∧ (e = .returned (.tuple #[]) ∧ w' = w.setCell a (.int .i32 0)):=by
 have hd:=Tc
 have he:=Vj
 have hr:=Aa7
 have hadd:=run_call_add (P:=Tryz.prog) Tryz.func354 (by kernel_rfl) (by kernel_rfl) (by kernel_rfl) .i32 (by kernel_rfl) (y:=-1) (s:=0) hc hz (by simp [go_sem]; rfl)
 have hcv:=run_convert_to_unsafe (P:=Tryz.prog) (src:=440) (dst:=444) Tryz.underlying440 Tryz.underlying444 (by kernel_rfl) hc
 go_enter_d Tryz.func314,Tryz.ntmps314
 go_wp2
 go_end0
 go_wp2
 go_end0
 exact ⟨E,E⟩
theorem Akd (a:Addr) (w:World) (hc:w.cell? a = some (.int .i32 0)) (hz:w.frozen? a = false) :
  Calls Tryz.prog 313 #[.pointer (some a)] w fun e w'=>e = .returned (.tuple #[]) ∧ w' = w.setCell a (.int .i32 1):=by
 have hd:=Tc
 have he:=Vj
 have ha:=Aa8
 have hcas:=run_call_cas_hit (P:=Tryz.prog) Tryz.func349 (by kernel_rfl) (by kernel_rfl) (by kernel_rfl) .i32 (by kernel_rfl) (y:=1) hc hz
 have hc':(w.setCell a (.int .i32 1)).cell? a = some (.int .i32 1):=World.cell?_setCell_same w a _ hc
 have hcv:=run_convert_to_unsafe (P:=Tryz.prog) (src:=440) (dst:=444) Tryz.underlying440 Tryz.underlying444 (by kernel_rfl) hc'
 go_enter Tryz.func313,Tryz.ntmps313
 go_wp2
 first | go_end0 | (simp only [Exit.inBlock,Exit.then]; refine bodyPost_ret (results_none rfl _ _ _) rfl ?_) | refine bodyPost_ret (results_none rfl _ _ _) rfl ?_
 go_wp2
 go_end0
 exact ⟨E,E⟩
end Go.Sy.YtmelpejjondedaaGreat
namespace Go.Sy.YtmelpejjondedaaGreat
open Go.Proofs
set_option maxRecDepth 100000
set_option maxHeartbeats 4000000
theorem Ctx.behind {K:Nat → Prop} {κ κ2:Ka} {w w1 w2:World} (s:Step K κ w κ w1) (c:Ctx ⟨w1,κ⟩ κ2 w2):Ctx ⟨w,κ⟩ κ2 w2 where
 size:=Nat.le_trans s.size c.size
 os:=c.os.trans s.os
 tape:=c.tape.trans s.tape
 output:=c.output.trans s.output
 M:=c.M
 old:=fun b hb h=>by
  refine (c.old b (Nat.lt_of_lt_of_le hb s.size) h).trans ?_
  by_cases hm:κ.M b
  ·exact s.mkeep b hm
  ·exact s.blk b hb (fun ho=>by
    rcases ho with ⟨k,hk⟩ | ho
    ·exact h k hk
    ·exact hm ho)
 own:=fun k b hk=>by
  rcases c.own k b hk with h | h
  ·exact .inl (Nat.le_trans s.size h)
  ·exact .inr h
 nam:=c.nam
theorem Akt {κ:Ka} {w:World} (hi:Inv κ w):Step (fun _=>False) κ w κ w.drew ∧ Inv κ w.drew:=by
 have g:=Grew.drew w
 exact ⟨⟨g.size,g.os,g.tape,g.output,E,fun b _=>rfl,fun b _ _=>rfl,fun _ _ _ _=>rfl,fun _ _=>rfl,fun _ h=>h.elim,fun _ h=>.inl h⟩,⟨hi.inj,hi.bnd,hi.apart,hi.mbnd⟩⟩
theorem Aj7 (n:Net) (hn:n.Fin) (up fw:List Bool) :
  Sy.Spec Tryz.prog 256 [.ptr 1 1,.clo (.func 180) [] [.ptr 3 0,.ptr 2 0]] (Qj n up 0 0 fw) (.tup []) (Qj n up 1 0 (Hq n up)):=by
 intro κ w vs hi hnew hvs hok
 have o1:=hok (1,.box (Adk up 0 0 fw)) (by simp [Qj])
 have o2:=hok (2,.box [.ptr 1 0]) (by simp [Qj])
 have o3:=hok (3,.box (Aka n)) (by simp [Qj])
 obtain ⟨b,e1,c1,c2,st1,inv1,ob1⟩:=Iy (off:=2) (x:=.val (.int .i32 1)) (v:=.int .i32 1) hi o1 rfl (fun _ _=>by simp only [Rd]) rfl
 obtain ⟨b2,_,_,_,e2,_⟩:=id o2
 obtain ⟨b3,_,_,_,e3,_⟩:=id o3
 simp only [RdL,Rd,e1,e2,e3] at hvs
 obtain ⟨v0,r0,rfl,rfl,v1,r1,rfl,⟨fs,cs,rfl,hfs,hcs⟩,rfl⟩:=hvs
 subst hfs
 obtain ⟨p3,q3,rfl,rfl,p2,q2,rfl,rfl,rfl⟩:=hcs
 have hcl:=Aj8 n hn up fw 0 1 κ (w.setCell ⟨b,2,none⟩ (.int .i32 1)) [.pointer (some ⟨b3,0,none⟩),.pointer (some ⟨b2,0,none⟩)] inv1 hnew (by simp only [RdL,Rd,e2,e3]; exact ⟨_,_,rfl,rfl,_,_,rfl,rfl,rfl⟩) (fun p hp=>by
  simp only [Qj,List.mem_cons,List.not_mem_nil,or_false] at hp
  rcases hp with rfl | rfl | rfl
  ·exact ob1
  ·exact ObOK.step st1 (show ¬ (2:Nat) = 1 by decide) _ o2
  ·exact ObOK.step st1 (show ¬ (3:Nat) = 1 by decide) _ o3)
 obtain ⟨u1,hu1,hr1⟩:=c1 1 (.val (.int .u32 0)) rfl
 obtain ⟨u2,hu2,hr2⟩:=c1 2 (.val (.int .i32 0)) rfl
 rw [hr1.val] at hu1
 rw [hr2.val] at hu2
 have f1:=c2 1 (show 1 < 5 by decide)
 have f2:=c2 2 (show 2 < 5 by decide)
 have hl:=Amy ⟨b,1,none⟩ 0 (w.setCell ⟨b,2,none⟩ (.int .i32 1)) ((World.cell?_setCell_other _ ⟨b,2,none⟩ ⟨b,1,none⟩ _ (by simp)).trans hu1)
 have hnot:∀ (x:Bool) (w:World),(Op.unary .not (.bool x)).run Tryz.prog w = .ok (.bool (!x)) w:=fun _ _=>rfl
 go_enter_defers Tryz.func256,Tryz.ntmps256
 go_wp2_with (first | (go_at_call 313; refine (Akd ⟨b,2,none⟩ _ (by assumption) (by assumption)).mono ?_; rintro e w' ⟨rfl,rfl⟩) | (go_at_call 180; refine hcl.mono ?_; rintro e w' ⟨v,κ2,rfl,hc2,hi2,hv2,ok2⟩) | (go_at_call 255; go_in))
 have p1:=ok2 (1,.box (Adk up 0 1 (Hq n up))) (by simp [Qj])
 have k1:κ2 1 = .blk b:=by
  obtain ⟨bb,_,_,_,q1,_⟩:=id p1
  rcases hc2.nam 1 (by rw [e1]; intro h; cases h) with h | h
  ·rw [h]; exact e1
  ·rw [h] at q1; cases q1
 obtain ⟨ba,a1,a2,a3,_,_,_⟩:=Iy (off:=1) (x:=.val (.int .u32 1)) (v:=.int .u32 1) hi2 p1 rfl (fun _ _=>by simp only [Rd]) rfl
 rw [k1] at a1
 cases a1
 obtain ⟨std,invd⟩:=Akt hi2
 have p2:=ObOK.step std (k:=1) (fun h=>h) _ p1
 obtain ⟨ba,a1,_,_,st3,inv3,ob3⟩:=Iy (off:=1) (x:=.val (.int .u32 1)) (v:=.int .u32 1) invd p2 rfl (fun _ _=>by simp only [Rd]) rfl
 rw [k1] at a1
 cases a1
 have ob3:ObOK κ2 (w'.drew.setCell ⟨b,1,none⟩ (.int .u32 1)) 1 (.box (Adk up 1 1 (Hq n up))):=ob3
 obtain ⟨ba,a1,a4,a5,st4,inv4,ob4⟩:=Iy (off:=2) (x:=.val (.int .i32 0)) (v:=.int .i32 0) inv3 ob3 rfl (fun _ _=>by simp only [Rd]) rfl
 rw [k1] at a1
 cases a1
 have ob4:ObOK κ2 ((w'.drew.setCell ⟨b,1,none⟩ (.int .u32 1)).setCell ⟨b,2,none⟩ (.int .i32 0)) 1 (.box (Adk up 1 0 (Hq n up))):=ob4
 obtain ⟨v1,hv1,hr1⟩:=a2 1 (.val (.int .u32 0)) rfl
 rw [hr1.val] at hv1
 obtain ⟨v2,hv2,hr2⟩:=a4 2 (.val (.int .i32 1)) rfl
 rw [hr2.val] at hv2
 refine leaves_cons (f:=315) (args:=#[.pointer (some ⟨b,1,none⟩),.bool true]) (by simp) (by simp [go_sem]) ?_
 refine (Wt ⟨b,1,none⟩ (.int .u32 0) .returning _ hv1 (a3 1 (show 1 < 5 by decide))).mono ?_
 rintro e u' w'' ⟨rfl,rfl,rfl⟩
 refine leaves_cons (f:=314) (args:=#[.pointer (some ⟨b,2,none⟩)]) (by simp [settle]) (by simp [go_sem]) ?_
 refine (V2 ⟨b,2,none⟩ _ _ hv2 (a5 2 (show 2 < 5 by decide))).mono ?_
 rintro e u' w'' ⟨rfl,rfl,rfl⟩
 have hst:Step (· = 1) κ2 w' κ2 ((w'.drew.setCell ⟨b,1,none⟩ (.int .u32 1)).setCell ⟨b,2,none⟩ (.int .i32 0)):=(std.weaken (fun _ h=>h.elim)).trans (st3.trans st4)
 refine ⟨.tuple #[],by simp [results,Tryz.results256],.tuple #[],κ2,E,Ctx.behind st1 (hc2.step inv4 hst),inv4,⟨[],E,E⟩,fun p hp=>?_⟩
 simp only [Qj,List.mem_cons,List.not_mem_nil,or_false] at hp
 rcases hp with rfl | rfl | rfl
 ·exact ob4
 ·exact ObOK.step hst (show ¬ (2:Nat) = 1 by decide) _ (ok2 (2,.box [.ptr 1 0]) (by simp [Qj]))
 ·exact ObOK.step hst (show ¬ (3:Nat) = 1 by decide) _ (ok2 (3,.box (Aka n)) (by simp [Qj]))
end Go.Sy.YtmelpejjondedaaGreat
namespace Go.Sy.YtmelpejjondedaaGreat
open Go.Proofs
attribute [local irreducible] Go.Sy.G Go.Sy.DR
set_option maxRecDepth 100000
set_option maxHeartbeats 4000000
def T9 (n:Net) (up:List Bool) (d:Bool):Obs:=[(1,.box (M3 n up d)),(2,.box [.ptr 1 0]),(3,.box (Aka n))]
theorem Ao7 (n:Net) (hn:n.Fin) (up:List Bool) :
  Sy.Spec Tryz.prog 179 [.ptr 1 1,.clo (.func 180) [] [.ptr 3 0,.ptr 2 0]] (T9 n up false) (.tup []) (T9 n up true):=Ab Γ hm 100 F179 Tryz.ntmps179 rfl fun F hF=>by
 have q1:Sy.Spec Tryz.prog 255 [.ptr 1 1] (T9 n up false) (Ad false) (T9 n up false):=Zu n up [] 0 0
 have q2:Sy.Spec Tryz.prog 256 [.ptr 1 1,.clo (.func 180) [] [.ptr 3 0,.ptr 2 0]] (T9 n up false) (.tup []) (T9 n up true):=Aj7 n hn up []
 conv=>whnf
 refine Ai (Ak [] E F255 q1 E ⟨E,E,E,Y⟩ E ⟨.inl E,.inl E,.inl E,Y⟩) E E ?_
 (refine rg ?_;(conv=>whnf);refine aT ?_;refine rg ?_;conv=>whnf)
 refine Ai (Ak [] E F256 q2 E ⟨E,E,E,Y⟩ E ⟨.inl E,.inl E,.inl E,Y⟩) E E ?_
 refine rg ?_;conv=>whnf
 exact Bx E .nil [] (T9 n up true) (fun _ h=>h) E E ⟨Y,⟨.inl E,E,.inl E,E,.inl E,E,Y⟩,E,E⟩
theorem Ao6 (n:Net) (up:List Bool) :
  Sy.Spec Tryz.prog 179 [.ptr 1 1,.clo (.func 180) [] [.ptr 3 0,.ptr 2 0]] (T9 n up true) (.tup []) (T9 n up true):=Ab Γ hm 100 F179 Tryz.ntmps179 rfl fun F hF=>by
 have q1:Sy.Spec Tryz.prog 255 [.ptr 1 1] (T9 n up true) (Ad true) (T9 n up true):=Zu n up (Hq n up) 1 0
 conv=>whnf
 refine Ai (Ak [] E F255 q1 E ⟨E,E,E,Y⟩ E ⟨.inl E,.inl E,.inl E,Y⟩) E E ?_
 (refine rg ?_;(conv=>whnf);refine aF ?_;refine rg ?_;conv=>whnf)
 exact Bx E .nil [] (T9 n up true) (fun _ h=>h) E E ⟨Y,⟨.inl E,E,.inl E,E,.inl E,E,Y⟩,E,E⟩
theorem Ao5 (n:Net) (hn:n.Fin) (up:List Bool) (d:Bool) :
  Sy.Spec Tryz.prog 179 [.ptr 1 1,.clo (.func 180) [] [.ptr 3 0,.ptr 2 0]] (T9 n up d) (.tup []) (T9 n up true):=by
 cases d
 ·exact Ao7 n hn up
 ·exact Ao6 n up
theorem Ai8 (n:Net) (hn:n.Fin) (up:List Bool) (d:Bool) :
  Sy.Spec Tryz.prog 103 [.ptr 1 0,Ap n] [(1,.box (M3 n up d))] (.sl 1 Ad (Hq n up)) [(1,.box (M3 n up true))]:=Ab Γ hm 100 F103 Tryz.ntmps103 rfl fun F hF=>by
 conv=>whnf
 refine Ai (Ak [] E F179 (Ao5 n hn up d) E ⟨E,E,E,Y⟩ E ⟨.inl E,.inl E,.inl E,Y⟩) E E ?_
 refine rg ?_;conv=>whnf
 exact done E (.cons .tmp .nil) [] [(1,.box (M3 n up true))] (fun _ h=>h) E E ⟨Y,⟨.inl E,E,Y⟩,E,E⟩
end Go.Sy.YtmelpejjondedaaGreat
namespace Go.Sy.YtmelpejjondedaaGreat
open Go.Proofs
theorem On {n:Net} {fw:List Bool} {t:List EntryM} {dom:Int} {q:QueuedM} {now:Int} (ht:TabOK t) (hq:QueuedOK q):TabOK (bridgeT n fw t dom q now).1:=by
 unfold bridgeT
 split
 ·exact Uu
 split
 ·split
  ·exact La ht hq now
  ·exact La ht hq now
 ·exact La ht hq now
theorem Oo {n:Net} (hn:n.Fin) (hm0:n.Num) {fw:List Bool} {t:List EntryM} {dom:Int} {q:QueuedM} {now:Int} (hq:QueuedOK q):∀ o ∈ (bridgeT n fw t dom q now).2.1,OutOK n o:=by
 intro o ho
 unfold bridgeT at ho
 split at ho
 ·cases ho
 rename_i h0
 have hb:Ah n = true:=by
  cases hx:Ah n
  ·exact absurd (.inl (by unfold roomB; rw [hx]; simp)) h0
  ·rfl
 split at ho
 ·split at ho
  ·cases ho
  ·rename_i h1
   have h1:=Decidable.not_not.1 h1
   have hin:∀ (d:Int),(lookT n (routerT n dom q.frame.dst).1 d).2 = true → 0 ≤ (lookT n (routerT n dom q.frame.dst).1 d).1 ∧ (lookT n (routerT n dom q.frame.dst).1 d).1.toNat < n.irbs.length:=fun d h=>Adt h
   rw [List.mem_singleton.1 ho]
   exact ⟨by dsimp only; omega,by simp,fun _=>⟨Ape n hm0 _ _ hin,Am8 hin h1⟩,fun h=>by dsimp only at h; omega⟩
 ·rcases List.mem_append.1 ho with h | h
  ·obtain ⟨p,_,rfl⟩:=List.mem_map.1 h
   unfold Er
   exact Ads (by dsimp only; split <;> omega) (Y0 _ _ _ _ hq.frame) (Agm _ _ _ _)
  ·obtain ⟨p,_,rfl⟩:=List.mem_map.1 h
   unfold Ho
   exact Ads (by dsimp only; omega) (by have:=Abg n dom p q.frame; omega) (Akc _ _ _ _)
theorem Ko {n:Net} (hn:n.Fin) (fw:List Bool) (t:List EntryM) (dom:Int) (q:QueuedM) (now:Int):(bridgeT n fw t dom q now).2.1.length < 4294967296:=by
 unfold bridgeT
 split
 ·show (0:Nat) < 4294967296; decide
 split
 ·split
  ·show (0:Nat) < 4294967296; decide
  ·show (1:Nat) < 4294967296; decide
 ·have:=Sp hn fw (learnQ t q now) dom q.from_ q.frame.dst
  simp only [List.length_append,List.length_map]
  omega
theorem Tw (n:Net) (origin:Int):∀ (a b:List OutM) (m:MacM),Bb n m origin (a ++ b) = ((Bb n (Bb n m origin a).1 origin b).1,(Bb n m origin a).2 ++ (Bb n (Bb n m origin a).1 origin b).2)
 | [],b,m=>by simp [Bb]
 | o :: a,b,m=>by
  rw [List.cons_append,Bb,Bb,Tw n origin a b]
  simp
theorem Ib (n:Net) (m:MacM) (origin:Int) (l:List OutM) (j:Nat) (hj:j < l.length) :
  Bb n m origin (l.take (j + 1)) = ((goesM n (Bb n m origin (l.take j)).1 l[j] origin).1,(Bb n m origin (l.take j)).2 ++ (goesM n (Bb n m origin (l.take j)).1 l[j] origin).2):=by
 rw [List.take_succ_eq_append_getElem hj,Tw]
 simp [Bb]
theorem Ia (n:Net) (m:MacM) (o:OutM) (origin:Int):(goesM n m o origin).2.length ≤ 1:=by
 unfold goesM
 split
 ·simp
 split
 ·simp
 split
 ·simp
 split <;> simp
theorem Hl (n:Net) (origin:Int):∀ (l:List OutM) (m:MacM),(Bb n m origin l).2.length ≤ l.length
 | [],m=>by simp [Bb]
 | o :: l,m=>by
  rw [Bb]
  have h1:=Hl n origin l (goesM n m o origin).1
  have h2:=Ia n m o origin
  simp only [List.length_append,List.length_cons]
  omega
end Go.Sy.YtmelpejjondedaaGreat
namespace Go.Sy.YtmelpejjondedaaGreat
open Go.Proofs
attribute [local irreducible] Go.Sy.G Go.Sy.DR
set_option maxRecDepth 100000
set_option maxHeartbeats 4000000
theorem Xj {n:Net} {m:MacM} {J D:Int} (h:MacOK n m J D) (hD:0 ≤ D) (dom:Int) {r:List EntryM × List OutM × Int} (hr:TabOK r.1):MacOK n (I5 m dom r) J (D + 1):=by
 unfold I5
 split
 ·exact Ok h hD 2
 split
 ·exact Ok (Ah0 h dom hr) hD _
 ·exact (Ah0 h dom hr).mono (Int.le_refl _) (by omega)
def queL (q:QueuedM):List SV:=[Aa q.from_,Aa q.peer,Aa q.origin,Az q.frame.dst,Az q.frame.src,Aa q.frame.typ,.sl 1 Aj q.frame.body]
def Amg (n:Net) (m:MacM) (q:QueuedM) (l:List SeenM):Obs:=[(0,.box (Wx n 1 m.now m.injected m.drops)),(1,.box (M3 n m.up true)),(2,.row 1 J9 m.tables),(3,.row 1 Md m.queues),(7,.box (queL q)),(1000,.row 3 A8 l)]
theorem Alx (n:Net) (hn:n.Fin) (hm1:n.Num) (m:MacM) (d:Bool) (J D:Int) (hm0:MacOK n m J D) (hD0:0 ≤ D) (hD:D ≤ 900000000000) (dom at_:Int) :
  Sy.Spec Tryz.prog 52 [.ptr 0 0,Aa dom,Aa at_] (Df n m d) (.sl 3 A8 (pickT n m dom at_).2) (Df n (pickT n m dom at_).1 (if (takeM m dom at_).2.2 then true else d)):=Ab Γ hm 100 F52 Tryz.ntmps52 rfl fun F hF=>by
 have hres:=pickT.eq_1 n m dom at_
 generalize pickT n m dom at_ = res at *
 have q1:=Acq n m d dom at_ (Cv hm0 dom)
 have hok:=Sz hm0 dom at_
 have hpl:(takeM m dom at_).2.2 = true → 0 ≤ dom ∧ dom.toNat < m.queues.length:=fun h=>by
  unfold takeM at h
  split at h
  ·cases h
  ·rename_i h2
   exact placeB_iff.1 (by cases hx:Al dom m.queues.length; exact absurd hx h2; rfl)
 have htl:(takeM m dom at_).1.tables = m.tables:=by unfold takeM; split <;> rfl
 generalize takeM m dom at_ = r at *
 obtain ⟨m1,q,ok⟩:=r
 have htq:m.queues.length = m.tables.length:=by rw [hm0.ques,hm0.tabs]
 conv=>whnf
 refine Ai (Ak [] E F53 q1 E ⟨E,E,E,E,Y⟩ E ⟨.inl E,.inl E,.inl E,.inl E,Y⟩) E E ?_
 refine rg ?_;conv=>whnf
 cases ok
 ·rw [if_pos rfl] at hres
  subst hres
  (refine ⟨fun _=>?_,fun h=>False.elim (by simp at h)⟩;refine rg ?_;conv=>whnf)
  refine Am 6 3 A8 E ?_
  exact done E (.cons .tmp .nil) [] (Df n m1 d) (fun _ h=>h) E E ⟨Y,⟨.inl E,E,.inl E,E,.inl E,E,.inl E,E,Y⟩,E,E⟩
 rw [if_neg (by simp)] at hres
 have hd:=hpl rfl
 have hd2:0 ≤ dom ∧ dom.toNat < m1.tables.length:=by rw [htl,← htq]; exact hd
 dsimp only at hres hok
 have q2:=Ai8 n hn m1.up d
 have q3:=Aeu n hn hm1 (Hq n m1.up) (tableL m1 dom) dom q m1.now (K0 hok.1 dom) hok.2
 have hb1:=On (n:=n) (fw:=Hq n m1.up) (dom:=dom) (now:=m1.now) (K0 hok.1 dom) hok.2
 have hb2:=Oo (fw:=Hq n m1.up) (t:=tableL m1 dom) (dom:=dom) (now:=m1.now) hn hm1 hok.2
 have hb3:=Ko hn (Hq n m1.up) (tableL m1 dom) dom q m1.now
 have hb4:=Vx n (Hq n m1.up) (tableL m1 dom) dom q m1.now
 rw [Te] at hres
 have hz:=Xj hok.1 hD0 dom hb1
 generalize bridgeT n (Hq n m1.up) (tableL m1 dom) dom q m1.now = b at *
 obtain ⟨t,out,e⟩:=b
 have hb2:∀ o ∈ out,OutOK n o:=hb2
 have hb3:out.length < 4294967296:=hb3
 have hb4:Bu e:=hb4
 have ht0:=tableL.eq_1 m1 dom
 rw [O9 hd2.2] at ht0
 generalize tableL m1 dom = t0 at *
 subst ht0
 (refine ⟨fun h=>False.elim (by simp at h),fun _=>?_⟩;refine rg ?_;conv=>whnf)
 refine Bj (Ak [] E F103 q2 E ⟨E,Y⟩ E ⟨.inl E,Y⟩) (by kernel_rfl) E ?_
 refine rd (by kernel_rfl) ?_;conv=>whnf
 refine ⟨hd2.1,hd2.2,?_⟩
 conv=>whnf
 refine ⟨E,hd2.2,?_⟩
 conv=>whnf
 refine At q3 F102 E E E (by kernel_rfl) E ?_
 refine rd (by kernel_rfl) ?_;conv=>whnf
 refine ⟨(by kernel_rfl),?_⟩
 conv=>whnf
 refine ⟨fun h=>?_,fun h=>?_⟩
 ·have h2:¬ e = 2:=by simpa using h
  clear h
  refine rg ?_;conv=>whnf
  refine ⟨hd2.1,hd2.2,?_⟩
  conv=>whnf
  refine ⟨E,hd2.2,t,E,E,?_⟩
  conv=>whnf
  refine ⟨fun h=>?_,fun h=>?_⟩
  ·have h3:¬ e = 0:=by simpa using h
   clear h
   have hpd:I5 m1 dom (t,out,e) = Be (Bv m1 dom t) e:=by
    unfold I5
    rw [if_neg h2,if_pos h3]
   rw [hpd] at hres hz
   subst hres
   have q4:=Aem n (Bv m1 dom t) true e hb4.1 hb4.2 ⟨(hok.1.drp _).1,by have:=(hok.1.drp e.toNat).2; show m1.drops e.toNat ≤ 1000000000000; omega⟩
   refine rg ?_;conv=>whnf
   refine Ai (Ak [] E F104 q4 E ⟨E,E,E,E,Y⟩ E ⟨.inl E,.inl E,.inl E,.inl E,Y⟩) E E ?_
   refine rg ?_;conv=>whnf
   have hdr:Hb (Be (Bv m1 dom t) e):=fun i=>⟨(hz.drp i).1,by have:=(hz.drp i).2; omega⟩
   refine Bs 12 1000 3 A8 E E ?_
   refine Av out.length (fun j=>[(0,.ptr 0 0),(7,.ptr 7 0),(12,.osl 1000),(69,.sl 9 Bh out),(70,Aa out.length),(71,Aa j)]) (fun j=>Amg n (Bb n (Be (Bv m1 dom t) e) q.origin (out.take j)).1 q (Bb n (Be (Bv m1 dom t) e) q.origin (out.take j)).2) [] ⟨⟨E,E,E,E,E,E,E,E,E,E,E,E,Y⟩,⟨.inl E,E,.inl E,E,.inl E,E,.inl E,E,.inl E,E,.inl E,E,Y⟩,E,E⟩ ?_
   intro j hj
   refine rg ?_;conv=>whnf
   refine ⟨fun h=>?_,fun h=>?_⟩
   ·have hlt:j < out.length:=by have:=of_decide_eq_true h; omega
    have hj0:((j:Nat):Int).toNat < out.length:=by simpa using hlt
    obtain ⟨o,hoo⟩:∃ o,out[j] = o:=⟨_,rfl⟩
    have e1:out[((j:Nat):Int).toNat]'hj0 = o:=hoo
    have hs:=Ib n (Be (Bv m1 dom t) e) q.origin out j hlt
    rw [hoo] at hs
    have hjo:=Iv hn q.origin (out.take j) hz (by omega) (fun x hx=>hb2 x (List.mem_of_mem_take hx))
    have hlen:(out.take j).length = j:=by rw [List.length_take]; omega
    rw [hlen] at hjo
    have hsl:=Hl n q.origin (out.take j) (Be (Bv m1 dom t) e)
    rw [hlen] at hsl
    have q5:=Wy n hn (Bb n (Be (Bv m1 dom t) e) q.origin (out.take j)).1 true J _ hjo (by omega) o (hb2 o (by rw [← hoo]; exact List.getElem_mem hlt)) q.origin
    have hfw:=Ia n (Bb n (Be (Bv m1 dom t) e) q.origin (out.take j)).1 o q.origin
    clear h
    refine rg ?_;conv=>whnf
    refine ⟨E,by omega,hj0,?_⟩
    rw [e1]
    conv=>whnf
    refine Ai (Ak [] E F105 q5 E ⟨E,E,E,E,Y⟩ E ⟨.inl E,.inl E,.inl E,.inl E,Y⟩) E E ?_
    refine rg ?_;conv=>whnf
    refine Ai (Af Γ.toTy 81 E E E E E (.row E) .sl (by simp) (by omega) (by omega)) E E ?_
    refine rg ?_;conv=>whnf
    refine ⟨by unfold I64; omega,?_⟩
    conv=>whnf
    have g1:(Bb n (Be (Bv m1 dom t) e) q.origin (out.take (j + 1))).1 = (goesM n (Bb n (Be (Bv m1 dom t) e) q.origin (out.take j)).1 o q.origin).1:=by rw [hs]
    have g2:(Bb n (Be (Bv m1 dom t) e) q.origin (out.take (j + 1))).2 = (Bb n (Be (Bv m1 dom t) e) q.origin (out.take j)).2 ++ (goesM n (Bb n (Be (Bv m1 dom t) e) q.origin (out.take j)).1 o q.origin).2:=by rw [hs]
    refine Ar [(1000,81)] hlt ⟨⟨E,E,E,E,E,E,E,E,E,E,E,E,Y⟩,?_,E,E⟩
    dsimp only
    rw [g1,g2]
    exact ⟨.inl E,E,.inl E,E,.inl E,E,.inl E,E,.inl E,E,.inl E,E,Y⟩
   ·have hjj:j = out.length:=by have:=of_decide_eq_false h; omega
    subst hjj
    rw [List.take_length]
    clear h
    refine rg ?_;conv=>whnf
    refine As 1000 E ?_
    exact done E (.cons .tmp .nil) [] (Df n (Bb n (Be (Bv m1 dom t) e) q.origin out).1 true) (fun _ h=>h) E E ⟨Y,⟨.inl E,E,.inl E,E,.inl E,E,.inl E,E,Y⟩,E,E⟩
  ·have h3:e = 0:=by simpa using h
   clear h
   have hpd:I5 m1 dom (t,out,e) = Bv m1 dom t:=by
    unfold I5
    rw [if_neg h2,if_neg (fun h=>h h3)]
   rw [hpd] at hres hz
   subst hres
   refine rg ?_;conv=>whnf
   have hdr:Hb (Bv m1 dom t):=fun i=>⟨(hz.drp i).1,by have:=(hz.drp i).2; omega⟩
   refine Bs 12 1000 3 A8 E E ?_
   refine Av out.length (fun j=>[(0,.ptr 0 0),(7,.ptr 7 0),(12,.osl 1000),(69,.sl 9 Bh out),(70,Aa out.length),(71,Aa j)]) (fun j=>Amg n (Bb n (Bv m1 dom t) q.origin (out.take j)).1 q (Bb n (Bv m1 dom t) q.origin (out.take j)).2) [] ⟨⟨E,E,E,E,E,E,E,E,E,E,E,E,Y⟩,⟨.inl E,E,.inl E,E,.inl E,E,.inl E,E,.inl E,E,.inl E,E,Y⟩,E,E⟩ ?_
   intro j hj
   refine rg ?_;conv=>whnf
   refine ⟨fun h=>?_,fun h=>?_⟩
   ·have hlt:j < out.length:=by have:=of_decide_eq_true h; omega
    have hj0:((j:Nat):Int).toNat < out.length:=by simpa using hlt
    obtain ⟨o,hoo⟩:∃ o,out[j] = o:=⟨_,rfl⟩
    have e1:out[((j:Nat):Int).toNat]'hj0 = o:=hoo
    have hs:=Ib n (Bv m1 dom t) q.origin out j hlt
    rw [hoo] at hs
    have hjo:=Iv hn q.origin (out.take j) hz (by omega) (fun x hx=>hb2 x (List.mem_of_mem_take hx))
    have hlen:(out.take j).length = j:=by rw [List.length_take]; omega
    rw [hlen] at hjo
    have hsl:=Hl n q.origin (out.take j) (Bv m1 dom t)
    rw [hlen] at hsl
    have q5:=Wy n hn (Bb n (Bv m1 dom t) q.origin (out.take j)).1 true J _ hjo (by omega) o (hb2 o (by rw [← hoo]; exact List.getElem_mem hlt)) q.origin
    have hfw:=Ia n (Bb n (Bv m1 dom t) q.origin (out.take j)).1 o q.origin
    clear h
    refine rg ?_;conv=>whnf
    refine ⟨E,by omega,hj0,?_⟩
    rw [e1]
    conv=>whnf
    refine Ai (Ak [] E F105 q5 E ⟨E,E,E,E,Y⟩ E ⟨.inl E,.inl E,.inl E,.inl E,Y⟩) E E ?_
    refine rg ?_;conv=>whnf
    refine Ai (Af Γ.toTy 81 E E E E E (.row E) .sl (by simp) (by omega) (by omega)) E E ?_
    refine rg ?_;conv=>whnf
    refine ⟨by unfold I64; omega,?_⟩
    conv=>whnf
    have g1:(Bb n (Bv m1 dom t) q.origin (out.take (j + 1))).1 = (goesM n (Bb n (Bv m1 dom t) q.origin (out.take j)).1 o q.origin).1:=by rw [hs]
    have g2:(Bb n (Bv m1 dom t) q.origin (out.take (j + 1))).2 = (Bb n (Bv m1 dom t) q.origin (out.take j)).2 ++ (goesM n (Bb n (Bv m1 dom t) q.origin (out.take j)).1 o q.origin).2:=by rw [hs]
    refine Ar [(1000,81)] hlt ⟨⟨E,E,E,E,E,E,E,E,E,E,E,E,Y⟩,?_,E,E⟩
    dsimp only
    rw [g1,g2]
    exact ⟨.inl E,E,.inl E,E,.inl E,E,.inl E,E,.inl E,E,.inl E,E,Y⟩
   ·have hjj:j = out.length:=by have:=of_decide_eq_false h; omega
    subst hjj
    rw [List.take_length]
    clear h
    refine rg ?_;conv=>whnf
    refine As 1000 E ?_
    exact done E (.cons .tmp .nil) [] (Df n (Bb n (Bv m1 dom t) q.origin out).1 true) (fun _ h=>h) E E ⟨Y,⟨.inl E,E,.inl E,E,.inl E,E,.inl E,E,Y⟩,E,E⟩
 ·have h2:e = 2:=by simpa using h
  clear h
  subst h2
  have hpd:I5 m1 dom (t,out,2) = Be m1 2:=by
   unfold I5
   rw [if_pos rfl]
  rw [hpd] at hres hz
  subst hres
  have q4:=Aem n m1 true 2 (by decide) (by decide) ⟨(hok.1.drp _).1,by have:=(hok.1.drp (Int.toNat 2)).2; omega⟩
  (refine rg ?_;(conv=>whnf);refine aT ?_;refine rg ?_;conv=>whnf)
  refine Ai (Ak [] E F104 q4 E ⟨E,E,E,E,Y⟩ E ⟨.inl E,.inl E,.inl E,.inl E,Y⟩) E E ?_
  refine rg ?_;conv=>whnf
  have hdr:Hb (Be m1 2):=fun i=>⟨(hz.drp i).1,by have:=(hz.drp i).2; omega⟩
  refine Bs 12 1000 3 A8 E E ?_
  refine Av out.length (fun j=>[(0,.ptr 0 0),(7,.ptr 7 0),(12,.osl 1000),(69,.sl 9 Bh out),(70,Aa out.length),(71,Aa j)]) (fun j=>Amg n (Bb n (Be m1 2) q.origin (out.take j)).1 q (Bb n (Be m1 2) q.origin (out.take j)).2) [] ⟨⟨E,E,E,E,E,E,E,E,E,E,E,E,Y⟩,⟨.inl E,E,.inl E,E,.inl E,E,.inl E,E,.inl E,E,.inl E,E,Y⟩,E,E⟩ ?_
  intro j hj
  refine rg ?_;conv=>whnf
  refine ⟨fun h=>?_,fun h=>?_⟩
  ·have hlt:j < out.length:=by have:=of_decide_eq_true h; omega
   have hj0:((j:Nat):Int).toNat < out.length:=by simpa using hlt
   obtain ⟨o,hoo⟩:∃ o,out[j] = o:=⟨_,rfl⟩
   have e1:out[((j:Nat):Int).toNat]'hj0 = o:=hoo
   have hs:=Ib n (Be m1 2) q.origin out j hlt
   rw [hoo] at hs
   have hjo:=Iv hn q.origin (out.take j) hz (by omega) (fun x hx=>hb2 x (List.mem_of_mem_take hx))
   have hlen:(out.take j).length = j:=by rw [List.length_take]; omega
   rw [hlen] at hjo
   have hsl:=Hl n q.origin (out.take j) (Be m1 2)
   rw [hlen] at hsl
   have q5:=Wy n hn (Bb n (Be m1 2) q.origin (out.take j)).1 true J _ hjo (by omega) o (hb2 o (by rw [← hoo]; exact List.getElem_mem hlt)) q.origin
   have hfw:=Ia n (Bb n (Be m1 2) q.origin (out.take j)).1 o q.origin
   clear h
   refine rg ?_;conv=>whnf
   refine ⟨E,by omega,hj0,?_⟩
   rw [e1]
   conv=>whnf
   refine Ai (Ak [] E F105 q5 E ⟨E,E,E,E,Y⟩ E ⟨.inl E,.inl E,.inl E,.inl E,Y⟩) E E ?_
   refine rg ?_;conv=>whnf
   refine Ai (Af Γ.toTy 81 E E E E E (.row E) .sl (by simp) (by omega) (by omega)) E E ?_
   refine rg ?_;conv=>whnf
   refine ⟨by unfold I64; omega,?_⟩
   conv=>whnf
   have g1:(Bb n (Be m1 2) q.origin (out.take (j + 1))).1 = (goesM n (Bb n (Be m1 2) q.origin (out.take j)).1 o q.origin).1:=by rw [hs]
   have g2:(Bb n (Be m1 2) q.origin (out.take (j + 1))).2 = (Bb n (Be m1 2) q.origin (out.take j)).2 ++ (goesM n (Bb n (Be m1 2) q.origin (out.take j)).1 o q.origin).2:=by rw [hs]
   refine Ar [(1000,81)] hlt ⟨⟨E,E,E,E,E,E,E,E,E,E,E,E,Y⟩,?_,E,E⟩
   dsimp only
   rw [g1,g2]
   exact ⟨.inl E,E,.inl E,E,.inl E,E,.inl E,E,.inl E,E,.inl E,E,Y⟩
  ·have hjj:j = out.length:=by have:=of_decide_eq_false h; omega
   subst hjj
   rw [List.take_length]
   clear h
   refine rg ?_;conv=>whnf
   refine As 1000 E ?_
   exact done E (.cons .tmp .nil) [] (Df n (Bb n (Be m1 2) q.origin out).1 true) (fun _ h=>h) E E ⟨Y,⟨.inl E,E,.inl E,E,.inl E,E,.inl E,E,Y⟩,E,E⟩
theorem Ui (l:List (List EntryM)) (now:Int) (j:Nat) (hj:j < l.length) :
  ((l.take j).map (fun t=>ageT t now) ++ l.drop j).set j (ageT l[j] now) = (l.take (j + 1)).map (fun t=>ageT t now) ++ l.drop (j + 1):=by
 apply List.ext_getElem
 ·simp only [List.length_set,List.length_append,List.length_map,List.length_take,List.length_drop]; omega
 intro i h1 h2
 simp only [List.length_set,List.length_append,List.length_map,List.length_take,List.length_drop] at h1
 rw [List.getElem_set]
 by_cases hi:j = i
 ·subst hi
  rw [if_pos rfl,List.getElem_append_left (by simp; omega)]
  simp
 ·rw [if_neg hi]
  by_cases hlt:i < j
  ·rw [List.getElem_append_left (by simp; omega),List.getElem_append_left (by simp; omega)]
   simp
  ·rw [List.getElem_append_right (by simp; omega),List.getElem_append_right (by simp; omega)]
   simp only [List.getElem_drop,List.length_map,List.length_take]
   congr 1
   omega
theorem Akm {P:Program} {o:Oper} {s:SS} {x y:Operand} {at_:Array TypeId} {k k':IntKind} {m n r:Int} (hr:(if n < m then n else m) = r) (h:o.op = .call ⟨.builtin .min,#[x,y],at_⟩)
  (hx:ev s x = .val (.int k m)) (hy:ev s y = .val (.int k' n)):Good P o s ⟨.val (.int k r),[],[]⟩:=by
 have:=Anh (P:=P) h hx hy
 rwa [hr] at this
def Ky (l:List (List EntryM)) (now:Int) (j:Nat):List (List EntryM):=(l.take j).map (fun t=>ageT t now) ++ l.drop j
theorem Ym (l:List (List EntryM)) (now:Int) (j:Nat) (hj:j < l.length) (h2:j < (Ky l now j).length):(Ky l now j)[j] = l[j]:=by
 have h:(Ky l now j)[j]? = l[j]?:=by
  unfold Ky
  have hm:min j l.length = j:=by omega
  rw [List.getElem?_append_right (by simp; omega),List.getElem?_drop,List.length_map,List.length_take,hm,Nat.sub_self,Nat.add_zero]
 rw [List.getElem?_eq_getElem hj,List.getElem?_eq_getElem h2] at h
 exact Option.some.inj h
theorem Ou (l:List (List EntryM)) (now:Int) (j:Nat):(Ky l now j).length = l.length:=by
 unfold Ky
 simp only [List.length_append,List.length_map,List.length_take,List.length_drop]
 omega
def tickO (n:Net) (m:MacM) (d:Bool) (now:Int) (j:Nat):Obs:=[(0,.box (Wx n 1 now m.injected m.drops)),(1,.box (M3 n m.up d)),(2,.row 1 J9 (Ky m.tables now j)),(3,.row 1 Md m.queues)]
theorem Alv (n:Net) (m:MacM) (d:Bool) (J D:Int) (hm0:MacOK n m J D) (hs:Aq n.domains) :
  Sy.Spec Tryz.prog 54 [.ptr 0 0] (Df n m d) (.tup []) (Df n (Mb m) d):=Ab Γ hm 100 F54 Tryz.ntmps54 rfl fun F hF=>by
 unfold Aq at hs
 have hnow:=hm0.now
 have htl:m.tables.length < 2147483648:=by rw [hm0.tabs]; exact hs
 have hto:=hm0.tab
 obtain ⟨nw,hnw⟩:∃ nw,(if 1099511627776 < m.now + 1 then 1099511627776 else m.now + 1) = nw:=⟨_,rfl⟩
 have hti:Mb m = ⟨m.up,Ky m.tables nw m.tables.length,m.queues,nw,m.injected,m.drops⟩:=by
  have:min (m.now + 1) 1099511627776 = nw:=by rw [← hnw]; split <;> omega
  unfold Mb Ky
  rw [this,List.take_length,List.drop_length,List.append_nil]
 rw [hti]
 conv=>whnf
 refine ⟨by unfold I64; omega,?_⟩
 conv=>whnf
 refine Ai (Akm hnw E E E) E E ?_
 refine rg ?_;conv=>whnf
 refine Av m.tables.length (fun j=>[(0,.ptr 0 0),(16,.osl 2),(17,Aa m.tables.length),(18,Aa j)]) (fun j=>tickO n m d nw j) [] ⟨⟨E,E,E,E,E,E,E,E,Y⟩,⟨.inl E,E,.inl E,E,.inl E,E,.inl E,E,Y⟩,E,E⟩ ?_
 intro j hj
 refine rg ?_;conv=>whnf
 refine ⟨fun h=>?_,fun h=>?_⟩
 ·have hlt:j < m.tables.length:=by have:=of_decide_eq_true h; omega
  have hal:=Ou m.tables nw j
  have hj0:((j:Nat):Int).toNat < (Ky m.tables nw j).length:=by rw [hal]; simpa using hlt
  obtain ⟨t,hoo⟩:∃ t,m.tables[j] = t:=⟨_,rfl⟩
  have e1:(Ky m.tables nw j)[((j:Nat):Int).toNat]'hj0 = t:=(Ym m.tables nw j hlt (by rw [hal]; exact hlt)).trans hoo
  have hs:=Ui m.tables nw j hlt
  rw [hoo] at hs
  have ht:=hto t (by rw [← hoo]; exact List.getElem_mem hlt)
  clear h
  refine rg ?_;conv=>whnf
  refine ⟨by omega,hj0,?_⟩
  conv=>whnf
  refine ⟨E,hj0,?_⟩
  rw [e1]
  conv=>whnf
  refine At (Aon t nw ht.short ht.mac) F107 E E E (by kernel_rfl) E ?_
  refine rd (by kernel_rfl) ?_;conv=>whnf
  refine ⟨by omega,hj0,?_⟩
  conv=>whnf
  refine ⟨E,hj0,ageT t nw,E,E,?_⟩
  conv=>whnf
  refine ⟨(by kernel_rfl),?_⟩
  conv=>whnf
  refine ⟨by unfold I64; omega,?_⟩
  conv=>whnf
  exact Ar [] hlt ⟨⟨E,E,E,E,E,E,E,E,Y⟩,⟨.inl E,E,.inl E,E,.inl (congrArg (Ob.row 1 J9) hs.symm),E,.inl E,E,Y⟩,E,E⟩
 ·have hjj:j = m.tables.length:=by have:=of_decide_eq_false h; omega
  subst hjj
  clear h
  refine rg ?_;conv=>whnf
  exact Bx E .nil [] (Df n ⟨m.up,Ky m.tables nw m.tables.length,m.queues,nw,m.injected,m.drops⟩ d) (fun _ h=>h) E E ⟨Y,⟨.inl E,E,.inl E,E,.inl E,E,.inl E,E,Y⟩,E,E⟩
end Go.Sy.YtmelpejjondedaaGreat
