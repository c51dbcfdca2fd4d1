/-
  V4 V5 X1 D2 KM K25 Sy30 Sy20 Sy21 Sy31 Sy32 Sy33 S3 K1 K2 K3 K4 K5 D0 K6 K7 K26 Sy24: parts of a proof, joined by program.
-/
import Derived.Test.YtmelpejjondedaaGreatH4
import Derived.Test.YtmelpejjondedaaGreatH3
import Derived.ProofKit
import Derived.OpenShut
namespace Go.Sy.YtmelpejjondedaaGreat
theorem key_lt (n:Net) (a b:Int):decide (Zc n a b < 0) = if (nth n.devices a).prio ≠ (nth n.devices b).prio then decide ((nth n.devices a).prio < (nth n.devices b).prio) else
  if (nth n.devices a).mac ≠ (nth n.devices b).mac then decide ((nth n.devices a).mac < (nth n.devices b).mac) else false:=by
 rw [Zc,L4,L4]
 rfl
theorem Me (n:Net) (a:Int):Cg n a a = false:=by simp [Cg]
theorem V6 (n:Net) {a b c:Int} (h1:Cg n a b = true) (h2:Cg n b c = true):Cg n a c = true:=by
 unfold Cg at *
 generalize nth n.devices a = x at *
 generalize nth n.devices b = y at *
 generalize nth n.devices c = z at *
 grind
theorem Afh (n:Net) {a b:Int} (h1:Cg n a b = true):Cg n b a = false:=by
 cases h:Cg n b a with
 | false=>rfl
 | true=>have:=V6 n h1 h; rw [Me] at this; cases this
theorem Aad (n:Net) {x y:Int} (h:y < x):decide (Zc n x y < 0) = Cg n x y:=by
 rw [key_lt]
 unfold Cg
 generalize nth n.devices x = p at *
 generalize nth n.devices y = q at *
 grind
theorem Apz (n:Net) {x y:Int} (h:y < x) (hk:Cg n x y = false):Cg n y x = true:=by
 unfold Cg at *
 generalize nth n.devices x = p at *
 generalize nth n.devices y = q at *
 grind
theorem Aag (n:Net) (x:Int):∀ (r:List Int),(∀ y ∈ r,y < x) → r.Pairwise (fun a b=>Cg n b a = true) → (Od (fun a b=>decide (Zc n a b < 0)) x r).Pairwise (fun a b=>Cg n b a = true)
 | [],_,_=>by simp [Od]
 | y :: r,hx,hp=>by
  have hy:=hx y (by simp)
  rw [List.pairwise_cons] at hp
  rw [Od]
  split
  ·rename_i hlt
   rw [Aad n hy] at hlt
   rw [List.pairwise_cons]
   refine ⟨fun z hz=>?_,Aag n x r (fun z hz=>hx z (by simp [hz])) hp.2⟩
   rcases List.mem_cons.1 ((U6 _ x r).mem_iff.1 hz) with rfl | hz
   ·exact hlt
   ·exact hp.1 z hz
  ·rename_i hlt
   rw [Aad n hy] at hlt
   have hyx:=Apz n hy (by simpa using hlt)
   rw [List.pairwise_cons,List.pairwise_cons]
   refine ⟨fun z hz=>?_,hp⟩
   rcases List.mem_cons.1 hz with rfl | hz
   ·exact hyx
   ·exact V6 n (hp.1 z hz) hyx
theorem Vv (n:Net):∀ m,(Eo (fun a b=>decide (Zc n a b < 0)) (Tj m)).Pairwise (fun a b=>Cg n b a = true)
 | 0=>by simp [Eo,Tj]
 | m + 1=>by
  rw [Z4,Eo,List.foldl_append]
  refine Aag n m _ (fun y hy=>?_) (Vv n m)
  have:=(Kn _ _).mem_iff.1 hy
  obtain ⟨i,hi,rfl⟩:=List.mem_map.1 this
  have:=List.mem_range.1 hi
  omega
theorem Ut (n:Net):(D3 n).Pairwise (fun a b=>Cg n a b = true):=by
 rw [D3,Qy,List.pairwise_reverse]
 exact Vv n _
theorem Aa2 (n:Net):(D3 n).Perm (Tj n.devices.length):=Si _ _
theorem Ae7 (n:Net) {l:List Int} (hp:l.Pairwise (fun a b=>Cg n a b = true)) (r:Nat) (hr:r < l.length):l.countP (fun k=>Cg n k l[r]) = r:=by
 have hsplit:l = l.take r ++ l[r] :: l.drop (r + 1):=by
  rw [← List.drop_eq_getElem_cons hr,List.take_append_drop]
 have h1:(l.take r).countP (fun k=>Cg n k l[r]) = r:=by
  rw [List.countP_eq_length.2 (fun k hk=>?_),List.length_take]
  ·omega
  ·obtain ⟨i,hi,rfl⟩:=List.mem_iff_getElem.1 hk
   simp only [List.length_take] at hi
   rw [List.getElem_take]
   exact List.pairwise_iff_getElem.1 hp i r (by omega) hr (by omega)
 have h2:(l.drop (r + 1)).countP (fun k=>Cg n k l[r]) = 0:=by
  rw [List.countP_eq_zero]
  intro k hk
  obtain ⟨i,hi,rfl⟩:=List.mem_iff_getElem.1 hk
  simp only [List.length_drop] at hi
  rw [List.getElem_drop]
  have:=List.pairwise_iff_getElem.1 hp r (r + 1 + i) hr (by omega) (by omega)
  simp [Afh n this]
 calc l.countP (fun k=>Cg n k l[r]) = (l.take r ++ l[r] :: l.drop (r + 1)).countP (fun k=>Cg n k l[r]):=congrArg _ hsplit
  _ = r:=by rw [List.countP_append,List.countP_cons,h1,h2,Me]; simp
theorem Tf (L:List Int) (hn:L.Nodup) (hm:∀ a ∈ L,0 ≤ a ∧ a < L.length):∀ (j:Nat),j ≤ L.length → ∀ (r:Nat) (hr:r < L.length),r < j → (Hv L j)[L[r].toNat]? = some (r:Int)
 | 0,_,r,_,h=>by omega
 | j + 1,hj,r,hr,h=>by
  have hmr:=hm _ (List.getElem_mem hr)
  have hlen:=Hc L j
  have hnth:nth L (j:Int) = L[j]:=Ao (by simp; omega)
  rw [Hv,hnth,List.getElem?_set]
  split
  ·rename_i he
   have hmj:=hm _ (List.getElem_mem (show j < L.length by omega))
   have hjr:L[j] = L[r]:=by omega
   have:j = r:=by
    have:=(List.getElem_inj (i:=j) (j:=r) (h₀:=by omega) (h₁:=hr) hn).1 hjr
    exact this
   subst this
   rw [if_pos (by omega)]
  ·rename_i he
   have hne:r ≠ j:=fun e=>he (by subst e; rfl)
   exact Tf L hn hm j (by omega) r hr (by omega)
theorem Agv (m:Nat):(Tj m).Nodup:=by
 rw [Tj]
 exact List.Pairwise.map _ (fun (a b:Nat) (h:a ≠ b)=>by intro e; exact h (by omega)) List.nodup_range
theorem Xq (n:Net):Cn n = Jo n:=by
 have hp:=Aa2 n
 have hlen:(D3 n).length = n.devices.length:=by rw [hp.length_eq,Iz]
 have hnd:(D3 n).Nodup:=hp.nodup_iff.2 (Agv _)
 have hm:∀ a ∈ D3 n,0 ≤ a ∧ a < (D3 n).length:=fun a ha=>by
  obtain ⟨i,hi,rfl⟩:=List.mem_map.1 (hp.mem_iff.1 ha)
  have:=List.mem_range.1 hi
  omega
 refine List.ext_getElem? fun i=>?_
 rcases Nat.lt_or_ge i n.devices.length with hi | hi
 ·have hin:(i:Int) ∈ D3 n:=hp.mem_iff.2 (List.mem_map.2 ⟨i,List.mem_range.2 hi,rfl⟩)
  obtain ⟨r,hr,he⟩:=List.mem_iff_getElem.1 hin
  have h1:=Tf (D3 n) hnd hm n.devices.length (by omega) r hr (by omega)
  rw [he] at h1
  have h2:=Ae7 n (Ut n) r hr
  rw [he,hp.countP_eq] at h2
  rw [Cn,Jo,List.getElem?_map,List.getElem?_range hi]
  simp only [Int.toNat_natCast] at h1
  rw [h1]
  simp only [Option.map_some]
  congr 2
  rw [← h2,Tj,List.countP_map]
  rfl
 ·rw [List.getElem?_eq_none,List.getElem?_eq_none]
  ·simp [Jo]; omega
  ·rw [Cn,Hc]; omega
theorem G_vw {C:Cx} {k:List KI} {s:SS} (d:Nat) (x:SV) (h:Vw s [] (s.σ d) x) (hg:G C k ⟨upd s.σ d x,s.h⟩):G C k s:=fun κ a w hs =>
 hg κ a w ⟨hs.defers,hs.size,hs.inv,hs.ctx,fun i=>by
  show Rd κ w (upd s.σ d x i) _
  by_cases hi:i = d
  ·subst hi; rw [Bs]; exact Vw.rd hs.inv (fun _ hn=>by cases hn) h (hs.slot i)
  ·rw [Cf _ _ hi]; exact hs.slot i,hs.obj⟩
end Go.Sy.YtmelpejjondedaaGreat
namespace Go.Sy.YtmelpejjondedaaGreat
open Go.Proofs
attribute [local irreducible] Go.Sy.G Go.Sy.DR
set_option maxRecDepth 20000
set_option maxHeartbeats 4000000
def H6 (p:Port):Bool:=decide (p.cost < 1) || decide (p.cost > 65535)
theorem costs1 (p:Port):Sy.Spec Tryz.prog 227 [Bh p] [] (Ad (H6 p)) []:=Ab Γ hm 100 F227 Tryz.ntmps227 rfl fun F hF=>by
 conv=>whnf
 (repeat' (first | (refine ⟨fun h=>?_,fun h=>?_⟩ <;> (repeat (first | simp only [decide_eq_true_eq] at h | simp only [decide_eq_false_iff_not] at h)) <;> ((refine rg ?_);(conv=>whnf))) | (refine Ac rfl (.cons .tmp .nil) ?_ rfl)))
 all_goals (refine congrArg Ad ?_; clear hF; grind [H6])
theorem Sv (l:List Port) (p:Port → Bool) (f:FuncId) (first cap:List SV) (hc:(SV.clo (.func f) first cap).inn [] = true) (hf:∀ x ∈ l,Jb Tryz.prog f (first ++ [Bh x] ++ cap) (Ad (p x))) (hl:Aq l) :
  Sy.Spec Tryz.prog 226 [.sl 7 Bh l,.clo (.func f) first cap] [] (Ad (l.any p)) []:=Ab Γ hm 100 F226 Tryz.ntmps226 rfl fun F hF=>by
 have h0:Cj [] [.sl 7 Bh l,.clo (.func f) first cap] = true:=by simp only [Cj,hc]; rfl
 conv=>whnf
 refine Ag (Wb l p f first cap hc hf hl) F281 E E (by simp only [h0]; rfl) E E ?_
 refine rg ?_;conv=>whnf
 exact Ac E (.cons .tmp .nil) (congrArg Ad (Yc _ _).symm) E
def Ci (n:Net):Bool:=!(n.ports.any H6)
theorem Aol (n:Net) (hl:Aq n.ports):Sy.Spec Tryz.prog 155 [Ap n] [] (Ad (Ci n)) []:=Ab Γ hm 100 F155 Tryz.ntmps155 rfl fun F hF=>by
 conv=>whnf
 refine Ag (Sv n.ports H6 227 [] [] E (fun x _=>⟨⟨_,_,F227⟩,costs1 x⟩) hl) F226 E E E E E ?_
 refine rg ?_;conv=>whnf
 exact Ac E (.cons .tmp .nil) E E
theorem Akd (n:Net) (hl:Aq n.ports):Sy.Spec Tryz.prog 201 [Ap n] [] (Ad (Ci n)) []:=Ab Γ hm 100 F201 Tryz.ntmps201 rfl fun F hF=>by
 unfold Aq at hl
 conv=>whnf
 refine Bf 1 8 (Ap n) E E E ?_
 refine A2 n.ports.length (fun j=>Da (fun _ p=>!(H6 p)) n.ports j) (fun j=>[(1,.ref 8 (Ap n) 0),(3,Aa j)]) (fun _=>[]) [] (A5 _ _) ⟨⟨E,E,E,E,Y⟩,Y,E,E⟩ ?_
 intro j hj hI
 refine rg ?_;conv=>whnf
 (repeat' (first | (refine ⟨fun h=>?_,fun h=>?_⟩ <;> (repeat (first | simp only [decide_eq_true_eq] at h | simp only [decide_eq_false_iff_not] at h)) <;> ((refine rg ?_);(conv=>whnf);repeat((refine aT ?_);(refine rg ?_);(conv=>whnf)))) | (refine Ac rfl (.cons .tmp .nil) ?_ rfl) | (refine ⟨(by kernel_rfl),?_⟩; ((conv=>whnf))) | (refine ⟨by (omega),by (omega),?_⟩; ((conv=>whnf))) | (refine ⟨by (unfold I64; omega),?_⟩; ((conv=>whnf))) | refine Ax [] hI (by omega) ?_ ⟨⟨rfl,rfl,rfl,rfl,trivial⟩,trivial,rfl,rfl⟩))
 all_goals (simp only [Int.toNat_natCast] at *)
 all_goals first
  | exact A3 hI (by omega) (by clear hI hF; grind [H6])
  | (refine congrArg Ad ?_; rw [Ci,Ls (j:=j) (by omega) (by clear hI hF; grind [H6])]; rfl)
  | (refine congrArg Ad ?_; rw [Ci,Jp hI (by omega)]; rfl)
def If (n:Net):Bool :=
 decide (200 < n.devices.length) || decide (200 < n.ports.length) || decide (200 < n.links.length) || decide (200 < n.domains.length) || decide (200 < n.statics.length) || decide (200 < n.floods.length) || decide (200 < n.vrfs.length) || decide (200 < n.irbs.length) ||
  n.ports.any (fun p=>decide (100 < p.tagged.length)) || n.domains.any (fun d=>decide (100 < d.peers.length)) || n.floods.any (fun f=>decide (100 < f.addrs.length)) || n.vrfs.any (fun v=>decide (100 < v.imports.length) || decide (100 < v.exports.length))
theorem Ab6 {n:Net} (h:If n = false):n.Fin:=by
 simp only [If,Bool.or_eq_false_iff,decide_eq_false_iff_not,List.any_eq_false,decide_eq_true_eq,Bool.or_eq_true,not_or] at h
 obtain ⟨⟨⟨⟨⟨⟨⟨⟨⟨⟨⟨h1,h2⟩,h3⟩,h4⟩,h5⟩,h6⟩,h7⟩,h8⟩,h9⟩,h10⟩,h11⟩,h12⟩:=h
 exact ⟨by unfold Aq; omega,by unfold Aq; omega,by unfold Aq; omega,by unfold Aq; omega,by unfold Aq; omega,by unfold Aq; omega,by unfold Aq; omega,by unfold Aq; omega,
  fun p hp=>by have:=h9 p hp; unfold Aq; omega,fun p hp=>by have:=h10 p hp; unfold Aq; omega,fun p hp=>by have:=h11 p hp; unfold Aq; omega,fun p hp=>by have:=h12 p hp; unfold Aq; omega,fun p hp=>by have:=h12 p hp; unfold Aq; omega⟩
end Go.Sy.YtmelpejjondedaaGreat
namespace Go.Sy.YtmelpejjondedaaGreat
open Go.Proofs
attribute [local irreducible] Go.Sy.G Go.Sy.DR
set_option maxRecDepth 100000
set_option maxHeartbeats 4000000
theorem A8 {α:Type} {l:List α} {i:Nat} {d:α} (h:i < l.length):l.getD i d = l[i]:=by simp [List.getD,h]
theorem Jv {n:Net} (h:Ah n = true) {i:Nat} (hi:i < n.ports.length):Em n i n.ports[i] = true:=by
 simp only [Ah,Bool.and_eq_true] at h
 exact allB_iff.1 h.1.1.1.1.1.2 i hi
theorem Sa {n:Net} (h:Ah n = true) {i:Nat} (hi:i < n.links.length):J6 n i n.links[i] = true:=by
 simp only [Ah,Bool.and_eq_true] at h
 exact allB_iff.1 h.1.1.1.1.2 i hi
theorem Cr {n:Net} (h:Ah n = true):n.devices.length ≤ 8 ∧ n.ports.length ≤ 40 ∧ n.links.length ≤ 20:=by
 simp only [Ah,Alg,Bool.and_eq_true,decide_eq_true_eq] at h
 omega
theorem Es {n:Net} (h:Ah n = true) {i:Nat} (hi:i < n.ports.length):n.ports[i].link = -1 ∨ (0 ≤ n.ports[i].link ∧ n.ports[i].link < n.links.length):=by
 have:=Jv h hi
 simp only [Em,Am,Bool.and_eq_true,Bool.or_eq_true,beq_iff_eq,decide_eq_true_eq] at this
 rcases this.2 with h1 | h1
 ·exact .inl h1
 ·exact .inr h1.1
theorem M3 {n:Net} (h:Ah n = true) {i:Nat} (hi:i < n.ports.length):0 ≤ n.ports[i].dev ∧ n.ports[i].dev < n.devices.length:=by
 have:=Jv h hi
 simp only [Em,Am,Bool.and_eq_true,decide_eq_true_eq] at this
 exact this.1.1.1.1.1.1.1.1
theorem Id {n:Net} (h:Ah n = true) {i:Nat} (hi:i < n.links.length):(0 ≤ n.links[i].a ∧ n.links[i].a < n.ports.length) ∧ 0 ≤ n.links[i].b ∧ n.links[i].b < n.ports.length:=by
 have:=Sa h hi
 simp only [J6,Am,Bool.and_eq_true,decide_eq_true_eq] at this
 exact ⟨this.1.1.1.1,this.1.1.1.2⟩
def Bj (n:Net) (i:Nat):Int:=(nth n.ports i).dev
def Hm (n:Net) (i:Nat):Int:=(nth n.ports i).cost
theorem J1 {n:Net} (hcost:Ci n = true) {i:Nat} (hi:i < n.ports.length):1 ≤ Hm n i ∧ Hm n i ≤ 65535:=by
 rw [Hm,Ao (l:=n.ports) (i:=(i:Int)) (by simpa using hi)]
 simp only [Ci,Bool.not_eq_true',List.any_eq_false] at hcost
 have:=hcost _ (List.getElem_mem hi)
 simp only [H6,Bool.or_eq_true,decide_eq_true_eq,not_or] at this
 simp only [Int.toNat_natCast]
 omega
def J3 (ls:List Link) (i:Int):Int:=match ls.find? (fun l=>l.a == i || l.b == i) with | some l=>if l.a = i then l.b else l.a | none=>-1
theorem Agu (n:Net) (i:Int) (hl:Aq n.links):Sy.Spec Tryz.prog 204 [Ap n,Aa i] [] (Aa (J3 n.links i)) []:=Ab Γ hm 100 F204 Tryz.ntmps204 rfl fun F hF=>by
 unfold Aq at hl
 conv=>whnf
 refine Bf 2 8 (Ap n) E E E ?_
 refine A2 n.links.length (fun j=>∀ q (hq:q < n.links.length),q < j → n.links[q].a ≠ i ∧ n.links[q].b ≠ i) (fun j=>[(1,Aa i),(2,.ref 8 (Ap n) 0),(5,Aa j)]) (fun _=>[]) [] (fun q _ h=>absurd h (by omega)) ⟨⟨E,E,E,E,E,E,Y⟩,Y,E,E⟩ ?_
 intro j hj hI
 refine rg ?_;conv=>whnf
 refine ⟨fun h=>?_,fun h=>?_⟩
 ·have hlt:j < n.links.length:=by simpa using h
  have e1:n.links[(j:Int).toNat]'(by omega) = n.links[j]:=rfl
  have hfind:(n.links[j].a = i ∨ n.links[j].b = i) → n.links.find? (fun l=>l.a == i || l.b == i) = some n.links[j]:=fun h=>by
   rw [List.find?_eq_some_iff_getElem]
   refine ⟨by simpa using h,j,hlt,E,fun q hq=>?_⟩
   have:=hI q (by omega) hq
   simp [this.1,this.2]
  obtain ⟨l,hlk⟩:∃ l,n.links[j] = l:=⟨_,rfl⟩
  rw [hlk] at e1 hfind
  refine rg ?_;conv=>whnf
  refine ⟨E,by omega,by omega,?_⟩
  rw [e1]
  conv=>whnf
  refine ⟨fun h1=>?_,fun h1=>?_⟩
  ·have ha:l.a = i:=by simpa using h1
   have hres:J3 n.links i = l.b:=by rw [J3,hfind (.inl ha)]; simp [ha]
   rw [hres]
   refine rg ?_;conv=>whnf
   refine ⟨E,by omega,by omega,?_⟩
   rw [e1]
   conv=>whnf
   exact Ac E (.cons .tmp .nil) E E
  have ha:¬ l.a = i:=by simpa using h1
  refine rg ?_;conv=>whnf
  refine ⟨E,by omega,by omega,?_⟩
  rw [e1]
  conv=>whnf
  refine ⟨fun h2=>?_,fun h2=>?_⟩
  ·have hb:l.b = i:=by simpa using h2
   have hres:J3 n.links i = l.a:=by rw [J3,hfind (.inr hb)]; simp [ha]
   rw [hres]
   refine rg ?_;conv=>whnf
   refine ⟨E,by omega,by omega,?_⟩
   rw [e1]
   conv=>whnf
   exact Ac E (.cons .tmp .nil) E E
  have hb:¬ l.b = i:=by simpa using h2
  refine rg ?_;conv=>whnf
  refine ⟨by unfold I64; omega,?_⟩
  conv=>whnf
  refine Ax [] hI hlt (fun q hq hqj=>?_) ⟨⟨E,E,E,E,E,E,Y⟩,Y,E,E⟩
  by_cases hqe:q = j
  ·subst hqe; rw [hlk]; exact ⟨ha,hb⟩
  ·exact hI q hq (by omega)
 ·have hres:J3 n.links i = -1:=by
   have:¬ j < n.links.length:=by simpa using h
   rw [J3,List.find?_eq_none.2]
   intro x hx
   obtain ⟨q,hq,rfl⟩:=List.getElem_of_mem hx
   have:=hI q hq (by omega)
   simp [this.1,this.2]
  rw [hres]
  refine rg ?_;conv=>whnf
  exact Ac E (.cons .tmp .nil) E E
end Go.Sy.YtmelpejjondedaaGreat
namespace Go.Sy.YtmelpejjondedaaGreat
open Go.Proofs
attribute [local irreducible] Go.Sy.G Go.Sy.DR
set_option maxRecDepth 20000
set_option maxHeartbeats 4000000
theorem Akr {n:Net} (hb:Ah n = true) (i:Int):J3 n.links i = D5 n i:=by
 have hlr:∀ (k:Nat) (hk:k < n.links.length),J6 n k n.links[k] = true:=fun k hk=>by
  have h:=hb
  simp only [Ah,Bool.and_eq_true] at h
  exact allB_iff.1 h.1.1.1.1.2 k hk
 have hin:∀ (k:Nat) (hk:k < n.links.length),(n.links[k].a = i ∨ n.links[k].b = i) → (0 ≤ i ∧ i.toNat < n.ports.length) ∧ (nth n.ports i).link = k:=fun k hk h=>by
  have:=hlr k hk
  simp only [J6,Am,Bool.and_eq_true,decide_eq_true_eq,beq_iff_eq] at this
  rcases h with h | h <;> rw [h] at this
  ·exact ⟨by omega,this.1.2⟩
  ·exact ⟨by omega,this.2⟩
 rw [J3,D5]
 cases hf:n.links.find? (fun l=>l.a == i || l.b == i) with
 | none =>
  rw [List.find?_eq_none] at hf
  dsimp only
  split
  ·rename_i hc
   have hk:i.toNat < n.ports.length:=by omega
   have e1:nth n.ports i = n.ports[i.toNat]:=Ao hk
   rw [e1] at hc
   have hq:=Kq hb hk hc.2.1
   have e2:nth n.links n.ports[i.toNat].link = n.links[n.ports[i.toNat].link.toNat]:=Ao hq.1
   rw [e2] at hq
   have:=hf _ (List.getElem_mem hq.1)
   have e3:((i.toNat:Nat):Int) = i:=by omega
   rw [e3] at hq
   simp at this
   rcases hq.2 with h | h
   ·exact absurd h this.1
   ·exact absurd h this.2
  ·rfl
 | some l =>
  rw [List.find?_eq_some_iff_getElem] at hf
  obtain ⟨hl,k,hk,rfl,_⟩:=hf
  have h2:=hin k hk (by simpa using hl)
  have e2:nth n.links (nth n.ports i).link = n.links[k]:=by rw [h2.2]; exact Ao (l:=n.links) (i:=(k:Int)) (by simpa using hk)
  rw [if_pos ⟨by omega,by omega,hb⟩,e2]
theorem Akb (n:Net) (hn:n.Fin) (hb:Ah n = true) (i:Int):Sy.Spec Tryz.prog 204 [Ap n,Aa i] [] (Aa (D5 n i)) []:=by
 rw [← Akr hb]
 exact Agu n i hn.links
end Go.Sy.YtmelpejjondedaaGreat
namespace Go.Sy.YtmelpejjondedaaGreat
open Go.Proofs
structure EntryM where
 mac:Nat
 where_:Int
 seen:Int
deriving DecidableEq
def Al (e:EntryM):SV:=.agg [Ay e.mac,Aa e.where_,Aa e.seen]
def Ed (m:Nat):Bool:=decide (m ≤ 281474976710655) && !Du m
def Ck (now:Int):Bool:=decide (0 ≤ now) && decide (now ≤ 1099511627776)
def Co (t:List EntryM) (m:Nat):Int:=C7 (fun e=>decide (e.mac = m)) t
def Ii (t:List EntryM) (i:Nat) (e:EntryM):Bool:=Ed e.mac && Ck e.seen && decide (Co t e.mac = i)
def tableB (t:List EntryM):Bool:=decide (t.length ≤ 8) && C0 (Ii t) t
def findE (t:List EntryM) (m:Nat):Int × Bool:=if Co t m < 0 then (0,false) else (((t[(Co t m).toNat]?).map (·.where_)).getD 0,true)
def oldestU (t:List EntryM):Nat → Nat
 | 0=>0
 | j + 1=>if ((t[j]?).map (·.seen)).getD 0 < ((t[oldestU t j]?).map (·.seen)).getD 0 then j else oldestU t j
def learnT (t:List EntryM) (m:Nat) (wh now:Int):List EntryM :=
 if tableB t = false ∨ Ed m = false ∨ Ck now = false then t
 else if 0 ≤ Co t m then t.set (Co t m).toNat ⟨m,wh,now⟩
 else (if t.length = 8 then t.eraseIdx (oldestU t t.length) else t) ++ [⟨m,wh,now⟩]
def ageT (t:List EntryM) (now:Int):List EntryM:=if tableB t = false ∨ Ck now = false then t else t.filter fun e=>decide (now - 4 ≤ e.seen)
def noF:FrameM:=⟨0,0,0,[]⟩
structure FrameOK (f:FrameM):Prop where
 dst:f.dst < 281474976710656
 src:f.src < 281474976710656
 typ:f.typ ≤ 65535
 body:f.body.length ≤ 1504
def takeF (b:List UInt8):FrameM × Int :=
 if b.length < 14 then (noF,10) else if 1518 < b.length then (noF,14)
 else (⟨Ey (b.take 6),Ey ((b.drop 6).take 6),Ey ((b.drop 12).take 2),b.drop 14⟩,0)
def Th (f:FrameM):List UInt8:=frame f.dst f.src f.typ f.body
def stripT (f:FrameM):FrameM × Int × Int × Int :=
 if f.typ ≠ 33024 then (noF,0,0,11) else if f.body.length < 4 then (noF,0,0,10)
 else if 4094 < Ey (f.body.take 2) % 4096 ∨ Ey ((f.body.drop 2).take 2) = 33024 then (noF,0,0,15)
 else (⟨f.dst,f.src,Ey ((f.body.drop 2).take 2),f.body.drop 4⟩,(Ey (f.body.take 2) % 4096:Nat),(Ey (f.body.take 2) / 4096:Nat),0)
def tagT (f:FrameM) (v:Int):FrameM × Int :=
 if f.typ = 33024 then (noF,15) else if 1500 < f.body.length then (noF,14)
 else (⟨f.dst,f.src,33024,[UInt8.ofNat (v.toNat / 256),UInt8.ofNat v.toNat,UInt8.ofNat (f.typ / 256),UInt8.ofNat f.typ] ++ f.body⟩,0)
def vlanT (p:Port) (tagged:Bool) (vid:Int):Int × Bool :=
 if tagged = false ∨ vid = 0 then (p.native,decide (p.native ≠ 0)) else if inB p.tagged vid = true then (vid,true) else (0,false)
def Ik (n:Net) (port:Int) (f:FrameM) (tagged:Bool) (vid:Int):Int × FrameM × Int :=
 if Du f.src = true then (0,noF,11)
 else if (vlanT (nth n.ports port) tagged vid).2 = false then (0,noF,16)
 else (Kr n (nth n.ports port).dev (vlanT (nth n.ports port) tagged vid).1,f,0)
def enterT (n:Net) (port:Int) (b:List UInt8):Int × FrameM × Int :=
 if Am port n.ports.length = false ∨ Ah n = false then (0,noF,2)
 else if (takeF b).2 ≠ 0 then (0,noF,(takeF b).2)
 else if (takeF b).1.typ = 33024 then
  (if (stripT (takeF b).1).2.2.2 ≠ 0 then (0,noF,(stripT (takeF b).1).2.2.2) else Ik n port (stripT (takeF b).1).1 true (stripT (takeF b).1).2.1)
 else Ik n port (takeF b).1 false 0
def leaveT (n:Net) (port dom:Int) (f:FrameM):List UInt8 × Int :=
 if Am port n.ports.length = false ∨ Am dom n.domains.length = false ∨ Ah n = false then ([],2)
 else if (nth n.ports port).dev ≠ (nth n.domains dom).dev ∨ Hy (nth n.ports port) (nth n.domains dom).vlan = false then ([],16)
 else if f.typ = 33024 then ([],15)
 else if (nth n.domains dom).vlan = (nth n.ports port).native then (Th f,0)
 else if (tagT f (nth n.domains dom).vlan).2 ≠ 0 then ([],(tagT f (nth n.domains dom).vlan).2)
 else (Th (tagT f (nth n.domains dom).vlan).1,0)
def linkT (n:Net) (port:Int) (b:List UInt8):Int × Int × FrameM × Int :=
 if D5 n port < 0 then (0,0,noF,2) else (D5 n port,enterT n (D5 n port) b)
structure QueuedM where
 from_:Int
 peer:Int
 origin:Int
 frame:FrameM
def Aw (q:QueuedM):SV:=.agg [Aa q.from_,Aa q.peer,Aa q.origin,Ay q.frame.dst,Ay q.frame.src,Aa q.frame.typ,.sl 1 Aj q.frame.body]
def noQ:QueuedM:=⟨0,0,0,noF⟩
def pushT (l:List QueuedM) (q:QueuedM):List QueuedM × Bool:=if 64 ≤ l.length then (l,false) else (l ++ [q],true)
def takeT (l:List QueuedM) (at_:Int):QueuedM × List QueuedM × Bool :=
 if at_ < 0 ∨ (l.length:Int) ≤ at_ then (noQ,l,false) else ((l[at_.toNat]?).getD noQ,l.eraseIdx at_.toNat,true)
def usableB (n:Net) (fw:List Bool) (p:Int):Bool:=decide ((nth n.ports p).link < 0) || (fw[(nth n.ports p).link.toNat]?).getD false
def roomB (n:Net) (fw:List Bool) (dom from_:Int):Bool :=
 Am dom n.domains.length && decide (fw.length = n.links.length) && Ah n && (decide (from_ = -1) || decide (from_ = -2) || inB (Az n dom) from_)
def Cc (n:Net) (fw:List Bool) (from_:Int) (l:List Int):List Int:=l.filter fun p=>!(decide (p = from_) || !(usableB n fw p))
def peersOut (n:Net) (dom from_:Int):List Int:=if from_ = -1 then [] else (nth n.domains dom).peers
def floodT (n:Net) (fw:List Bool) (dom from_:Int):List Int × List Int × Int :=
 if roomB n fw dom from_ = false then ([],[],2) else (Cc n fw from_ (Az n dom),peersOut n dom from_,0)
def Db (n:Net) (dom:Int) (m:Nat):Int:=C7 (fun s:Static=>decide (s.domain = dom) && decide (s.mac = (m:Int))) n.statics
def decideT (n:Net) (fw:List Bool) (t:List EntryM) (dom from_:Int) (m:Nat):List Int × List Int × Int :=
 if roomB n fw dom from_ = false then ([],[],2)
 else if Du m = true then (Cc n fw from_ (Az n dom),peersOut n dom from_,0)
 else if 0 ≤ Db n dom m then (Cc n fw from_ [(nth n.statics (Db n dom m)).port],[],0)
 else if (findE t m).2 = true ∧ 0 ≤ (findE t m).1 ∧ inB (Az n dom) (findE t m).1 = true then (Cc n fw from_ [(findE t m).1],[],0)
 else if (findE t m).2 = true ∧ (findE t m).1 < 0 ∧ inB (nth n.domains dom).peers (-1 - (findE t m).1) = true then ([],if from_ = -1 then [] else [-1 - (findE t m).1],0)
 else (Cc n fw from_ (Az n dom),peersOut n dom from_,0)
def bAt (b:List UInt8) (i:Nat):UInt8:=b.getD i 0
def numAt (b:List UInt8) (k m:Nat):Nat:=Ey ((b.drop k).take m)
def B5 (l:List Nat):List UInt8:=l.flatMap fun n=>[UInt8.ofNat (n / 256),UInt8.ofNat n]
def udpPort (a b:Nat):Nat:=49152 + (a ^^^ b) % 16384
def Acy (src dst:Nat) (body:List UInt8):List UInt8:=B5 [src,dst,8 + body.length,0] ++ body
def udpTakeT (b:List UInt8):Int × Int × List UInt8 × Int :=
 if b.length < 8 then (0,0,[],10) else if numAt b 4 2 < 8 then (0,0,[],11) else if b.length < numAt b 4 2 then (0,0,[],10)
 else if numAt b 6 2 ≠ 0 then (0,0,[],12) else (numAt b 0 2,numAt b 2 2,(b.take (numAt b 4 2)).drop 8,0)
structure PacketM where
 tos:Nat
 id:Nat
 ttl:Nat
 proto:Nat
 src:Nat
 dst:Nat
 body:List UInt8
def noP:PacketM:=⟨0,0,0,0,0,0,[]⟩
def Iy (p:PacketM):SV:=.agg [Aa p.tos,Aa p.id,Aa p.ttl,Aa p.proto,B0 p.src,B0 p.dst,.sl 1 Aj p.body]
structure PacketOK (p:PacketM):Prop where
 tos:p.tos ≤ 255
 id:p.id ≤ 65535
 ttl:p.ttl ≤ 255
 proto:p.proto ≤ 255
 src:p.src < 4294967296
 dst:p.dst < 4294967296
def Hj (p:PacketM) (s:Nat):List UInt8:=B5 [17664 + p.tos,20 + p.body.length,p.id,0,p.ttl * 256 + p.proto,s,p.src / 65536,p.src,p.dst / 65536,p.dst]
def Lh (p:PacketM):Nat:=S4 (Hj p 0)
def Ts (p:PacketM):List UInt8:=Hj p (Lh p) ++ p.body
def ipPutT (p:PacketM):List UInt8 × Int:=if 1480 < p.body.length then ([],14) else (Ts p,0)
def ipTakeT (b:List UInt8):PacketM × Int :=
 if b.length < 20 then (noP,10) else if bAt b 0 ≠ 69 ∨ numAt b 2 2 < 20 then (noP,11) else if b.length < numAt b 2 2 then (noP,10)
 else if numAt b 6 2 ≠ 0 then (noP,11) else if C9 (H7 (b.take 20) 10) ≠ 65535 then (noP,12)
 else (⟨(bAt b 1).toNat,numAt b 4 2,(bAt b 8).toNat,(bAt b 9).toNat,numAt b 12 4,numAt b 16 4,(b.take (numAt b 2 2)).drop 20⟩,0)
def H1 (v:Nat):List UInt8:=[8,0,0,0,UInt8.ofNat (v / 65536),UInt8.ofNat (v / 256),UInt8.ofNat v,0]
def Lt (v:Int):Bool:=decide (v < 1) || decide (16777215 < v)
def vniT (b:List UInt8):Int × List UInt8 × Int :=
 if b.length < 8 then (0,[],10) else if numAt b 4 3 = 0 ∨ b.take 8 ≠ H1 (numAt b 4 3) then (0,[],11) else (numAt b 4 3,b.drop 8,0)
def Mn (from_ to:Nat) (v:Nat) (f:FrameM):PacketM:=⟨0,0,64,17,from_,to,Acy (udpPort f.dst f.src) 4789 (H1 v ++ Th f)⟩
def wrapT (from_ to:Nat) (v:Int) (f:FrameM):List UInt8 × Int :=
 if f.typ = 33024 then ([],15) else if Lt v = true then ([],17) else if 1450 < f.body.length then ([],14)
 else (frame (Ej to) (Ej from_) 2048 (Ts (Mn from_ to v.toNat f)),0)
def outerT (b:List UInt8):PacketM × Int :=
 if (takeF b).2 ≠ 0 then (noP,(takeF b).2) else if (takeF b).1.typ ≠ 2048 then (noP,11)
 else if (ipTakeT (takeF b).1.body).2 ≠ 0 then (noP,(ipTakeT (takeF b).1.body).2)
 else ((ipTakeT (takeF b).1.body).1,if (ipTakeT (takeF b).1.body).1.proto ≠ 17 then 11 else 0)
def innerT (b:List UInt8):Int × FrameM × Int :=
 if (udpTakeT b).2.2.2 ≠ 0 then (0,noF,(udpTakeT b).2.2.2) else if (udpTakeT b).2.1 ≠ 4789 then (0,noF,11)
 else if (vniT (udpTakeT b).2.2.1).2.2 ≠ 0 then (0,noF,(vniT (udpTakeT b).2.2.1).2.2)
 else if (takeF (vniT (udpTakeT b).2.2.1).2.1).2 ≠ 0 then (0,noF,(takeF (vniT (udpTakeT b).2.2.1).2.1).2)
 else if (takeF (vniT (udpTakeT b).2.2.1).2.1).1.typ = 33024 then (0,noF,15)
 else ((vniT (udpTakeT b).2.2.1).1,(takeF (vniT (udpTakeT b).2.2.1).2.1).1,0)
def unwrapT (b:List UInt8):Nat × Nat × Int × FrameM × Int :=
 if (outerT b).2 ≠ 0 then (0,0,0,noF,(outerT b).2) else if (innerT (outerT b).1.body).2.2 ≠ 0 then (0,0,0,noF,(innerT (outerT b).1.body).2.2)
 else ((outerT b).1.src,(outerT b).1.dst,(innerT (outerT b).1.body).1,(innerT (outerT b).1.body).2.1,0)
structure Net.Num (n:Net):Prop where
 vtep:∀ d ∈ n.devices,0 ≤ d.vtep ∧ d.vtep < 4294967296
 addr:∀ i ∈ n.irbs,0 ≤ i.addr ∧ i.addr < 4294967296
def Ei (n:Net) (dom:Int):Int:=(nth n.devices (nth n.domains dom).dev).vtep
def meshT (n:Net) (dom peer:Int) (f:FrameM):List UInt8 × Int :=
 if Am peer n.domains.length = false ∨ Am dom n.domains.length = false ∨ Ah n = false then ([],2)
 else if inB (nth n.domains dom).peers peer = false then ([],17)
 else wrapT (Ei n dom).toNat (Ei n peer).toNat (nth n.domains dom).vni f
def endsT (n:Net) (src dst:Nat) (vni:Int):Int × Int :=
 let dev:=C7 (fun d:Device=>decide (d.vtep = (dst:Int))) n.devices
 let dom:=C7 (fun d:Domain=>decide (d.dev = dev) && decide (d.vni = vni)) n.domains
 if dev < 0 ∨ dom < 0 then (-1,-1)
 else
  let i:=C7 (fun k:Int=>decide (Ei n k = (src:Int))) (nth n.domains dom).peers
  if i < 0 then (-1,-1) else (nth (nth n.domains dom).peers i,dom)
def comeT (n:Net) (b:List UInt8):Int × Int × FrameM × Int :=
 if Ah n = false then (0,0,noF,2)
 else if (unwrapT b).2.2.2.2 ≠ 0 then (0,0,noF,(unwrapT b).2.2.2.2)
 else if (endsT n (unwrapT b).1 (unwrapT b).2.1 (unwrapT b).2.2.1).1 < 0 then (0,0,noF,17)
 else if Du (unwrapT b).2.2.2.1.src = true then (0,0,noF,11)
 else ((endsT n (unwrapT b).1 (unwrapT b).2.1 (unwrapT b).2.2.1).1,(endsT n (unwrapT b).1 (unwrapT b).2.1 (unwrapT b).2.2.1).2,(unwrapT b).2.2.2.1,0)
def routerT (n:Net) (dom:Int) (m:Nat):Int × Bool :=
 if Am dom n.domains.length = false ∨ Ah n = false then (0,false)
 else if (nth n.domains dom).irb < 0 ∨ Ej (nth n.irbs (nth n.domains dom).irb).addr ≠ m then (0,false)
 else ((nth n.domains dom).irb,true)
def Aem (p:PacketM):PacketM:=⟨p.tos,p.id,p.ttl - 1,p.proto,p.src,p.dst,p.body⟩
def hopT (n:Net) (irb:Int) (f:FrameM):Int × FrameM × Int :=
 if Am irb n.irbs.length = false ∨ Ah n = false then (0,noF,2)
 else if f.typ ≠ 2048 then (0,noF,11)
 else if (ipTakeT f.body).2 ≠ 0 then (0,noF,(ipTakeT f.body).2)
 else if (ipTakeT f.body).1.ttl ≤ 1 then (0,noF,13)
 else if (lookT n irb (ipTakeT f.body).1.dst).2 = false then (0,noF,31)
 else if 1480 < (ipTakeT f.body).1.body.length then (0,noF,14)
 else ((nth n.irbs (lookT n irb (ipTakeT f.body).1.dst).1).domain,
  ⟨Ej (ipTakeT f.body).1.dst,Ej (nth n.irbs (lookT n irb (ipTakeT f.body).1.dst).1).addr,2048,Ts (Aem (ipTakeT f.body).1)⟩,0)
structure OutM where
 kind:Int
 port:Int
 domain:Int
 bytes:List UInt8
 frame:FrameM
 error:Int
def Bg (o:OutM):SV:=.agg [Aa o.kind,Aa o.port,Aa o.domain,.sl 1 Aj o.bytes,Ay o.frame.dst,Ay o.frame.src,Aa o.frame.typ,.sl 1 Aj o.frame.body,Aa o.error]
def learnQ (t:List EntryM) (q:QueuedM) (now:Int):List EntryM :=
 if q.from_ = -2 then t else learnT t q.frame.src (if q.from_ = -1 then -1 - q.peer else q.from_) now
def Dz (o:OutM) (r:List UInt8 × Int):OutM:=if r.2 ≠ 0 then ⟨5,o.port,o.domain,[],o.frame,r.2⟩ else ⟨o.kind,o.port,o.domain,r.1,o.frame,o.error⟩
def Et (n:Net) (dom:Int) (f:FrameM) (p:Int):OutM:=Dz ⟨if (nth n.ports p).link < 0 then 1 else 2,p,0,[],noF,0⟩ (leaveT n p dom f)
def Hq (n:Net) (dom:Int) (f:FrameM) (p:Int):OutM:=Dz ⟨3,0,p,[],noF,0⟩ (meshT n dom p f)
def bridgeT (n:Net) (fw:List Bool) (t:List EntryM) (dom:Int) (q:QueuedM) (now:Int):List EntryM × List OutM × Int :=
 if roomB n fw dom q.from_ = false ∨ tableB t = false then ([],[],2)
 else if (routerT n dom q.frame.dst).2 = true then
  (if (hopT n (routerT n dom q.frame.dst).1 q.frame).2.2 ≠ 0 then (learnQ t q now,[],(hopT n (routerT n dom q.frame.dst).1 q.frame).2.2)
   else (learnQ t q now,[⟨4,0,(hopT n (routerT n dom q.frame.dst).1 q.frame).1,[],(hopT n (routerT n dom q.frame.dst).1 q.frame).2.1,0⟩],0))
 else (learnQ t q now,(decideT n fw (learnQ t q now) dom q.from_ q.frame.dst).1.map (Et n dom q.frame) ++ (decideT n fw (learnQ t q now) dom q.from_ q.frame.dst).2.1.map (Hq n dom q.frame),0)
end Go.Sy.YtmelpejjondedaaGreat
namespace Go.Sy
theorem Good.dataT {P:Program} {o:Oper} {s:SS} {d sz:Nat} {ks:List Nat} {k:Option Nat} {α:Type} {e:α → SV} {l:List α} (h:Good P o s ⟨.osl d,ks,Ew k d (.row sz e l)⟩) :
  Good P o s ⟨.sl sz e l,ks,Ew k d .non⟩:=fun κ a w hi hr ho N Q hN=>by
 have hws:Up.ws ⟨SV.osl d,ks,Ew k d (.row sz e l)⟩ = Up.ws ⟨SV.sl sz e l,ks,Ew k d .non⟩:=by
  cases k <;> rfl
 refine h κ a w hi hr (fun j hj=>ho j (by rw [← hws]; exact hj)) N Q fun v κ' w' st inv hv hob=>?_
 have hmem:d ∈ Up.ws ⟨SV.sl sz e l,ks,Ew k d .non⟩:=by cases k <;> simp [Up.ws,Ew]
 have hrow:ObOK κ' w' d (.row sz e l):=hob (d,.row sz e l) (by cases k <;> simp [Ew])
 have st2:=Hl (κ:=κ') (w:=w') (some d)
 have inv2:=I0 inv (some d)
 have hx:Rd (C4 κ' d .dead) w' (.sl sz e l) v:=by
  rcases hrow with ⟨h1,rfl⟩ | h1
  ·simp only [Rd,h1] at hv
   simp only [Rd,RdD]
   exact .inl ⟨by simp,none,0,hv⟩
  ·refine h1.freeze hv st2.keeps.out (fun b hb=>⟨inv.bnd d b hb,?_⟩)
   rintro (⟨q,hq⟩ | hq)
   ·by_cases hqd:q = d
    ·subst hqd; rw [A1] at hq; cases hq
    ·rw [B9 _ _ hqd] at hq
     exact hqd (inv.inj q d b hq hb)
   ·exact inv.apart d b hb hq
 refine hN v _ w' ((st.weaken (fun j hj=>by rw [← hws]; exact hj)).trans (st2.weaken (fun j hj=>by cases hj; exact hmem))) inv2 hx (fun x hxm=>?_)
 have:x.2 = .non:=by
  cases k with
  | none=>have:=List.mem_singleton.1 hxm; rw [this]
  | some j =>
   rcases List.mem_cons.1 hxm with h1 | h1
   ·rw [h1]
   ·have:=List.mem_singleton.1 h1; rw [this]
 rw [this]
 trivial
end Go.Sy
namespace Go.Sy
open Go.ChangeShapes Go.WideShapes Go.ChangeAt Go.RowKit
def κ0:Ka:=⟨fun _=>.new,fun _=>False⟩
theorem inv0 (w:World):Inv κ0 w :=
 ⟨fun i j b h=>(by cases h),fun k b h=>(by cases h),fun k b h=>(by cases h),fun b h=>False.elim h⟩
theorem Aci {w w':World} {κ':Ka} (c:Ctx ⟨w,κ0⟩ κ' w'):Below w.heap.size w w' :=
 ⟨c.os,c.tape,c.output,c.size,fun k hk=>c.old k hk (fun j h=>by cases h)⟩
section
variable {H:Type} {enc:TypeId × Value → H} {P:Program}
theorem Qo {W W':World} (hl:laidOutB P = true) (hb:Below W.heap.size W W'):∀ {ts:List TypeId} {vs:List Value} {ds:List (DataW H)} {ps:List MemPlace},(∀ t ∈ ts,P.readableRec t = true ∧ t < P.types.size) →
  (∀ x ∈ ps,x.block < W.heap.size) → DataW.TrodAll enc P W 0 (fun _=>true) true ts vs ds ps → DataW.TrodAll enc P W' 0 (fun b=>decide (b < W.heap.size)) true ts vs ds ps
 | [],_,_,_,_,_,h=>by
  obtain ⟨rfl,rfl,rfl⟩:=trodAll_nil h
  rfl
 | t :: ts,_,_,_,ht,hp,h=>by
  obtain ⟨v,vs,d,ds,p,q,rfl,rfl,rfl,h1,h2⟩:=trodAll_cons h
  have:=ht t (by simp)
  exact ⟨p,q,Below.trod hl this.1 this.2 h1 hb (fun x hx=>hp x (by simp [hx])),Qo hl hb (fun t h=>ht t (by simp [h])) (fun x hx=>hp x (by simp [hx])) h2,E⟩
theorem Ak4 {f:FuncId} {fn:Func} {s:ChangeSpec} {W:World} {args:Array Value} {ds gs:List (DataW H)} {before:List MemPlace} {tb:TypeId} {A:List SV} (hv:s.vars = []) (hl:laidOutB P = true)
  (hW:DataW.Whole enc P fn.params.toList s.vars false W args.toList ds gs before) (hts:∀ t ∈ fn.params.toList,P.readableRec t = true ∧ t < P.types.size) (hrt:fn.resultTypes = #[tb]) (hbt:P.underlying tb = some .bool)
  (hfn:∀ gs:List (DataW H),gs = [] → s.fn H (ds ++ gs) = { results:=[.lit (.bool true)],args:=ds }) (hA:RdL κ0 W A args.toList) (hs:Sy.Spec P f A [] (Ad true) []) :
  Calls P f args W fun e W'=>∃ v,e = .returned v ∧ s.post enc P fn false true false false W args v W':=by
 have hc:=hs κ0 W args.toList (inv0 W) (fun k hk=>absurd rfl hk) hA (fun p hp=>by cases hp)
 simp only [Array.toArray_toList] at hc
 refine hc.mono ?_
 rintro e W' ⟨v,κ',rfl,ctx,inv,hR,_⟩
 have hvv:v = .bool true:=by simpa [Ad,Rd] using hR
 subst hvv
 have hb:=Aci ctx
 have hW':=hW
 obtain ⟨p,q,h1,h2,h3,h4,h5⟩:=hW
 have hgs:gs = [] ∧ q = []:=by
  rw [hv] at h2
  exact trodVars_none h2
 obtain ⟨rfl,rfl⟩:=hgs
 rw [List.append_nil] at h3
 subst h3
 have hlt:∀ x ∈ before,x.block < W.heap.size:=fun x hx=>by simpa using hW'.lt x hx
 refine ⟨_,rfl,ds,[],before,[],before,[],hW',?_,?_,?_,?_,fun h=>by cases h⟩
 ·rw [hfn [] rfl,hrt]
  exact trodAll_mk1 (shut_bool hbt true)
 ·rw [hfn [] rfl]
  exact Qo hl hb hts hlt h1
 ·rw [hv,hfn [] rfl]
  rfl
 ·exact hb.frame _
end
end Go.Sy
namespace Go.Sy
theorem Mk {P:Program} (Γ:Ty P) {o:Oper} {s:SS} {t:TypeId} {ti:TI} {et:TypeId} {len esz sz g:Nat} {y:Operand} {ik:IntKind} {n:Int} {z:SV} (k:Nat)
  (h:o.op = .indexAddr t (.global g) y) (ht:Γ.get t = some ti) (hk:ti.k = .array et len esz) (hb:s.h k = .glob sz z g) (hy:ev s y = .val (.int ik n)) (h0:0 ≤ n) (hn:n.toNat < len) :
  Good P o s ⟨.ref sz z (n.toNat * esz),[k],[]⟩ :=
 Good.pure fun κ a w _ hr ho=>by
  have h1:=ho k (by simp)
  have h2:=hr y (by simp [h,Op.operands])
  rw [hb] at h1
  rw [hy] at h2
  simp only [ObOK,Rd,RdD] at h1
  obtain ⟨b,oo,u,e1,e2,e3,e4,e5⟩:=h1
  obtain ⟨hu,i,q1,q2⟩:=Ov Γ ht hk
  simp only [Nat.add_zero,Value.pointer.injEq,Option.some.injEq,Addr.mk.injEq,and_true] at e1
  obtain ⟨rfl,rfl⟩:=e1
  refine ⟨.pointer (some ⟨g,0 + n.toNat * esz,none⟩),?_,?_⟩
  ·have hg:a.eval (.global g) = .pointer (some ⟨g,0,none⟩):=rfl
   simp only [execOp,h,hg,h2.val]
   simp [Lw w hu q1 q2 h0 hn]
  ·simp only [Rd,RdD]
   exact ⟨g,0,u,E,e2,e3,e4,e5⟩
theorem Ob.shp_glob {x:Ob} {sz g:Nat} {z:SV} (h:x.shp = (Ob.glob sz z g).shp):x = .glob sz z g:=by
 cases x <;> simp_all [Ob.shp]
theorem GoodX.glob {P:Program} (Γ:Ty P) {o:Oper} {s:SS} {t:TypeId} {ti:TI} {et:TypeId} {len esz sz g:Nat} {y:Operand} {ik:IntKind} {n:Int} {z:SV} (k:Nat)
  (h:o.op = .indexAddr t (.global g) y) (ht:Γ.get t = some ti) (hk:ti.k = .array et len esz) (hb:s.h k = .glob sz z g) (hy:ev s y = .val (.int ik n)) (h0:0 ≤ n) (hn:n.toNat < len) :
  GoodX P o s ⟨.ref sz z (n.toNat * esz),[k],[]⟩ where
 good:=(Mk Γ k h ht hk hb hy h0 hn).two
 idx _:=⟨rfl,fun s' h1 h2=>Mk Γ k h ht hk (Ob.shp_glob ((h2 k (by simp)).trans (congrArg Ob.shp hb))) ((h1 y (by simp [h,Op.operands])).trans hy) h0 hn⟩
 st hs:=by simp [L9,h] at hs
section
open Go.ChangeShapes Go.WideShapes Go.ChangeAt Go.RowKit
variable {H:Type} {enc:TypeId × Value → H} {P:Program}
end
end Go.Sy
namespace Go.Sy
theorem Hd {P:Program} (Γ:Ty P) {o:Oper} {s:SS} {t:TypeId} {ti:TI} {et:TypeId} {len:Nat} {x y:Operand} {ik:IntKind} {n:Int} {l:List SV} {z:SV} {k:EK} (h:o.op = .index t x y) (ht:Γ.get t = some ti) (hk:ti.k = .array et len 1)
  (he:P.underlying et = some (EK.desc k)) (hx:ev s x = .agg l) (hy:ev s y = .val (.int ik n)) (h0:0 ≤ n) (hn:n.toNat < len) (hz:D9 l n.toNat = some z):Good P o s ⟨z,[],[]⟩ :=
 Good.pure fun κ a w _ hr _=>by
  have h1:=hr x (by simp [h,Op.operands])
  have h2:=hr y (by simp [h,Op.operands])
  rw [hx] at h1
  rw [hy] at h2
  simp only [Rd] at h1
  obtain ⟨cs,e1,_,e2⟩:=h1
  obtain ⟨v,e3,e4⟩:=e2.getT hz
  obtain ⟨hu,i,q1,q2⟩:=Ov Γ ht hk
  have hp:=Xb (P:=P) w he cs.toArray e3
  have hlt:n < len:=by omega
  refine ⟨v,?_,e4⟩
  simp [execOp,h,e1,h2.val,Instr.index,run_underlying hu,asIntOf,h0,hlt,sizeOf,typeInfo,q1,q2,hp]
theorem Av {C:Cx} {k:List KI} {s:SS} (d:Nat) (l':List SV) {l:List SV} (h:s.h d = .box l) (hv:VwL s [] l l') (hg:G C k ⟨s.σ,upd s.h d (.box l')⟩):G C k s:=fun κ a w hs =>
 hg κ a w ⟨hs.defers,hs.size,hs.inv,hs.ctx,hs.slot,fun i=>by
  show ObOK κ w i (upd s.h d (.box l') i)
  by_cases hi:i = d
  ·subst hi
   rw [Bs]
   have:=hs.obj i
   rw [h] at this
   obtain ⟨b,cs,T,fr,e1,e2,e3,e4,e5⟩:=this
   exact ⟨b,cs,T,fr,e1,e2,e3,e4,VwL.rd hs.inv (fun _ hn=>by cases hn) hv e5⟩
  ·rw [Cf _ _ hi]; exact hs.obj i⟩
end Go.Sy
namespace Go.Sy.YtmelpejjondedaaGreat
open Go.Proofs
attribute [local irreducible] Go.Sy.G Go.Sy.DR
set_option maxRecDepth 100000
set_option maxHeartbeats 4000000
theorem O4 {κ:Ka} {w:World} {k sz:Nat} {α:Type} {e:α → SV} {l:List α} (hne:l ≠ []) (h:ObOK κ w k (.row sz e l)):∃ b n c,κ k = .row b n c:=by
 rcases h with ⟨_,h⟩ | ⟨b,cap,_,_,_,h,_⟩
 ·exact absurd h hne
 ·exact ⟨b,_,cap,h⟩
theorem Acg (l:List Device) (hl:l.length < 2147483648):Sy.Spec Tryz.prog 87 [.sl 5 Br l] [] (.sl 5 Br l) []:=Ab Γ hm 100 F87 Tryz.ntmps87 rfl fun F hF=>by
 conv=>whnf
 refine D1 E (.inl E) E E E .sl E E ?_
 intro b hb
 cases b
 ·(refine rg ?_;(conv=>whnf);refine aF ?_;refine rg ?_;conv=>whnf)
  refine Ai (Af Γ.toTy 7 E E E E E (.lit (e:=Br) (l:=[]) E E) .sl (by simp) (by simp; omega) (by simp; omega)) E E ?_
  refine As 7 E ?_
  refine rg ?_;conv=>whnf
  exact Ac E (.cons .tmp .nil) E E
 ·have h0:l = []:=List.eq_nil_of_length_eq_zero (hb rfl)
  subst h0
  (refine rg ?_;(conv=>whnf);refine aT ?_;refine rg ?_;conv=>whnf)
  refine An 2 5 Br E ?_
  exact Ac E (.cons .tmp .nil) E E
theorem Ah4 (l:List Link) (hl:l.length < 2147483648):Sy.Spec Tryz.prog 89 [.sl 3 Cp l] [] (.sl 3 Cp l) []:=Ab Γ hm 100 F89 Tryz.ntmps89 rfl fun F hF=>by
 conv=>whnf
 refine D1 E (.inl E) E E E .sl E E ?_
 intro b hb
 cases b
 ·(refine rg ?_;(conv=>whnf);refine aF ?_;refine rg ?_;conv=>whnf)
  refine Ai (Af Γ.toTy 7 E E E E E (.lit (e:=Cp) (l:=[]) E E) .sl (by simp) (by simp; omega) (by simp; omega)) E E ?_
  refine As 7 E ?_
  refine rg ?_;conv=>whnf
  exact Ac E (.cons .tmp .nil) E E
 ·have h0:l = []:=List.eq_nil_of_length_eq_zero (hb rfl)
  subst h0
  (refine rg ?_;(conv=>whnf);refine aT ?_;refine rg ?_;conv=>whnf)
  refine An 2 3 Cp E ?_
  exact Ac E (.cons .tmp .nil) E E
theorem Acd (l:List Static) (hl:l.length < 2147483648):Sy.Spec Tryz.prog 91 [.sl 4 Bp l] [] (.sl 4 Bp l) []:=Ab Γ hm 100 F91 Tryz.ntmps91 rfl fun F hF=>by
 conv=>whnf
 refine D1 E (.inl E) E E E .sl E E ?_
 intro b hb
 cases b
 ·(refine rg ?_;(conv=>whnf);refine aF ?_;refine rg ?_;conv=>whnf)
  refine Ai (Af Γ.toTy 7 E E E E E (.lit (e:=Bp) (l:=[]) E E) .sl (by simp) (by simp; omega) (by simp; omega)) E E ?_
  refine As 7 E ?_
  refine rg ?_;conv=>whnf
  exact Ac E (.cons .tmp .nil) E E
 ·have h0:l = []:=List.eq_nil_of_length_eq_zero (hb rfl)
  subst h0
  (refine rg ?_;(conv=>whnf);refine aT ?_;refine rg ?_;conv=>whnf)
  refine An 2 4 Bp E ?_
  exact Ac E (.cons .tmp .nil) E E
theorem Alm (l:List Irb) (hl:l.length < 2147483648):Sy.Spec Tryz.prog 94 [.sl 5 Dm l] [] (.sl 5 Dm l) []:=Ab Γ hm 100 F94 Tryz.ntmps94 rfl fun F hF=>by
 conv=>whnf
 refine D1 E (.inl E) E E E .sl E E ?_
 intro b hb
 cases b
 ·(refine rg ?_;(conv=>whnf);refine aF ?_;refine rg ?_;conv=>whnf)
  refine Ai (Af Γ.toTy 7 E E E E E (.lit (e:=Dm) (l:=[]) E E) .sl (by simp) (by simp; omega) (by simp; omega)) E E ?_
  refine As 7 E ?_
  refine rg ?_;conv=>whnf
  exact Ac E (.cons .tmp .nil) E E
 ·have h0:l = []:=List.eq_nil_of_length_eq_zero (hb rfl)
  subst h0
  (refine rg ?_;(conv=>whnf);refine aT ?_;refine rg ?_;conv=>whnf)
  refine An 2 5 Dm E ?_
  exact Ac E (.cons .tmp .nil) E E
theorem Lp (l:List Int) (hl:l.length < 2147483648):Sy.Spec Tryz.prog 95 [.sl 1 Aa l] [] (.sl 1 Aa l) []:=Ab Γ hm 100 F95 Tryz.ntmps95 rfl fun F hF=>by
 conv=>whnf
 refine D1 E (.inl E) E E E .sl E E ?_
 intro b hb
 cases b
 ·(refine rg ?_;(conv=>whnf);refine aF ?_;refine rg ?_;conv=>whnf)
  refine Ai (Af Γ.toTy 7 E E E E E (.lit (e:=Aa) (l:=[]) E E) .sl (by simp) (by simp; omega) (by simp; omega)) E E ?_
  refine As 7 E ?_
  refine rg ?_;conv=>whnf
  exact Ac E (.cons .tmp .nil) E E
 ·have h0:l = []:=List.eq_nil_of_length_eq_zero (hb rfl)
  subst h0
  (refine rg ?_;(conv=>whnf);refine aT ?_;refine rg ?_;conv=>whnf)
  refine An 2 1 Aa E ?_
  exact Ac E (.cons .tmp .nil) E E
theorem All (l:List Int) (hl:l.length < 2147483648):Sy.Spec Tryz.prog 96 [.sl 1 B0 l] [] (.sl 1 B0 l) []:=Ab Γ hm 100 F96 Tryz.ntmps96 rfl fun F hF=>by
 conv=>whnf
 refine D1 E (.inl E) E E E .sl E E ?_
 intro b hb
 cases b
 ·(refine rg ?_;(conv=>whnf);refine aF ?_;refine rg ?_;conv=>whnf)
  refine Ai (Af Γ.toTy 7 E E E E E (.lit (e:=B0) (l:=[]) E E) .sl (by simp) (by simp; omega) (by simp; omega)) E E ?_
  refine As 7 E ?_
  refine rg ?_;conv=>whnf
  exact Ac E (.cons .tmp .nil) E E
 ·have h0:l = []:=List.eq_nil_of_length_eq_zero (hb rfl)
  subst h0
  (refine rg ?_;(conv=>whnf);refine aT ?_;refine rg ?_;conv=>whnf)
  refine An 2 1 B0 E ?_
  exact Ac E (.cons .tmp .nil) E E
theorem Ah5 (l:List Bool) (hl:l.length < 2147483648):Sy.Spec Tryz.prog 55 [.sl 1 Ad l] [] (.sl 1 Ad l) []:=Ab Γ hm 100 F55 Tryz.ntmps55 rfl fun F hF=>by
 conv=>whnf
 refine D1 E (.inl E) E E E .sl E E ?_
 intro b hb
 cases b
 ·(refine rg ?_;(conv=>whnf);refine aF ?_;refine rg ?_;conv=>whnf)
  refine Ai (Af Γ.toTy 7 E E E E E (.lit (e:=Ad) (l:=[]) E E) .sl (by simp) (by simp; omega) (by simp; omega)) E E ?_
  refine As 7 E ?_
  refine rg ?_;conv=>whnf
  exact Ac E (.cons .tmp .nil) E E
 ·have h0:l = []:=List.eq_nil_of_length_eq_zero (hb rfl)
  subst h0
  (refine rg ?_;(conv=>whnf);refine aT ?_;refine rg ?_;conv=>whnf)
  refine An 2 1 Ad E ?_
  exact Ac E (.cons .tmp .nil) E E
theorem Ah3 (l:List Port) (hl:l.length < 2147483648):Sy.Spec Tryz.prog 88 [.sl 7 Bh l] [] (.osl 0) [(0,.row 7 Bh l)]:=Ab Γ hm 100 F88 Tryz.ntmps88 rfl fun F hF=>by
 conv=>whnf
 refine D1 E (.inl E) E E E .sl E E ?_
 intro b hb
 cases b
 ·(refine rg ?_;(conv=>whnf);refine aF ?_;refine rg ?_;conv=>whnf)
  refine Ai (Af Γ.toTy 7 E E E E E (.lit (e:=Bh) (l:=[]) E E) .sl (by simp) (by simp; omega) (by simp; omega)) E E ?_
  refine rg ?_;conv=>whnf
  exact done E (.cons .tmp .nil) [(0,7)] [(0,.row 7 Bh l)] (fun _ h=>h) E E ⟨Y,⟨.inl E,E,Y⟩,E,E⟩
 ·have h0:l = []:=List.eq_nil_of_length_eq_zero (hb rfl)
  subst h0
  (refine rg ?_;(conv=>whnf);refine aT ?_;refine rg ?_;conv=>whnf)
  refine Bt 2 1000 7 Bh E E ?_
  exact done E (.cons .tmp .nil) [(0,1000)] [(0,.row 7 Bh [])] (fun _ h=>h) E E ⟨Y,⟨.inl E,E,Y⟩,E,E⟩
theorem Acf (l:List Domain) (hl:l.length < 2147483648):Sy.Spec Tryz.prog 90 [.sl 6 A0 l] [] (.osl 0) [(0,.row 6 A0 l)]:=Ab Γ hm 100 F90 Tryz.ntmps90 rfl fun F hF=>by
 conv=>whnf
 refine D1 E (.inl E) E E E .sl E E ?_
 intro b hb
 cases b
 ·(refine rg ?_;(conv=>whnf);refine aF ?_;refine rg ?_;conv=>whnf)
  refine Ai (Af Γ.toTy 7 E E E E E (.lit (e:=A0) (l:=[]) E E) .sl (by simp) (by simp; omega) (by simp; omega)) E E ?_
  refine rg ?_;conv=>whnf
  exact done E (.cons .tmp .nil) [(0,7)] [(0,.row 6 A0 l)] (fun _ h=>h) E E ⟨Y,⟨.inl E,E,Y⟩,E,E⟩
 ·have h0:l = []:=List.eq_nil_of_length_eq_zero (hb rfl)
  subst h0
  (refine rg ?_;(conv=>whnf);refine aT ?_;refine rg ?_;conv=>whnf)
  refine Bt 2 1000 6 A0 E E ?_
  exact done E (.cons .tmp .nil) [(0,1000)] [(0,.row 6 A0 [])] (fun _ h=>h) E E ⟨Y,⟨.inl E,E,Y⟩,E,E⟩
theorem Afa (l:List Flood) (hl:l.length < 2147483648):Sy.Spec Tryz.prog 92 [.sl 4 B6 l] [] (.osl 0) [(0,.row 4 B6 l)]:=Ab Γ hm 100 F92 Tryz.ntmps92 rfl fun F hF=>by
 conv=>whnf
 refine D1 E (.inl E) E E E .sl E E ?_
 intro b hb
 cases b
 ·(refine rg ?_;(conv=>whnf);refine aF ?_;refine rg ?_;conv=>whnf)
  refine Ai (Af Γ.toTy 7 E E E E E (.lit (e:=B6) (l:=[]) E E) .sl (by simp) (by simp; omega) (by simp; omega)) E E ?_
  refine rg ?_;conv=>whnf
  exact done E (.cons .tmp .nil) [(0,7)] [(0,.row 4 B6 l)] (fun _ h=>h) E E ⟨Y,⟨.inl E,E,Y⟩,E,E⟩
 ·have h0:l = []:=List.eq_nil_of_length_eq_zero (hb rfl)
  subst h0
  (refine rg ?_;(conv=>whnf);refine aT ?_;refine rg ?_;conv=>whnf)
  refine Bt 2 1000 4 B6 E E ?_
  exact done E (.cons .tmp .nil) [(0,1000)] [(0,.row 4 B6 [])] (fun _ h=>h) E E ⟨Y,⟨.inl E,E,Y⟩,E,E⟩
theorem Alk (l:List Vrf) (hl:l.length < 2147483648):Sy.Spec Tryz.prog 93 [.sl 5 Cz l] [] (.osl 0) [(0,.row 5 Cz l)]:=Ab Γ hm 100 F93 Tryz.ntmps93 rfl fun F hF=>by
 conv=>whnf
 refine D1 E (.inl E) E E E .sl E E ?_
 intro b hb
 cases b
 ·(refine rg ?_;(conv=>whnf);refine aF ?_;refine rg ?_;conv=>whnf)
  refine Ai (Af Γ.toTy 7 E E E E E (.lit (e:=Cz) (l:=[]) E E) .sl (by simp) (by simp; omega) (by simp; omega)) E E ?_
  refine rg ?_;conv=>whnf
  exact done E (.cons .tmp .nil) [(0,7)] [(0,.row 5 Cz l)] (fun _ h=>h) E E ⟨Y,⟨.inl E,E,Y⟩,E,E⟩
 ·have h0:l = []:=List.eq_nil_of_length_eq_zero (hb rfl)
  subst h0
  (refine rg ?_;(conv=>whnf);refine aT ?_;refine rg ?_;conv=>whnf)
  refine Bt 2 1000 5 Cz E E ?_
  exact done E (.cons .tmp .nil) [(0,1000)] [(0,.row 5 Cz [])] (fun _ h=>h) E E ⟨Y,⟨.inl E,E,Y⟩,E,E⟩
theorem copyS (n:Net) (hn:n.Fin) :
  Sy.Spec Tryz.prog 45 [Ap n] [] (Ap n) []:=Ab Γ hm 100 F45 Tryz.ntmps45 rfl fun F hF=>by
 have h1:n.devices.length < 2147483648 ∧ n.ports.length < 2147483648 ∧ n.links.length < 2147483648 ∧ n.domains.length < 2147483648 ∧ n.statics.length < 2147483648 ∧ n.floods.length < 2147483648 ∧ n.vrfs.length < 2147483648 ∧ n.irbs.length < 2147483648:=⟨hn.devices,hn.ports,hn.links,hn.domains,hn.statics,hn.floods,hn.vrfs,hn.irbs⟩
 have h2:(∀ p ∈ n.ports,p.tagged.length < 2147483648) ∧ (∀ p ∈ n.domains,p.peers.length < 2147483648) ∧ (∀ p ∈ n.floods,p.addrs.length < 2147483648) ∧ (∀ p ∈ n.vrfs,p.imports.length < 2147483648 ∧ p.exports.length < 2147483648):=⟨hn.tagged,hn.peers,hn.addrs,fun v hv=>⟨hn.imports v hv,hn.exports v hv⟩⟩
 conv=>whnf
 refine At (Acg n.devices h1.1) F87 E E E (by kernel_rfl) E ?_
 refine rd (by kernel_rfl) ?_;conv=>whnf
 refine Bi (Ak [(0,14)] E F88 (Ah3 n.ports h1.2.1) E Y E ⟨.inr E,Y⟩) (by kernel_rfl) E ?_
 refine rd (by kernel_rfl) ?_;conv=>whnf
 refine At (Ah4 n.links h1.2.2.1) F89 E E E (by kernel_rfl) E ?_
 refine rd (by kernel_rfl) ?_;conv=>whnf
 refine Bi (Ak [(0,20)] E F90 (Acf n.domains h1.2.2.2.1) E Y E ⟨.inr E,Y⟩) (by kernel_rfl) E ?_
 refine rd (by kernel_rfl) ?_;conv=>whnf
 refine At (Acd n.statics h1.2.2.2.2.1) F91 E E E (by kernel_rfl) E ?_
 refine rd (by kernel_rfl) ?_;conv=>whnf
 refine Bi (Ak [(0,26)] E F92 (Afa n.floods h1.2.2.2.2.2.1) E Y E ⟨.inr E,Y⟩) (by kernel_rfl) E ?_
 refine rd (by kernel_rfl) ?_;conv=>whnf
 refine Bi (Ak [(0,29)] E F93 (Alk n.vrfs h1.2.2.2.2.2.2.1) E Y E ⟨.inr E,Y⟩) (by kernel_rfl) E ?_
 refine rd (by kernel_rfl) ?_;conv=>whnf
 refine At (Alm n.irbs h1.2.2.2.2.2.2.2) F94 E E E (by kernel_rfl) E ?_
 refine rd (by kernel_rfl) ?_;conv=>whnf
 refine ⟨(by kernel_rfl),?_⟩
 conv=>whnf
 refine Au n.ports.length (fun j=>[(2,.ptr 2 0),(3,.ptr 3 0),(36,Aa n.ports.length),(37,Aa j)]) (fun _=>[(2,.box [.val (.slice none 0 0),.val (.slice none 0 0),.val (.slice none 0 0),.val (.slice none 0 0),.val (.slice none 0 0),.val (.slice none 0 0),.val (.slice none 0 0),.val (.slice none 0 0)]),(3,.box [.sl 5 Br n.devices,.osl 14,.sl 3 Cp n.links,.osl 20,.sl 4 Bp n.statics,.osl 26,.osl 29,.sl 5 Dm n.irbs]),(14,.row 7 Bh n.ports),(20,.row 6 A0 n.domains),(26,.row 4 B6 n.floods),(29,.row 5 Cz n.vrfs)]) []
  ⟨⟨rfl,rfl,rfl,rfl,rfl,rfl,rfl,rfl,trivial⟩,⟨.inl rfl,rfl,.inl rfl,rfl,.inl rfl,rfl,.inl rfl,rfl,.inl rfl,rfl,.inl rfl,rfl,trivial⟩,rfl,rfl⟩ ?_
 intro j hj
 refine rg ?_;conv=>whnf
 refine ⟨fun h=>?_,fun h=>?_⟩
 ·have hlt:j < n.ports.length:=by simpa using h
  obtain ⟨p,hp⟩:∃ p,n.ports[(j:Int).toNat]'(by omega) = p:=⟨_,rfl⟩
  have hne:n.ports ≠ []:=fun e=>by rw [e] at hlt; cases hlt
  have hset:n.ports.set (j:Int).toNat p = n.ports:=by rw [← hp]; exact List.set_getElem_self _
  have hpl:=h2.1 p (by rw [← hp]; exact List.getElem_mem _)
  refine rg ?_;conv=>whnf
  refine ⟨by omega,by show _ < n.ports.length; omega,?_⟩
  conv=>whnf
  refine ⟨hne,?_⟩
  conv=>whnf
  refine ⟨E,by omega,?_⟩
  rw [hp]
  conv=>whnf
  refine At (Lp p.tagged hpl) F95 E E E (by kernel_rfl) E ?_
  refine rd (by kernel_rfl) ?_;conv=>whnf
  refine ⟨by omega,by show _ < n.ports.length; omega,?_⟩
  conv=>whnf
  refine ⟨hne,?_⟩
  conv=>whnf
  refine ⟨E,by omega,p,(by rw [hp]; rfl),(by rw [hp]; rfl),?_⟩
  conv=>whnf
  refine ⟨(by kernel_rfl),?_⟩
  conv=>whnf
  refine ⟨by unfold I64; omega,?_⟩
  conv=>whnf
  exact Ar [] hlt ⟨⟨E,E,E,E,E,E,E,E,Y⟩,⟨.inl E,E,.inl E,E,.inl (congrArg (Ob.row 7 Bh) hset.symm),E,.inl E,E,.inl E,E,.inl E,E,Y⟩,E,E⟩
 ·refine rg ?_;conv=>whnf
  refine Au n.domains.length (fun j=>[(2,.ptr 2 0),(3,.ptr 3 0),(55,Aa n.domains.length),(56,Aa j)]) (fun _=>[(2,.box [.val (.slice none 0 0),.val (.slice none 0 0),.val (.slice none 0 0),.val (.slice none 0 0),.val (.slice none 0 0),.val (.slice none 0 0),.val (.slice none 0 0),.val (.slice none 0 0)]),(3,.box [.sl 5 Br n.devices,.osl 14,.sl 3 Cp n.links,.osl 20,.sl 4 Bp n.statics,.osl 26,.osl 29,.sl 5 Dm n.irbs]),(14,.row 7 Bh n.ports),(20,.row 6 A0 n.domains),(26,.row 4 B6 n.floods),(29,.row 5 Cz n.vrfs)]) []
   ⟨⟨rfl,rfl,rfl,rfl,rfl,rfl,rfl,rfl,trivial⟩,⟨.inl rfl,rfl,.inl rfl,rfl,.inl rfl,rfl,.inl rfl,rfl,.inl rfl,rfl,.inl rfl,rfl,trivial⟩,rfl,rfl⟩ ?_
  intro j hj
  refine rg ?_;conv=>whnf
  refine ⟨fun h=>?_,fun h=>?_⟩
  ·have hlt:j < n.domains.length:=by simpa using h
   obtain ⟨p,hp⟩:∃ p,n.domains[(j:Int).toNat]'(by omega) = p:=⟨_,rfl⟩
   have hne:n.domains ≠ []:=fun e=>by rw [e] at hlt; cases hlt
   have hset:n.domains.set (j:Int).toNat p = n.domains:=by rw [← hp]; exact List.set_getElem_self _
   have hpl:=h2.2.1 p (by rw [← hp]; exact List.getElem_mem _)
   refine rg ?_;conv=>whnf
   refine ⟨by omega,by show _ < n.domains.length; omega,?_⟩
   conv=>whnf
   refine ⟨hne,?_⟩
   conv=>whnf
   refine ⟨E,by omega,?_⟩
   rw [hp]
   conv=>whnf
   refine At (Lp p.peers hpl) F95 E E E (by kernel_rfl) E ?_
   refine rd (by kernel_rfl) ?_;conv=>whnf
   refine ⟨by omega,by show _ < n.domains.length; omega,?_⟩
   conv=>whnf
   refine ⟨hne,?_⟩
   conv=>whnf
   refine ⟨E,by omega,p,(by rw [hp]; rfl),(by rw [hp]; rfl),?_⟩
   conv=>whnf
   refine ⟨(by kernel_rfl),?_⟩
   conv=>whnf
   refine ⟨by unfold I64; omega,?_⟩
   conv=>whnf
   exact Ar [] hlt ⟨⟨E,E,E,E,E,E,E,E,Y⟩,⟨.inl E,E,.inl E,E,.inl E,E,.inl (congrArg (Ob.row 6 A0) hset.symm),E,.inl E,E,.inl E,E,Y⟩,E,E⟩
  ·refine rg ?_;conv=>whnf
   refine Au n.floods.length (fun j=>[(2,.ptr 2 0),(3,.ptr 3 0),(74,Aa n.floods.length),(75,Aa j)]) (fun _=>[(2,.box [.val (.slice none 0 0),.val (.slice none 0 0),.val (.slice none 0 0),.val (.slice none 0 0),.val (.slice none 0 0),.val (.slice none 0 0),.val (.slice none 0 0),.val (.slice none 0 0)]),(3,.box [.sl 5 Br n.devices,.osl 14,.sl 3 Cp n.links,.osl 20,.sl 4 Bp n.statics,.osl 26,.osl 29,.sl 5 Dm n.irbs]),(14,.row 7 Bh n.ports),(20,.row 6 A0 n.domains),(26,.row 4 B6 n.floods),(29,.row 5 Cz n.vrfs)]) []
    ⟨⟨rfl,rfl,rfl,rfl,rfl,rfl,rfl,rfl,trivial⟩,⟨.inl rfl,rfl,.inl rfl,rfl,.inl rfl,rfl,.inl rfl,rfl,.inl rfl,rfl,.inl rfl,rfl,trivial⟩,rfl,rfl⟩ ?_
   intro j hj
   refine rg ?_;conv=>whnf
   refine ⟨fun h=>?_,fun h=>?_⟩
   ·have hlt:j < n.floods.length:=by simpa using h
    obtain ⟨p,hp⟩:∃ p,n.floods[(j:Int).toNat]'(by omega) = p:=⟨_,rfl⟩
    have hne:n.floods ≠ []:=fun e=>by rw [e] at hlt; cases hlt
    have hset:n.floods.set (j:Int).toNat p = n.floods:=by rw [← hp]; exact List.set_getElem_self _
    have hpl:=h2.2.2.1 p (by rw [← hp]; exact List.getElem_mem _)
    refine rg ?_;conv=>whnf
    refine ⟨by omega,by show _ < n.floods.length; omega,?_⟩
    conv=>whnf
    refine ⟨hne,?_⟩
    conv=>whnf
    refine ⟨E,by omega,?_⟩
    rw [hp]
    conv=>whnf
    refine At (All p.addrs hpl) F96 E E E (by kernel_rfl) E ?_
    refine rd (by kernel_rfl) ?_;conv=>whnf
    refine ⟨by omega,by show _ < n.floods.length; omega,?_⟩
    conv=>whnf
    refine ⟨hne,?_⟩
    conv=>whnf
    refine ⟨E,by omega,p,(by rw [hp]; rfl),(by rw [hp]; rfl),?_⟩
    conv=>whnf
    refine ⟨(by kernel_rfl),?_⟩
    conv=>whnf
    refine ⟨by unfold I64; omega,?_⟩
    conv=>whnf
    exact Ar [] hlt ⟨⟨E,E,E,E,E,E,E,E,Y⟩,⟨.inl E,E,.inl E,E,.inl E,E,.inl E,E,.inl (congrArg (Ob.row 4 B6) hset.symm),E,.inl E,E,Y⟩,E,E⟩
   ·refine rg ?_;conv=>whnf
    refine Au n.vrfs.length (fun j=>[(2,.ptr 2 0),(3,.ptr 3 0),(93,Aa n.vrfs.length),(94,Aa j)]) (fun _=>[(2,.box [.val (.slice none 0 0),.val (.slice none 0 0),.val (.slice none 0 0),.val (.slice none 0 0),.val (.slice none 0 0),.val (.slice none 0 0),.val (.slice none 0 0),.val (.slice none 0 0)]),(3,.box [.sl 5 Br n.devices,.osl 14,.sl 3 Cp n.links,.osl 20,.sl 4 Bp n.statics,.osl 26,.osl 29,.sl 5 Dm n.irbs]),(14,.row 7 Bh n.ports),(20,.row 6 A0 n.domains),(26,.row 4 B6 n.floods),(29,.row 5 Cz n.vrfs)]) []
     ⟨⟨rfl,rfl,rfl,rfl,rfl,rfl,rfl,rfl,trivial⟩,⟨.inl rfl,rfl,.inl rfl,rfl,.inl rfl,rfl,.inl rfl,rfl,.inl rfl,rfl,.inl rfl,rfl,trivial⟩,rfl,rfl⟩ ?_
    intro j hj
    refine rg ?_;conv=>whnf
    refine ⟨fun h=>?_,fun h=>?_⟩
    ·have hlt:j < n.vrfs.length:=by simpa using h
     obtain ⟨p,hp⟩:∃ p,n.vrfs[(j:Int).toNat]'(by omega) = p:=⟨_,rfl⟩
     have hne:n.vrfs ≠ []:=fun e=>by rw [e] at hlt; cases hlt
     have hset:n.vrfs.set (j:Int).toNat p = n.vrfs:=by rw [← hp]; exact List.set_getElem_self _
     have hpl:=h2.2.2.2 p (by rw [← hp]; exact List.getElem_mem _)
     refine rg ?_;conv=>whnf
     have hne2:n.vrfs.set (j:Int).toNat p ≠ []:=by rw [hset]; exact hne
     have hp2:(n.vrfs.set (j:Int).toNat p)[(j:Int).toNat]'(by rw [hset]; omega) = p:=by simp
     have hset2:(n.vrfs.set (j:Int).toNat p).set (j:Int).toNat p = n.vrfs:=by rw [hset,hset]
     refine ⟨by omega,by show _ < n.vrfs.length; omega,?_⟩
     conv=>whnf
     refine Bi (Dj E (.inr (.inr (.inr ⟨29,5,_,0,E,fun κ w h=>O4 hne h,E⟩)))) (by kernel_rfl) E ?_
     refine rd (by kernel_rfl) ?_;conv=>whnf
     refine ⟨hne,?_⟩
     conv=>whnf
     refine ⟨E,by omega,?_⟩
     rw [hp]
     conv=>whnf
     refine At (Lp p.imports hpl.1) F95 E E E (by kernel_rfl) E ?_
     refine rd (by kernel_rfl) ?_;conv=>whnf
     refine Bi (Dj E (.inr (.inr (.inr ⟨29,5,_,0,E,fun κ w h=>O4 hne h,E⟩)))) (by kernel_rfl) E ?_
     refine rd (by kernel_rfl) ?_;conv=>whnf
     refine ⟨hne,?_⟩
     conv=>whnf
     refine ⟨E,by omega,?_⟩
     rw [hp]
     conv=>whnf
     refine At (Lp p.exports hpl.2) F95 E E E (by kernel_rfl) E ?_
     refine rd (by kernel_rfl) ?_;conv=>whnf
     refine Bi (Dj E (.inr (.inr (.inr ⟨29,5,_,0,E,fun κ w h=>O4 hne h,E⟩)))) (by kernel_rfl) E ?_
     refine rd (by kernel_rfl) ?_;conv=>whnf
     refine ⟨hne,?_⟩
     conv=>whnf
     refine ⟨E,by omega,p,(by rw [hp]; rfl),(by rw [hp]; rfl),?_⟩
     conv=>whnf
     refine Bi (Dj E (.inr (.inr (.inr ⟨29,5,_,0,E,fun κ w h=>O4 hne2 h,E⟩)))) (by kernel_rfl) E ?_
     refine rd (by kernel_rfl) ?_;conv=>whnf
     refine ⟨hne2,?_⟩
     conv=>whnf
     refine ⟨E,by rw [hset]; omega,p,(by rw [hp2]; rfl),(by rw [hp2]; rfl),?_⟩
     conv=>whnf
     refine ⟨(by kernel_rfl),?_⟩
     conv=>whnf
     refine ⟨by unfold I64; omega,?_⟩
     conv=>whnf
     exact Ar [] hlt ⟨⟨E,E,E,E,E,E,E,E,Y⟩,⟨.inl E,E,.inl E,E,.inl E,E,.inl E,E,.inl E,E,.inl (congrArg (Ob.row 5 Cz) hset2.symm),E,Y⟩,E,E⟩
    ·refine rg ?_;conv=>whnf
     refine As 14 E ?_
     refine As 20 E ?_
     refine As 26 E ?_
     refine As 29 E ?_
     exact Ac E (.cons (.cell E E E E) .nil) E E
theorem Md (l:List UInt8) (hl:l.length < 2147483648):Sy.Spec Tryz.prog 63 [.sl 1 Aj l] [] (.sl 1 Aj l) []:=Ab Γ hm 100 F63 Tryz.ntmps63 rfl fun F hF=>by
 conv=>whnf
 refine D1 E (.inl E) E E E .sl E E ?_
 intro b hb
 cases b
 ·(refine rg ?_;(conv=>whnf);refine aF ?_;refine rg ?_;conv=>whnf)
  refine Ai (Af Γ.toTy 7 E E E E E (.lit (e:=Aj) (l:=[]) E E) .sl (by simp) (by simp; omega) (by simp; omega)) E E ?_
  refine As 7 E ?_
  refine rg ?_;conv=>whnf
  exact Ac E (.cons .tmp .nil) E E
 ·have h0:l = []:=List.eq_nil_of_length_eq_zero (hb rfl)
  subst h0
  (refine rg ?_;(conv=>whnf);refine aT ?_;refine rg ?_;conv=>whnf)
  refine An 2 1 Aj E ?_
  exact Ac E (.cons .tmp .nil) E E
theorem cut6 (b:List UInt8) (k j:Nat) (hj:j < 6) (h:k + 6 ≤ b.length):Ey (((b.drop k).take 6).take (j + 1)) = Ey (((b.drop k).take 6).take j) * 256 + (b[k + j]'(by omega)).toNat:=by
 rw [Un _ (by rw [List.length_take,List.length_drop]; omega)]
 congr 2
 rw [List.getElem_take,List.getElem_drop]
theorem Ad6 (b:List UInt8) (k:Nat) (h:k + 6 ≤ b.length) (hb:b.length < 100000):Sy.Spec Tryz.prog 237 [.sl 1 Aj b,Aa k] [] (.tup [Ay (Ey ((b.drop k).take 6)),Ad true]) []:=Ab Γ hm 100 F237 Tryz.ntmps237 rfl fun F hF=>by
 ((conv=>whnf);refine aF ?_;refine rg ?_;conv=>whnf)
 refine ⟨by unfold I64; omega,?_⟩
 conv=>whnf
 (refine ⟨fun h=>False.elim (by simp at h; omega),fun _=>?_⟩;refine rg ?_;conv=>whnf)
 refine Au 6 (fun j=>[(0,.sl 1 Aj b),(1,Aa k),(6,Ay (Ey (((b.drop k).take 6).take j))),(17,Aa j)]) (fun _=>[]) [] ⟨⟨E,E,E,E,E,E,E,E,Y⟩,Y,E,E⟩ ?_
 intro j hj
 have hlt2:=Je _ (((b.drop k).take 6).take j) rfl
 refine rg ?_;conv=>whnf
 refine ⟨fun h2=>?_,fun h2=>?_⟩
 ·have hj6:j < 6:=by have:=of_decide_eq_true h2; omega
  have hs:=cut6 b k j hj6 h
  have hll:(((b.drop k).take 6).take j).length = j:=by rw [List.length_take,List.length_take,List.length_drop]; omega
  rw [hll] at hlt2
  have h5:Ey (((b.drop k).take 6).take j) < 1099511627776:=Nat.lt_of_lt_of_le hlt2 (by
   have:(256:Nat) ^ j ≤ 256 ^ 5:=Nat.pow_le_pow_right (by decide) (by omega)
   exact this)
  have hi0:((k:Int) + (j:Int)).toNat < b.length:=by omega
  obtain ⟨c,hc⟩:∃ c,b[((k:Int) + (j:Int)).toNat]'hi0 = c:=⟨_,rfl⟩
  have hc':b[k + j]'(by omega) = c:=by rw [← hc]; congr 1
  rw [hc'] at hs
  have hcat:=Ao8 _ c h5
  refine rg ?_;conv=>whnf
  refine ⟨by decide,?_⟩
  conv=>whnf
  refine ⟨by unfold I64; omega,?_⟩
  conv=>whnf
  refine ⟨E,by omega,hi0,?_⟩
  rw [hc]
  conv=>whnf
  refine ⟨by unfold I64; omega,?_⟩
  conv=>whnf
  exact Ar [] hj6 ⟨⟨E,E,E,E,congrArg (fun z:Int=>SV.val (.int .u64 z)) (hcat.trans (congrArg Int.ofNat hs.symm)).symm,E,E,E,Y⟩,Y,E,E⟩
 ·have hj6:j = 6:=by have:=of_decide_eq_false h2; omega
  subst hj6
  rw [List.take_take,Nat.min_self]
  refine rg ?_;conv=>whnf
  exact Ac E (.cons .tmp (.cons .tmp .nil)) E E
theorem Abg (l:List UInt8) (h:l.length ≤ 6):Sy.Spec Tryz.prog 208 [.sl 1 Aj l] [] (Ay (Ey l)) []:=Ab Γ hm 100 F208 Tryz.ntmps208 rfl fun F hF=>by
 conv=>whnf
 refine Au l.length (fun j=>[(0,.sl 1 Aj l),(3,Ay (Ey (l.take j))),(4,Aa j)]) (fun _=>[]) [] ⟨⟨E,E,E,E,E,E,Y⟩,Y,E,E⟩ ?_
 intro j hj
 have hlt2:=Je _ (l.take j) rfl
 refine rg ?_;conv=>whnf
 refine ⟨fun h2=>?_,fun h2=>?_⟩
 ·have hlt:j < l.length:=by have:=of_decide_eq_true h2; omega
  have hj0:((j:Nat):Int).toNat < l.length:=by simpa using hlt
  have hs:=Un l hlt
  have hll:(l.take j).length = j:=by rw [List.length_take]; omega
  rw [hll] at hlt2
  have h5:Ey (l.take j) < 1099511627776:=Nat.lt_of_lt_of_le hlt2 (by
   have:(256:Nat) ^ j ≤ 256 ^ 5:=Nat.pow_le_pow_right (by decide) (by omega)
   exact this)
  obtain ⟨c,hc⟩:∃ c,l[((j:Nat):Int).toNat]'hj0 = c:=⟨_,rfl⟩
  have hc':l[j] = c:=hc
  rw [hc'] at hs
  have hcn:=c.toNat_lt
  generalize Ey (l.take j) = m at *
  refine rg ?_;conv=>whnf
  refine ⟨E,by omega,hj0,?_⟩
  rw [hc]
  conv=>whnf
  refine ⟨by unfold I64; omega,?_⟩
  conv=>whnf
  refine Ar [] hlt ⟨⟨E,E,congrArg (fun z:Int=>SV.val (.int .u64 z)) ?_,E,E,E,Y⟩,Y,E,E⟩
  rw [hs,IntKind.wrap_u64,IntKind.wrap_u64,IntKind.wrap_u64]
  omega
 ·have hje:j = l.length:=by have:=of_decide_eq_false h2; omega
  subst hje
  rw [List.take_length]
  refine rg ?_;conv=>whnf
  exact Ac E (.cons .tmp .nil) E E
theorem Xl (b:List UInt8) (k:Nat) (h:k + 6 ≤ b.length) (hb:b.length < 100000):Sy.Spec Tryz.prog 140 [.sl 1 Aj b,Aa k] [] (.tup [Ay (Ey ((b.drop k).take 6)),Ad true]) []:=Ab Γ hm 100 F140 Tryz.ntmps140 rfl fun F hF=>by
 have e:(b.take (k + 6)).drop k = (b.drop k).take 6:=by rw [List.drop_take]; congr 1; omega
 have q:=Abg ((b.take (k + 6)).drop k) (by rw [e,List.length_take]; omega)
 rw [← e]
 ((conv=>whnf);refine aF ?_;refine rg ?_;conv=>whnf)
 (refine ⟨fun h=>False.elim (by simp at h; omega),fun _=>?_⟩;refine rg ?_;conv=>whnf)
 refine ⟨by unfold I64; omega,?_⟩
 conv=>whnf
 (refine ⟨fun h=>False.elim (by simp at h; omega),fun _=>?_⟩;refine rg ?_;conv=>whnf)
 refine ⟨by unfold I64; omega,?_⟩
 conv=>whnf
 refine Ai (Bb (lo:=k) (hi:=k + 6) Γ.toTy E E E E (.inr ⟨_,_,E,E⟩) (.inr ⟨_,_,E,E⟩) (by omega) h) E E ?_
 refine rg ?_;conv=>whnf
 refine Ag q F208 E E E E E ?_
 refine rg ?_;conv=>whnf
 exact Ac E (.cons .tmp (.cons .tmp .nil)) E E
theorem Ww (a b:UInt8):Ey [a,b] = a.toNat * 256 + b.toNat:=by simp [Ey]
theorem Mq {b:List UInt8} {k:Nat} (h:k + 2 ≤ b.length):(b.drop k).take 2 = [b[k]'(by omega),b[k + 1]'(by omega)]:=by
 rw [List.drop_eq_getElem_cons (by omega:k < b.length),List.drop_eq_getElem_cons (by omega:k + 1 < b.length)]; rfl
theorem Sm (b:List UInt8) (hb:b.length < 100000):Sy.Spec Tryz.prog 165 [.sl 1 Aj b] [] (.tup [Bc (takeF b).1,Aa (takeF b).2]) []:=Ab Γ hm 100 F165 Tryz.ntmps165 rfl fun F hF=>by
 have hres:=takeF.eq_1 b
 generalize takeF b = res at *
 conv=>whnf
 refine ⟨fun h=>?_,fun h=>?_⟩
 ·rw [if_pos (by have:=of_decide_eq_true h; omega)] at hres
  subst hres
  refine rg ?_;conv=>whnf
  refine Av 2 [Ay 0,Ay 0,Aa 0,.sl 1 Aj []] E (.cons (.refl _) (.cons (.refl _) (.cons (.refl _) (.cons .nil .nil)))) ?_
  exact Ac E (.cons (.cell E E E E) (.cons .tmp .nil)) E E
 rw [if_neg (by have:=of_decide_eq_false h; omega)] at hres
 have h14:14 ≤ b.length:=by have:=of_decide_eq_false h; omega
 refine rg ?_;conv=>whnf
 refine ⟨fun h=>?_,fun h=>?_⟩
 ·rw [if_pos (by have:=of_decide_eq_true h; omega)] at hres
  subst hres
  refine rg ?_;conv=>whnf
  refine Av 2 [Ay 0,Ay 0,Aa 0,.sl 1 Aj []] E (.cons (.refl _) (.cons (.refl _) (.cons (.refl _) (.cons .nil .nil)))) ?_
  exact Ac E (.cons (.cell E E E E) (.cons .tmp .nil)) E E
 rw [if_neg (by have:=of_decide_eq_false h; omega)] at hres
 have q1:=Ad6 b 0 (by omega) hb
 have q2:=Ad6 b 6 (by omega) hb
 rw [Mq (by omega),Ww] at hres
 have hp:=Ev (b[12]'(by omega)) (b[13]'(by omega))
 have hdl:(b.drop 14).length = b.length - 14:=List.length_drop
 have hn:((b.length:Int) - 14) = ((b.length - 14:Nat):Int):=by omega
 have hcp:(b.drop 14).take (List.replicate (b.length - 14) (0:UInt8)).length ++ (List.replicate (b.length - 14) (0:UInt8)).drop (b.drop 14).length = b.drop 14:=by
  have e1:(List.replicate (b.length - 14) (0:UInt8)).drop (b.length - 14) = []:=List.drop_eq_nil_of_le (by simp)
  rw [List.length_replicate,hdl,e1,List.append_nil]
  exact List.take_of_length_le (by omega)
 have etk:(b.take b.length).drop 14 = b.drop 14:=by rw [List.take_length]
 have i12:(12:Int).toNat < b.length:=by show 12 < _; omega
 have i13:(13:Int).toNat < b.length:=by show 13 < _; omega
 refine rg ?_;conv=>whnf
 refine Ag q1 F237 E E E E E ?_
 refine rg ?_;conv=>whnf
 refine Ag q2 F237 E E E E E ?_
 refine rg ?_;conv=>whnf
 refine ⟨by unfold I64; omega,?_⟩
 conv=>whnf
 refine Ai (Bw Γ.toTy (d:=32) (n:=b.length - 14) Aj 0 E E E E E E (congrArg (fun z=>SV.val (.int .i64 z)) hn) (congrArg (fun z=>SV.val (.int .i64 z)) hn) (by omega) (by omega) E E E) E E ?_
 refine rg ?_;conv=>whnf
 refine Ai (Bb (lo:=14) (hi:=b.length) Γ.toTy E E E E (.inr ⟨_,_,E,E⟩) (.inl ⟨E,E⟩) (by omega) (Nat.le_refl _)) E E ?_
 rw [etk]
 refine rg ?_;conv=>whnf
 refine Ai (U8 Γ.toTy E E E E E .sl) E E ?_
 rw [hcp]
 refine As 32 E ?_
 refine rg ?_;conv=>whnf
 refine ⟨E,by decide,i12,?_⟩
 conv=>whnf
 refine ⟨by decide,?_⟩
 conv=>whnf
 refine ⟨E,by decide,i13,?_⟩
 conv=>whnf
 refine ⟨(by kernel_rfl),?_⟩
 conv=>whnf
 refine Ac E (.cons (.cell E E E E) (.cons .tmp .nil)) ?_ E
 rw [hres]
 show SV.tup [.agg [_,_,Aa ((b[12].toNat * 256 + b[13].toNat:Nat):Int),_],_] = _
 rw [← hp]
 rfl
theorem Le (m:Nat) (h:m < 18446744073709551616):Sy.Spec Tryz.prog 162 [Ay m] [] (Ad (Du m)) []:=Ab Γ hm 100 F162 Tryz.ntmps162 rfl fun F hF=>by
 have e:=Ak9 m h
 conv=>whnf
 refine Ac E (.cons .tmp .nil) ?_ E
 exact congrArg Ad e.symm
theorem Iw (m:Nat) (h:m < 18446744073709551616):Sy.Spec Tryz.prog 77 [Ay m] [] (Ad (Du m)) []:=Ab Γ hm 100 F77 Tryz.ntmps77 rfl fun F hF=>by
 have e:=An0 m
 have hl:(be 6 m).length = 6:=A4 m 6
 have h0:(0:Int).toNat < (be 6 m).length:=by rw [hl]; decide
 have hg:(be 6 m)[(0:Int).toNat]'h0 = UInt8.ofNat (m / 256 ^ 5):=rfl
 conv=>whnf
 refine Ai (Ak [(0,4)] E F141 (Ah7 m h) E Y E ⟨.inr E,Y⟩) E E ?_
 refine As 4 E ?_
 refine rg ?_;conv=>whnf
 refine ⟨E,by decide,h0,?_⟩
 rw [hg]
 conv=>whnf
 refine ⟨by decide,?_⟩
 conv=>whnf
 refine Ac E (.cons .tmp .nil) ?_ E
 refine congrArg Ad ?_
 rw [← e,Bool.eq_iff_iff]
 rw [Int.tmod_eq_emod_of_nonneg (by omega)]
 simp
 omega
theorem O1 (f:FrameM):Sy.Spec Tryz.prog 166 [Bc f] [] (Ad (decide (f.typ = 33024))) []:=Ab Γ hm 100 F166 Tryz.ntmps166 rfl fun F hF=>by
 conv=>whnf
 refine Ac E (.cons .tmp .nil) ?_ E
 refine congrArg Ad ?_
 rw [Bool.eq_iff_iff]; simp; omega
theorem Mc (p:Port) (tg:Bool) (vid:Int) (hl:Aq p.tagged):Sy.Spec Tryz.prog 168 [Bh p,Ad tg,Aa vid] [] (.tup [Aa (vlanT p tg vid).1,Ad (vlanT p tg vid).2]) []:=Ab Γ hm 100 F168 Tryz.ntmps168 rfl fun F hF=>by
 have hres:=vlanT.eq_1 p tg vid
 generalize vlanT p tg vid = res at *
 have q:=Dv p.tagged vid hl
 have hz:decide (p.native ≠ 0) = (p.native != 0):=by rw [Bool.eq_iff_iff]; simp
 rw [hz] at hres
 cases tg
 ·rw [if_pos (.inl rfl)] at hres
  subst hres
  ((conv=>whnf);refine aT ?_;refine rg ?_;conv=>whnf)
  refine ⟨(by kernel_rfl),?_⟩
  conv=>whnf
  exact Ac E (.cons .tmp (.cons .tmp .nil)) E E
 ((conv=>whnf);refine aF ?_;refine rg ?_;conv=>whnf)
 refine ⟨fun h=>?_,fun h=>?_⟩
 ·rw [if_pos (.inr (by simpa using h))] at hres
  subst hres
  refine rg ?_;conv=>whnf
  refine ⟨(by kernel_rfl),?_⟩
  conv=>whnf
  exact Ac E (.cons .tmp (.cons .tmp .nil)) E E
 rw [if_neg (by simpa using h)] at hres
 refine rg ?_;conv=>whnf
 refine Ag q F86 E E E E E ?_
 cases hi:inB p.tagged vid
 ·rw [if_neg (by simp [hi])] at hres
  subst hres
  (refine rg ?_;(conv=>whnf);refine aF ?_;refine rg ?_;conv=>whnf)
  exact Ac E (.cons .tmp (.cons .tmp .nil)) E E
 ·rw [if_pos hi] at hres
  subst hres
  (refine rg ?_;(conv=>whnf);refine aT ?_;refine rg ?_;conv=>whnf)
  exact Ac E (.cons .tmp (.cons .tmp .nil)) E E
theorem Xi (p:Port) (tg:Bool) (vid:Int) (hl:Aq p.tagged):Sy.Spec Tryz.prog 78 [Bh p,Ad tg,Aa vid] [] (.tup [Aa (vlanT p tg vid).1,Ad (vlanT p tg vid).2]) []:=Ab Γ hm 100 F78 Tryz.ntmps78 rfl fun F hF=>by
 have hres:=vlanT.eq_1 p tg vid
 generalize vlanT p tg vid = res at *
 have q:=El p.tagged vid hl
 have hz:decide (p.native ≠ 0) = (p.native != 0):=by rw [Bool.eq_iff_iff]; simp
 rw [hz] at hres
 cases tg
 ·rw [if_pos (.inl rfl)] at hres
  subst hres
  ((conv=>whnf);refine aT ?_;refine rg ?_;(conv=>whnf);refine aT ?_;refine rg ?_;conv=>whnf)
  refine ⟨(by kernel_rfl),?_⟩
  conv=>whnf
  exact Ac E (.cons .tmp (.cons .tmp .nil)) E E
 ((conv=>whnf);refine aF ?_;refine rg ?_;conv=>whnf)
 refine ⟨fun h=>?_,fun h=>?_⟩
 ·rw [if_pos (.inr (by simpa using h))] at hres
  subst hres
  refine rg ?_;conv=>whnf
  refine ⟨(by kernel_rfl),?_⟩
  conv=>whnf
  exact Ac E (.cons .tmp (.cons .tmp .nil)) E E
 rw [if_neg (by simpa using h)] at hres
 refine rg ?_;conv=>whnf
 refine Ag q F142 E E E E E ?_
 cases hi:inB p.tagged vid
 ·rw [if_neg (by simp [hi])] at hres
  subst hres
  (refine rg ?_;(conv=>whnf);refine aF ?_;refine rg ?_;conv=>whnf)
  exact Ac E (.cons .tmp (.cons .tmp .nil)) E E
 ·rw [if_pos hi] at hres
  subst hres
  (refine rg ?_;(conv=>whnf);refine aT ?_;refine rg ?_;conv=>whnf)
  exact Ac E (.cons .tmp (.cons .tmp .nil)) E E
theorem Lc (a b:UInt8):IntKind.i64.wrap (a.toNat:Int) * 256 + IntKind.i64.wrap (b.toNat:Int) = ((a.toNat * 256 + b.toNat:Nat):Int):=by
 have h1:=a.toNat_lt
 have h2:=b.toNat_lt
 rw [IntKind.wrap_i64,IntKind.wrap_i64]; omega
theorem Sd (b:List UInt8) (hb:b.length < 100000):Sy.Spec Tryz.prog 75 [.sl 1 Aj b] [] (.tup [Bc (takeF b).1,Aa (takeF b).2]) []:=Ab Γ hm 100 F75 Tryz.ntmps75 rfl fun F hF=>by
 have hres:=takeF.eq_1 b
 generalize takeF b = res at *
 conv=>whnf
 refine ⟨fun h=>?_,fun h=>?_⟩
 ·rw [if_pos (by have:=of_decide_eq_true h; omega)] at hres
  subst hres
  refine rg ?_;conv=>whnf
  refine Av 2 [Ay 0,Ay 0,Aa 0,.sl 1 Aj []] E (.cons (.refl _) (.cons (.refl _) (.cons (.refl _) (.cons .nil .nil)))) ?_
  exact Ac E (.cons (.cell E E E E) (.cons .tmp .nil)) E E
 rw [if_neg (by have:=of_decide_eq_false h; omega)] at hres
 have h14:14 ≤ b.length:=by have:=of_decide_eq_false h; omega
 refine rg ?_;conv=>whnf
 refine ⟨fun h=>?_,fun h=>?_⟩
 ·rw [if_pos (by have:=of_decide_eq_true h; omega)] at hres
  subst hres
  refine rg ?_;conv=>whnf
  refine Av 2 [Ay 0,Ay 0,Aa 0,.sl 1 Aj []] E (.cons (.refl _) (.cons (.refl _) (.cons (.refl _) (.cons .nil .nil)))) ?_
  exact Ac E (.cons (.cell E E E E) (.cons .tmp .nil)) E E
 rw [if_neg (by have:=of_decide_eq_false h; omega)] at hres
 have q1:=Xl b 0 (by omega) hb
 have q2:=Xl b 6 (by omega) hb
 rw [Mq (by omega),Ww] at hres
 have hp:=Lc (b[12]'(by omega)) (b[13]'(by omega))
 have hx1:=(b[12]'(by omega)).toNat_lt
 have hx2:=(b[13]'(by omega)).toNat_lt
 have etk:(b.take b.length).drop 14 = b.drop 14:=by rw [List.take_length]
 have hdl:(b.drop 14).length = b.length - 14:=List.length_drop
 have i12:(12:Int).toNat < b.length:=by show 12 < _; omega
 have i13:(13:Int).toNat < b.length:=by show 13 < _; omega
 have e12:b[(12:Int).toNat]'i12 = b[12]'(by omega):=rfl
 have e13:b[(13:Int).toNat]'i13 = b[13]'(by omega):=rfl
 generalize b[12]'(by omega) = x at *
 generalize b[13]'(by omega) = y at *
 have w1:IntKind.i64.wrap (x.toNat:Int) = x.toNat:=by rw [IntKind.wrap_i64]; omega
 refine rg ?_;conv=>whnf
 refine Ag q1 F140 E E E E E ?_
 refine rg ?_;conv=>whnf
 refine Ag q2 F140 E E E E E ?_
 refine rg ?_;conv=>whnf
 refine ⟨E,by decide,i12,?_⟩
 rw [e12]
 conv=>whnf
 refine ⟨by rw [w1]; unfold I64; omega,?_⟩
 conv=>whnf
 refine ⟨E,by decide,i13,?_⟩
 rw [e13]
 conv=>whnf
 refine ⟨by rw [hp]; unfold I64; omega,?_⟩
 rw [hp]
 conv=>whnf
 refine Bi (Bb (lo:=14) (hi:=b.length) Γ.toTy E E E E (.inr ⟨_,_,E,E⟩) (.inl ⟨E,E⟩) (by omega) (Nat.le_refl _)) (by kernel_rfl) E ?_
 refine rd (by kernel_rfl) ?_;conv=>whnf
 refine Bi (Af Γ.toTy 41 E E E E E (.lit (e:=Aj) (l:=[]) E E) .sl (by simp) (by simp; omega) (by simp; omega)) (by kernel_rfl) E ?_
 refine rd (by kernel_rfl) ?_;conv=>whnf
 refine ⟨(by kernel_rfl),?_⟩
 conv=>whnf
 refine As 41 E ?_
 refine Ac E (.cons (.cell E E E E) (.cons .tmp .nil)) ?_ E
 rw [hres]
 show SV.tup [.agg [_,_,_,.sl 1 Aj (b.drop 14)],_] = SV.tup [.agg [_,_,_,.sl 1 Aj ([] ++ (b.take b.length).drop 14)],_]
 rw [etk]
 rfl
theorem Aos (n:Nat) (h:n < 9223372036854775808):bits .and .i64 (n:Int) 4095 = ((n % 4096:Nat):Int):=by
 have:=Im n 4095 h (by decide)
 rw [show ((4095:Nat):Int) = 4095 from rfl] at this
 rw [this]
 have h2:=Nat.and_two_pow_sub_one_eq_mod n 12
 rw [show 2 ^ 12 - 1 = 4095 from rfl,show 2 ^ 12 = 4096 from rfl] at h2
 rw [h2]
theorem Acj {b:List UInt8} (h:4 ≤ b.length):b.take 2 = [b[0]'(by omega),b[1]'(by omega)] ∧ (b.drop 2).take 2 = [b[2]'(by omega),b[3]'(by omega)]:=by
 have h1:=Mq (b:=b) (k:=0) (by omega)
 have h2:=Mq (b:=b) (k:=2) (by omega)
 exact ⟨h1,h2⟩
abbrev zF:List SV:=[Ay 0,Ay 0,Aa 0,.sl 1 Aj []]
theorem Ajk (f:FrameM) (hb:f.body.length < 100000):Sy.Spec Tryz.prog 167 [Bc f] [] (.tup [Bc (stripT f).1,Aa (stripT f).2.1,Aa (stripT f).2.2.1,Aa (stripT f).2.2.2]) []:=Ab Γ hm 100 F167 Tryz.ntmps167 rfl fun F hF=>by
 have hres:=stripT.eq_1 f
 generalize stripT f = res at *
 have q0:=O1 f
 obtain ⟨d,s,t,b⟩:=f
 dsimp only at hres hb q0
 conv=>whnf
 refine Ag q0 F166 E E E E E ?_
 by_cases ht:t = 33024
 rotate_left
 ·rw [if_pos ht] at hres
  subst hres
  rw [decide_eq_false ht]
  (refine rg ?_;(conv=>whnf);refine aT ?_;refine rg ?_;conv=>whnf)
  refine Av 2 zF E (.cons (.refl _) (.cons (.refl _) (.cons (.refl _) (.cons .nil .nil)))) ?_
  exact Ac E (.cons (.cell E E E E) (.cons .tmp (.cons .tmp (.cons .tmp .nil)))) E E
 rw [if_neg (by simpa using ht)] at hres
 rw [decide_eq_true ht]
 (refine rg ?_;(conv=>whnf);refine aF ?_;refine rg ?_;conv=>whnf)
 refine ⟨fun h=>?_,fun h=>?_⟩
 ·rw [if_pos (by have:=of_decide_eq_true h; dsimp only at this; omega)] at hres
  subst hres
  refine rg ?_;conv=>whnf
  refine Av 2 zF E (.cons (.refl _) (.cons (.refl _) (.cons (.refl _) (.cons .nil .nil)))) ?_
  exact Ac E (.cons (.cell E E E E) (.cons .tmp (.cons .tmp (.cons .tmp .nil)))) E E
 have h4:4 ≤ b.length:=by have:=of_decide_eq_false h; dsimp only at this; omega
 rw [if_neg (by omega),(Acj h4).1,(Acj h4).2,Ww,Ww] at hres
 have c1:=Md (b.drop 4) (by rw [List.length_drop]; omega)
 have etk:(b.take b.length).drop 4 = b.drop 4:=by rw [List.take_length]
 rw [← etk] at c1
 have i0:(0:Int).toNat < b.length:=by show 0 < _; omega
 have i1:(1:Int).toNat < b.length:=by show 1 < _; omega
 have i2:(2:Int).toNat < b.length:=by show 2 < _; omega
 have i3:(3:Int).toNat < b.length:=by show 3 < _; omega
 have e0:b[(0:Int).toNat]'i0 = b[0]'(by omega):=rfl
 have e1:b[(1:Int).toNat]'i1 = b[1]'(by omega):=rfl
 have e2:b[(2:Int).toNat]'i2 = b[2]'(by omega):=rfl
 have e3:b[(3:Int).toNat]'i3 = b[3]'(by omega):=rfl
 have hp1:=Ev (b[0]'(by omega)) (b[1]'(by omega))
 have hp2:=Ev (b[2]'(by omega)) (b[3]'(by omega))
 have l0:=(b[0]'(by omega)).toNat_lt
 have l1:=(b[1]'(by omega)).toNat_lt
 obtain ⟨P,hP⟩:∃ P,(b[0]'(by omega)).toNat * 256 + (b[1]'(by omega)).toNat = P:=⟨_,rfl⟩
 obtain ⟨Q,hQ⟩:∃ Q,(b[2]'(by omega)).toNat * 256 + (b[3]'(by omega)).toNat = Q:=⟨_,rfl⟩
 have hPl:P < 65536:=by omega
 rw [hP] at hp1 hres
 rw [hQ] at hp2 hres
 have ha:=Aos P (by omega)
 have hs:(P:Int).fdiv (2 ^ (min (Int.toNat 12) IntKind.i64.bits)) = ((P / 4096:Nat):Int):=Ail P 12 (by decide)
 refine rg ?_;conv=>whnf
 refine ⟨E,by decide,i0,?_⟩
 rw [e0]
 conv=>whnf
 refine ⟨by decide,?_⟩
 conv=>whnf
 refine ⟨E,by decide,i1,?_⟩
 rw [e1]
 conv=>whnf
 refine ⟨(by kernel_rfl),?_⟩
 rw [hp1]
 conv=>whnf
 refine ⟨E,by decide,i2,?_⟩
 rw [e2]
 conv=>whnf
 refine ⟨by decide,?_⟩
 conv=>whnf
 refine ⟨E,by decide,i3,?_⟩
 rw [e3]
 conv=>whnf
 refine ⟨(by kernel_rfl),?_⟩
 rw [hp2]
 conv=>whnf
 refine ⟨by decide,?_⟩
 rw [ha,hs]
 conv=>whnf
 refine ⟨fun h=>?_,fun h=>?_⟩
 ·rw [if_pos (.inl (by have:=of_decide_eq_true h; omega))] at hres
  subst hres
  refine rg ?_;conv=>whnf
  refine Av 2 zF E (.cons (.refl _) (.cons (.refl _) (.cons (.refl _) (.cons .nil .nil)))) ?_
  exact Ac E (.cons (.cell E E E E) (.cons .tmp (.cons .tmp (.cons .tmp .nil)))) E E
 have h5:¬ 4094 < P % 4096:=by have:=of_decide_eq_false h; omega
 refine rg ?_;conv=>whnf
 refine ⟨fun h=>?_,fun h=>?_⟩
 ·rw [if_pos (.inr (by have:(Q:Int) = 33024:=(by simpa using h); omega))] at hres
  subst hres
  refine rg ?_;conv=>whnf
  refine Av 2 zF E (.cons (.refl _) (.cons (.refl _) (.cons (.refl _) (.cons .nil .nil)))) ?_
  exact Ac E (.cons (.cell E E E E) (.cons .tmp (.cons .tmp (.cons .tmp .nil)))) E E
 have h6:¬ Q = 33024:=fun e=>by rw [e] at h; simp at h
 rw [if_neg (by omega)] at hres
 subst hres
 refine rg ?_;conv=>whnf
 refine Bi (Bb (lo:=4) (hi:=b.length) Γ.toTy E E E E (.inr ⟨_,_,E,E⟩) (.inl ⟨E,E⟩) h4 (Nat.le_refl _)) (by kernel_rfl) E ?_
 refine rd (by kernel_rfl) ?_;conv=>whnf
 refine At c1 F63 E E E (by kernel_rfl) E ?_
 refine rd (by kernel_rfl) ?_;conv=>whnf
 refine ⟨(by kernel_rfl),?_⟩
 conv=>whnf
 refine Ac E (.cons (.cell E E E E) (.cons .tmp (.cons .tmp (.cons .tmp .nil)))) ?_ E
 show SV.tup [.agg [_,_,_,.sl 1 Aj (b.drop 4)],_,_,_] = SV.tup [.agg [_,_,_,.sl 1 Aj ((b.take b.length).drop 4)],_,_,_]
 rw [etk]
 rfl
theorem Ads (f:FrameM) (hb:f.body.length < 100000):Sy.Spec Tryz.prog 76 [Bc f] [] (.tup [Bc (stripT f).1,Aa (stripT f).2.1,Aa (stripT f).2.2.1,Aa (stripT f).2.2.2]) []:=Ab Γ hm 100 F76 Tryz.ntmps76 rfl fun F hF=>by
 have hres:=stripT.eq_1 f
 generalize stripT f = res at *
 obtain ⟨d,s,t,b⟩:=f
 dsimp only at hres hb
 conv=>whnf
 by_cases ht:t = 33024
 rotate_left
 ·rw [if_pos ht] at hres
  subst hres
  refine ⟨fun _=>?_,fun h=>absurd (show (t:Int) = 33024 by simpa using h) (by omega)⟩
  refine rg ?_;conv=>whnf
  refine Av 2 zF E (.cons (.refl _) (.cons (.refl _) (.cons (.refl _) (.cons .nil .nil)))) ?_
  exact Ac E (.cons (.cell E E E E) (.cons .tmp (.cons .tmp (.cons .tmp .nil)))) E E
 rw [if_neg (by simpa using ht)] at hres
 refine ⟨fun h=>absurd (show (t:Int) ≠ 33024 by simpa using h) (by omega),fun _=>?_⟩
 refine rg ?_;conv=>whnf
 refine ⟨fun h=>?_,fun h=>?_⟩
 ·rw [if_pos (by have:=of_decide_eq_true h; dsimp only at this; omega)] at hres
  subst hres
  refine rg ?_;conv=>whnf
  refine Av 2 zF E (.cons (.refl _) (.cons (.refl _) (.cons (.refl _) (.cons .nil .nil)))) ?_
  exact Ac E (.cons (.cell E E E E) (.cons .tmp (.cons .tmp (.cons .tmp .nil)))) E E
 have h4:4 ≤ b.length:=by have:=of_decide_eq_false h; dsimp only at this; omega
 rw [if_neg (by omega),(Acj h4).1,(Acj h4).2,Ww,Ww] at hres
 have etk:(b.take b.length).drop 4 = b.drop 4:=by rw [List.take_length]
 have hdl:(b.drop 4).length = b.length - 4:=List.length_drop
 have i0:(0:Int).toNat < b.length:=by show 0 < _; omega
 have i1:(1:Int).toNat < b.length:=by show 1 < _; omega
 have i2:(2:Int).toNat < b.length:=by show 2 < _; omega
 have i3:(3:Int).toNat < b.length:=by show 3 < _; omega
 have e0:b[(0:Int).toNat]'i0 = b[0]'(by omega):=rfl
 have e1:b[(1:Int).toNat]'i1 = b[1]'(by omega):=rfl
 have e2:b[(2:Int).toNat]'i2 = b[2]'(by omega):=rfl
 have e3:b[(3:Int).toNat]'i3 = b[3]'(by omega):=rfl
 have hp1:=Lc (b[0]'(by omega)) (b[1]'(by omega))
 have hp2:=Lc (b[2]'(by omega)) (b[3]'(by omega))
 have l0:=(b[0]'(by omega)).toNat_lt
 have l1:=(b[1]'(by omega)).toNat_lt
 have l2:=(b[2]'(by omega)).toNat_lt
 have l3:=(b[3]'(by omega)).toNat_lt
 generalize b[0]'(by omega) = x0 at *
 generalize b[1]'(by omega) = x1 at *
 generalize b[2]'(by omega) = x2 at *
 generalize b[3]'(by omega) = x3 at *
 have w0:IntKind.i64.wrap (x0.toNat:Int) = x0.toNat:=by rw [IntKind.wrap_i64]; omega
 have w2:IntKind.i64.wrap (x2.toNat:Int) = x2.toNat:=by rw [IntKind.wrap_i64]; omega
 obtain ⟨P,hP⟩:∃ P,x0.toNat * 256 + x1.toNat = P:=⟨_,rfl⟩
 obtain ⟨Q,hQ⟩:∃ Q,x2.toNat * 256 + x3.toNat = Q:=⟨_,rfl⟩
 have hPl:P < 65536:=by omega
 have hQl:Q < 65536:=by omega
 rw [hP] at hp1 hres
 rw [hQ] at hp2 hres
 have hmm:(P:Int).tmod 4096 = ((P % 4096:Nat):Int):=by rw [Int.tmod_eq_emod_of_nonneg (by omega)]; omega
 have hd:IntKind.i64.wrap ((P:Int).tdiv 4096) = ((P / 4096:Nat):Int):=by rw [Int.tdiv_eq_ediv_of_nonneg (by omega),IntKind.wrap_i64]; omega
 refine rg ?_;conv=>whnf
 refine ⟨E,by decide,i0,?_⟩
 rw [e0]
 conv=>whnf
 refine ⟨by rw [w0]; unfold I64; omega,?_⟩
 conv=>whnf
 refine ⟨E,by decide,i1,?_⟩
 rw [e1]
 conv=>whnf
 refine ⟨by rw [hp1]; unfold I64; omega,?_⟩
 rw [hp1]
 conv=>whnf
 refine ⟨(by kernel_rfl),?_⟩
 conv=>whnf
 refine ⟨E,by decide,i2,?_⟩
 rw [e2]
 conv=>whnf
 refine ⟨by rw [w2]; unfold I64; omega,?_⟩
 conv=>whnf
 refine ⟨E,by decide,i3,?_⟩
 rw [e3]
 conv=>whnf
 refine ⟨by rw [hp2]; unfold I64; omega,?_⟩
 rw [hp2]
 conv=>whnf
 refine ⟨(by kernel_rfl),?_⟩
 conv=>whnf
 refine ⟨by decide,?_⟩
 rw [hmm]
 conv=>whnf
 refine ⟨fun h=>?_,fun h=>?_⟩
 ·rw [if_pos (.inl (by have:((P % 4096:Nat):Int) = 4095:=(by simpa using h); omega))] at hres
  subst hres
  (refine rg ?_;(conv=>whnf);refine aT ?_;refine rg ?_;conv=>whnf)
  refine Av 2 zF E (.cons (.refl _) (.cons (.refl _) (.cons (.refl _) (.cons .nil .nil)))) ?_
  exact Ac E (.cons (.cell E E E E) (.cons .tmp (.cons .tmp (.cons .tmp .nil)))) E E
 have h5:¬ P % 4096 = 4095:=fun e=>by rw [e] at h; simp at h
 refine rg ?_;conv=>whnf
 refine ⟨fun h=>?_,fun h=>?_⟩
 ·rw [if_pos (.inr (by have:(Q:Int) = 33024:=(by simpa using h); omega))] at hres
  subst hres
  refine rg ?_;conv=>whnf
  refine Av 2 zF E (.cons (.refl _) (.cons (.refl _) (.cons (.refl _) (.cons .nil .nil)))) ?_
  exact Ac E (.cons (.cell E E E E) (.cons .tmp (.cons .tmp (.cons .tmp .nil)))) E E
 have h6:¬ Q = 33024:=fun e=>by rw [e] at h; simp at h
 rw [if_neg (by omega)] at hres
 subst hres
 refine rg ?_;conv=>whnf
 refine Bi (Bb (lo:=4) (hi:=b.length) Γ.toTy E E E E (.inr ⟨_,_,E,E⟩) (.inl ⟨E,E⟩) h4 (Nat.le_refl _)) (by kernel_rfl) E ?_
 refine rd (by kernel_rfl) ?_;conv=>whnf
 refine Bi (Af Γ.toTy 58 E E E E E (.lit (e:=Aj) (l:=[]) E E) .sl (by simp) (by simp; omega) (by simp; omega)) (by kernel_rfl) E ?_
 refine rd (by kernel_rfl) ?_;conv=>whnf
 refine ⟨by decide,?_⟩
 conv=>whnf
 refine ⟨by decide,?_⟩
 conv=>whnf
 refine ⟨(by kernel_rfl),?_⟩
 conv=>whnf
 refine As 58 E ?_
 refine Ac E (.cons (.cell E E E E) (.cons .tmp (.cons .tmp (.cons .tmp .nil)))) ?_ E
 show SV.tup [.agg [_,_,_,.sl 1 Aj (b.drop 4)],Aa ((P % 4096:Nat):Int),Aa ((P / 4096:Nat):Int),_] = SV.tup [.agg [_,_,_,.sl 1 Aj ([] ++ (b.take b.length).drop 4)],Aa ((P:Int).tmod 4096),Aa (IntKind.i64.wrap ((P:Int).tdiv 4096)),_]
 rw [etk,hmm,hd]
 rfl
theorem Ll (f:FrameM) (h:FrameOK f):Sy.Spec Tryz.prog 33 [Bc f] [] (.tup [.osl 0,Aa 0]) [(0,.row 1 Aj (Th f))]:=Aey f.dst f.src f.typ f.body h.dst h.src h.typ h.body
theorem O6 (f:FrameM) (h:FrameOK f):Sy.Spec Tryz.prog 220 [Bc f] [] (.tup [.osl 0,Aa 0]) [(0,.row 1 Aj (Th f))]:=Aka f.dst f.src f.typ f.body h.dst h.src h.typ h.body
theorem Amc (f:FrameM) (v:Nat) (h:FrameOK f) (hv:v ≤ 4094):Sy.Spec Tryz.prog 308 [Bc f,Aa v,Aa 0] [] (.tup [Bc (tagT f v).1,Aa (tagT f v).2]) []:=by
 have hres:=tagT.eq_1 f v
 have q0:=O1 f
 obtain ⟨d,s,t,b⟩:=f
 have h1:=h.typ
 have h2:=h.body
 dsimp only at hres q0 h1 h2
 by_cases ht:t = 33024
 ·rw [if_pos ht] at hres
  rw [hres]
  rw [decide_eq_true ht] at q0
  refine Ab Γ hm 100 F308 Tryz.ntmps308 E fun F hF=>by
   conv=>whnf
   refine Ag q0 F166 E E E E E ?_
   (refine rg ?_;(conv=>whnf);refine aT ?_;refine rg ?_;(conv=>whnf);refine aT ?_;refine rg ?_;(conv=>whnf);refine aT ?_;refine rg ?_;(conv=>whnf);refine aT ?_;refine rg ?_;(conv=>whnf);refine aT ?_;refine rg ?_;conv=>whnf)
   refine Av 6 zF E (.cons (.refl _) (.cons (.refl _) (.cons (.refl _) (.cons .nil .nil)))) ?_
   exact Ac E (.cons (.cell E E E E) (.cons .tmp .nil)) E E
 rw [if_neg ht] at hres
 by_cases hb:1500 < b.length
 ·rw [if_pos hb] at hres
  rw [hres]
  rw [decide_eq_false ht] at q0
  refine Ab Γ hm 100 F308 Tryz.ntmps308 E fun F hF=>by
   conv=>whnf
   refine Ag q0 F166 E E E E E ?_
   (refine rg ?_;(conv=>whnf);refine aF ?_;refine rg ?_;(conv=>whnf);refine aF ?_;refine rg ?_;conv=>whnf)
   (refine ⟨fun h=>False.elim (by simp at h; omega),fun _=>?_⟩;refine rg ?_;(conv=>whnf);refine aF ?_;refine rg ?_;(conv=>whnf);refine aF ?_;refine rg ?_;(conv=>whnf);refine aF ?_;refine rg ?_;(conv=>whnf);refine ⟨fun h=>False.elim (by simp at h; omega),fun _=>?_⟩;refine rg ?_;(conv=>whnf);refine ⟨fun _=>?_,fun h=>False.elim (by simp at h; omega)⟩;refine rg ?_;conv=>whnf)
   refine Av 6 zF E (.cons (.refl _) (.cons (.refl _) (.cons (.refl _) (.cons .nil .nil)))) ?_
   exact Ac E (.cons (.cell E E E E) (.cons .tmp .nil)) E E
 rw [if_neg hb] at hres
 rw [hres]
 exact Apb d s t v b ht h1 hv (by omega)
theorem Agk (f:FrameM) (v:Nat) (h:FrameOK f) (hv:v ≤ 4094):Sy.Spec Tryz.prog 221 [Bc f,Aa v,Aa 0] [] (.tup [Bc (tagT f v).1,Aa (tagT f v).2]) []:=by
 have hres:=tagT.eq_1 f v
 obtain ⟨d,s,t,b⟩:=f
 have h1:=h.typ
 have h2:=h.body
 dsimp only at hres h1 h2
 by_cases ht:t = 33024
 ·subst ht
  rw [if_pos rfl] at hres
  rw [hres]
  refine Ab Γ hm 100 F221 Tryz.ntmps221 E fun F hF=>by
   ((conv=>whnf);refine aT ?_;refine rg ?_;(conv=>whnf);refine aT ?_;refine rg ?_;(conv=>whnf);refine aT ?_;refine rg ?_;(conv=>whnf);refine aT ?_;refine rg ?_;(conv=>whnf);refine aT ?_;refine rg ?_;conv=>whnf)
   (skip)
   refine Av 6 zF E (.cons (.refl _) (.cons (.refl _) (.cons (.refl _) (.cons .nil .nil)))) ?_
   exact Ac E (.cons (.cell E E E E) (.cons .tmp .nil)) E E
 rw [if_neg ht] at hres
 by_cases hb:1500 < b.length
 ·rw [if_pos hb] at hres
  rw [hres]
  refine Ab Γ hm 100 F221 Tryz.ntmps221 E fun F hF=>by
   conv=>whnf
   (refine ⟨fun h=>False.elim (by simp at h; omega),fun _=>?_⟩;refine rg ?_;(conv=>whnf);refine aF ?_;refine rg ?_;(conv=>whnf);refine ⟨fun h=>False.elim (by simp at h; omega),fun _=>?_⟩;refine rg ?_;(conv=>whnf);refine aF ?_;refine rg ?_;(conv=>whnf);refine aF ?_;refine rg ?_;(conv=>whnf);refine aF ?_;refine rg ?_;(conv=>whnf);refine ⟨fun h=>False.elim (by simp at h; omega),fun _=>?_⟩;refine rg ?_;(conv=>whnf);refine ⟨fun _=>?_,fun h=>False.elim (by simp at h; omega)⟩;refine rg ?_;conv=>whnf)
   refine Av 6 zF E (.cons (.refl _) (.cons (.refl _) (.cons (.refl _) (.cons .nil .nil)))) ?_
   exact Ac E (.cons (.cell E E E E) (.cons .tmp .nil)) E E
 rw [if_neg hb] at hres
 rw [hres]
 exact Af0 d s t v b ht h1 hv (by omega)
theorem takeF_bad {b:List UInt8} (h:(takeF b).2 ≠ 0):(takeF b).1 = noF:=by
 unfold takeF at h ⊢
 split
 ·rfl
 rw [if_neg (by assumption)] at h
 split
 ·rfl
 rw [if_neg (by assumption)] at h
 exact absurd E h
theorem Acz {b:List UInt8} (h:(takeF b).2 = 0):FrameOK (takeF b).1:=by
 unfold takeF at h ⊢
 split
 ·rw [if_pos (by assumption)] at h; cases h
 rw [if_neg (by assumption)] at h
 split
 ·rw [if_pos (by assumption)] at h; cases h
 rename_i h1 h2
 have l1:((b.take 6).length) = 6:=by rw [List.length_take]; omega
 have l2:(((b.drop 6).take 6).length) = 6:=by rw [List.length_take,List.length_drop]; omega
 have l3:(((b.drop 12).take 2).length) = 2:=by rw [List.length_take,List.length_drop]; omega
 have a1:=Je _ _ l1
 have a2:=Je _ _ l2
 have a3:=Je _ _ l3
 refine ⟨a1,a2,?_,?_⟩
 ·dsimp only; exact Nat.le_of_lt_succ a3
 ·dsimp only; rw [List.length_drop]; omega
theorem Amf {f:FrameM} (hf:FrameOK f) (h:(stripT f).2.2.2 = 0):FrameOK (stripT f).1:=by
 unfold stripT at h ⊢
 split
 ·rw [if_pos (by assumption)] at h; cases h
 rw [if_neg (by assumption)] at h
 split
 ·rw [if_pos (by assumption)] at h; cases h
 rw [if_neg (by assumption)] at h
 split
 ·rw [if_pos (by assumption)] at h; cases h
 rename_i h1 h2 h3
 have l3:(((f.body.drop 2).take 2).length) = 2:=by rw [List.length_take,List.length_drop]; omega
 have a3:=Je _ _ l3
 have hb:=hf.body
 refine ⟨hf.dst,hf.src,?_,?_⟩
 ·dsimp only; exact Nat.le_of_lt_succ a3
 ·dsimp only; rw [List.length_drop]; omega
theorem strip_bad {f:FrameM} (h:(stripT f).2.2.2 ≠ 0):(stripT f).1 = noF ∧ (stripT f).2.1 = 0:=by
 unfold stripT at h ⊢
 split
 ·exact ⟨E,E⟩
 rw [if_neg (by assumption)] at h
 split
 ·exact ⟨E,E⟩
 rw [if_neg (by assumption)] at h
 split
 ·exact ⟨E,E⟩
 rw [if_neg (by assumption)] at h
 exact absurd E h
theorem Ae0 (n:Net) (hn:n.Fin) (port:Int) (b:List UInt8) (hb:b.length < 100000) :
  Sy.Spec Tryz.prog 100 [Ap n,Aa port,.sl 1 Aj b] [] (.tup [Aa (enterT n port b).1,Bc (enterT n port b).2.1,Aa (enterT n port b).2.2]) []:=Ab Γ hm 100 F100 Tryz.ntmps100 rfl fun F hF=>by
 have hres:=enterT.eq_1 n port b
 generalize enterT n port b = res at *
 have hr:=B4 n hn
 conv=>whnf
 by_cases hneg:port < 0
 ·rw [if_pos (.inl (by rw [Am,decide_eq_false (by omega)]; rfl))] at hres
  subst hres
  (refine ⟨fun _=>?_,fun h=>False.elim (by simp at h; omega)⟩;refine rg ?_;(conv=>whnf);refine aT ?_;refine rg ?_;(conv=>whnf);refine aT ?_;refine rg ?_;conv=>whnf)
  refine Av 7 zF E (.cons (.refl _) (.cons (.refl _) (.cons (.refl _) (.cons .nil .nil)))) ?_
  exact Ac E (.cons .tmp (.cons (.cell E E E E) (.cons .tmp .nil))) E E
 refine ⟨fun h=>absurd (of_decide_eq_true h) hneg,fun _=>?_⟩
 refine Bf 3 8 (Ap n) E E E ?_
 by_cases hge:(n.ports.length:Int) ≤ port
 ·rw [if_pos (.inl (by rw [Am,decide_eq_false (by omega:¬ port < _),Bool.and_false]))] at hres
  subst hres
  refine rg ?_;conv=>whnf
  (refine ⟨fun _=>?_,fun h=>False.elim (by simp at h; omega)⟩;refine rg ?_;(conv=>whnf);refine aT ?_;refine rg ?_;conv=>whnf)
  refine Av 7 zF E (.cons (.refl _) (.cons (.refl _) (.cons (.refl _) (.cons .nil .nil)))) ?_
  exact Ac E (.cons .tmp (.cons (.cell E E E E) (.cons .tmp .nil))) E E
 have hpl:Am port n.ports.length = true:=by rw [Am,decide_eq_true (by omega),decide_eq_true (by omega)]; rfl
 refine rg ?_;conv=>whnf
 (refine ⟨fun h=>False.elim (by simp at h; omega),fun _=>?_⟩;refine rg ?_;conv=>whnf)
 refine Ag hr F67 E E E E E ?_
 cases hbn:Ah n
 ·rw [if_pos (.inr hbn)] at hres
  subst hres
  (refine rg ?_;(conv=>whnf);refine aT ?_;refine rg ?_;conv=>whnf)
  refine Av 7 zF E (.cons (.refl _) (.cons (.refl _) (.cons (.refl _) (.cons .nil .nil)))) ?_
  exact Ac E (.cons .tmp (.cons (.cell E E E E) (.cons .tmp .nil))) E E
 rw [if_neg (by simp [hbn,hpl])] at hres
 have hp0:0 ≤ port:=by omega
 have hk:port.toNat < n.ports.length:=by omega
 have e1:nth n.ports port = n.ports[port.toNat]:=Ao hk
 have hsh:=hn.tagged _ (List.getElem_mem hk)
 obtain ⟨p,hp⟩:∃ p,n.ports[port.toNat]'hk = p:=⟨_,rfl⟩
 rw [hp] at e1 hsh
 have qt:=Sm b hb
 have hto:=@Acz b
 have htb:=@takeF_bad b
 generalize takeF b = tf at *
 obtain ⟨f,e⟩:=tf
 dsimp only at hres qt hto htb
 have qi:=O1 f
 (refine rg ?_;(conv=>whnf);refine aF ?_;refine rg ?_;conv=>whnf)
 refine Ag qt F165 E E E E E ?_
 refine rg ?_;conv=>whnf
 refine Ag qi F166 E E E E E ?_
 by_cases he:e = 0
 rotate_left
 ·rw [if_pos he] at hres
  subst hres
  obtain rfl:=htb he
  refine rg ?_;conv=>whnf
  (refine ⟨fun h=>False.elim (by simp at h; omega),fun _=>?_⟩;refine rg ?_;(conv=>whnf);refine aF ?_;refine rg ?_;conv=>whnf)
  (refine ⟨fun h=>False.elim (by simp at h; omega),fun _=>?_⟩;refine rg ?_;(conv=>whnf);refine aF ?_;refine rg ?_;conv=>whnf)
  refine ⟨E,hp0,hk,?_⟩
  rw [hp]
  conv=>whnf
  refine Ag (Mc p false 0 hsh) F168 E E E E E ?_
  refine rg ?_;conv=>whnf
  (refine ⟨fun h=>False.elim (by simp at h; omega),fun _=>?_⟩;refine rg ?_;(conv=>whnf);refine aF ?_;refine rg ?_;(conv=>whnf);refine ⟨fun _=>?_,fun h=>False.elim (by simp at h; omega)⟩;refine rg ?_;conv=>whnf)
  refine Av 7 zF E (.cons (.refl _) (.cons (.refl _) (.cons (.refl _) (.cons .nil .nil)))) ?_
  exact Ac E (.cons .tmp (.cons (.cell E E E E) (.cons .tmp .nil))) E E
 subst he
 rw [if_neg (by decide)] at hres
 have hfo:=hto rfl
 by_cases ht:f.typ = 33024
 ·rw [if_pos ht] at hres
  rw [decide_eq_true ht]
  have qs:=Ajk f (by have:=hfo.body; omega)
  have hso:=@Amf f hfo
  have hsb:=@strip_bad f
  generalize stripT f = st at *
  obtain ⟨g,vid,prio,e2⟩:=st
  dsimp only at hres qs hso hsb
  (refine rg ?_;(conv=>whnf);refine aT ?_;refine rg ?_;(conv=>whnf);refine aT ?_;refine rg ?_;conv=>whnf)
  refine Ag qs F167 E E E E E ?_
  by_cases he2:e2 = 0
  rotate_left
  ·rw [if_pos he2] at hres
   subst hres
   obtain ⟨rfl,rfl⟩:=hsb he2
   refine rg ?_;conv=>whnf
   (refine ⟨fun h=>False.elim (by simp at h; omega),fun _=>?_⟩;refine rg ?_;(conv=>whnf);refine aF ?_;refine rg ?_;conv=>whnf)
   refine ⟨E,hp0,hk,?_⟩
   rw [hp]
   conv=>whnf
   refine Ag (Mc p true 0 hsh) F168 E E E E E ?_
   refine rg ?_;conv=>whnf
   (refine ⟨fun h=>False.elim (by simp at h; omega),fun _=>?_⟩;refine rg ?_;(conv=>whnf);refine aF ?_;refine rg ?_;(conv=>whnf);refine ⟨fun _=>?_,fun h=>False.elim (by simp at h; omega)⟩;refine rg ?_;conv=>whnf)
   refine Av 7 zF E (.cons (.refl _) (.cons (.refl _) (.cons (.refl _) (.cons .nil .nil)))) ?_
   exact Ac E (.cons .tmp (.cons (.cell E E E E) (.cons .tmp .nil))) E E
  subst he2
  rw [if_neg (by decide)] at hres
  have hgo:=hso rfl
  have hgs:=hgo.src
  have qg:=Le g.src (by omega)
  rw [Ik,e1] at hres
  have qv:=Mc p true vid hsh
  have qd:=Tm n hn p.dev (vlanT p true vid).1
  (refine rg ?_;(conv=>whnf);refine aT ?_;refine rg ?_;conv=>whnf)
  refine Ag qg F162 E E E E E ?_
  cases hgb:Du g.src
  rotate_left
  ·rw [if_pos hgb] at hres
   subst hres
   (refine rg ?_;(conv=>whnf);refine aT ?_;refine rg ?_;conv=>whnf)
   refine ⟨E,hp0,hk,?_⟩
   rw [hp]
   conv=>whnf
   refine Ag qv F168 E E E E E ?_
   (refine rg ?_;(conv=>whnf);refine aF ?_;refine rg ?_;(conv=>whnf);refine aF ?_;refine rg ?_;(conv=>whnf);refine aT ?_;refine rg ?_;conv=>whnf)
   (skip)
   refine Av 7 zF E (.cons (.refl _) (.cons (.refl _) (.cons (.refl _) (.cons .nil .nil)))) ?_
   exact Ac E (.cons .tmp (.cons (.cell E E E E) (.cons .tmp .nil))) E E
  rw [if_neg (by simp [hgb])] at hres
  (refine rg ?_;(conv=>whnf);refine aF ?_;refine rg ?_;conv=>whnf)
  refine ⟨E,hp0,hk,?_⟩
  rw [hp]
  conv=>whnf
  refine Ag qv F168 E E E E E ?_
  generalize vlanT p true vid = vl at *
  obtain ⟨vl,vok⟩:=vl
  dsimp only at hres qd ⊢
  cases vok
  ·rw [if_pos rfl] at hres
   subst hres
   (refine rg ?_;(conv=>whnf);refine aT ?_;refine rg ?_;(conv=>whnf);refine aT ?_;refine rg ?_;(conv=>whnf);refine aT ?_;refine rg ?_;conv=>whnf)
   refine Av 7 zF E (.cons (.refl _) (.cons (.refl _) (.cons (.refl _) (.cons .nil .nil)))) ?_
   exact Ac E (.cons .tmp (.cons (.cell E E E E) (.cons .tmp .nil))) E E
  rw [if_neg (by simp)] at hres
  subst hres
  (refine rg ?_;(conv=>whnf);refine aT ?_;refine rg ?_;(conv=>whnf);refine aF ?_;refine rg ?_;(conv=>whnf);refine aF ?_;refine rg ?_;conv=>whnf)
  refine At qd F169 E E E (by kernel_rfl) E ?_
  refine rd (by kernel_rfl) ?_;conv=>whnf
  refine ⟨(by kernel_rfl),?_⟩
  conv=>whnf
  exact Ac E (.cons .tmp (.cons (.cell E E E E) (.cons .tmp .nil))) E E
 ·rw [if_neg ht] at hres
  rw [decide_eq_false ht]
  have hgo:=hfo
  have hgs:=hgo.src
  have qg:=Le f.src (by omega)
  rw [Ik,e1] at hres
  have qv:=Mc p false 0 hsh
  have qd:=Tm n hn p.dev (vlanT p false 0).1
  (refine rg ?_;(conv=>whnf);refine aT ?_;refine rg ?_;(conv=>whnf);refine aF ?_;refine rg ?_;(conv=>whnf);refine aT ?_;refine rg ?_;conv=>whnf)
  refine Ag qg F162 E E E E E ?_
  cases hgb:Du f.src
  rotate_left
  ·rw [if_pos hgb] at hres
   subst hres
   (refine rg ?_;(conv=>whnf);refine aT ?_;refine rg ?_;conv=>whnf)
   refine ⟨E,hp0,hk,?_⟩
   rw [hp]
   conv=>whnf
   refine Ag qv F168 E E E E E ?_
   (refine rg ?_;(conv=>whnf);refine aF ?_;refine rg ?_;(conv=>whnf);refine aF ?_;refine rg ?_;(conv=>whnf);refine aT ?_;refine rg ?_;conv=>whnf)
   (skip)
   refine Av 7 zF E (.cons (.refl _) (.cons (.refl _) (.cons (.refl _) (.cons .nil .nil)))) ?_
   exact Ac E (.cons .tmp (.cons (.cell E E E E) (.cons .tmp .nil))) E E
  rw [if_neg (by simp [hgb])] at hres
  (refine rg ?_;(conv=>whnf);refine aF ?_;refine rg ?_;conv=>whnf)
  refine ⟨E,hp0,hk,?_⟩
  rw [hp]
  conv=>whnf
  refine Ag qv F168 E E E E E ?_
  generalize vlanT p false 0 = vl at *
  obtain ⟨vl,vok⟩:=vl
  dsimp only at hres qd ⊢
  cases vok
  ·rw [if_pos rfl] at hres
   subst hres
   (refine rg ?_;(conv=>whnf);refine aT ?_;refine rg ?_;(conv=>whnf);refine aT ?_;refine rg ?_;(conv=>whnf);refine aT ?_;refine rg ?_;conv=>whnf)
   refine Av 7 zF E (.cons (.refl _) (.cons (.refl _) (.cons (.refl _) (.cons .nil .nil)))) ?_
   exact Ac E (.cons .tmp (.cons (.cell E E E E) (.cons .tmp .nil))) E E
  rw [if_neg (by simp)] at hres
  subst hres
  (refine rg ?_;(conv=>whnf);refine aT ?_;refine rg ?_;(conv=>whnf);refine aF ?_;refine rg ?_;(conv=>whnf);refine aF ?_;refine rg ?_;conv=>whnf)
  refine At qd F169 E E E (by kernel_rfl) E ?_
  refine rd (by kernel_rfl) ?_;conv=>whnf
  refine ⟨(by kernel_rfl),?_⟩
  conv=>whnf
  exact Ac E (.cons .tmp (.cons (.cell E E E E) (.cons .tmp .nil))) E E
theorem Bn {i:Int} {n:Nat} (h:Am i n = true):0 ≤ i ∧ i < n:=by simpa [Am] using h
theorem Adn (n:Net) (hn:n.Fin) (port:Int) (b:List UInt8) (hb:b.length < 100000) :
  Sy.Spec Tryz.prog 36 [Ap n,Aa port,.sl 1 Aj b] [] (.tup [Aa (enterT n port b).1,Bc (enterT n port b).2.1,Aa (enterT n port b).2.2]) []:=Ab Γ hm 100 F36 Tryz.ntmps36 rfl fun F hF=>by
 have hres:=enterT.eq_1 n port b
 generalize enterT n port b = res at *
 have hr:=Dw n hn
 have hpS:=A9 port n.ports.length
 conv=>whnf
 refine Ag hr F74 E E E E E ?_
 cases hbn:Ah n
 ·rw [if_pos (.inr hbn)] at hres
  subst hres
  (refine rg ?_;(conv=>whnf);refine aT ?_;refine rg ?_;(conv=>whnf);refine aT ?_;refine rg ?_;conv=>whnf)
  refine Av 7 zF E (.cons (.refl _) (.cons (.refl _) (.cons (.refl _) (.cons .nil .nil)))) ?_
  exact Ac E (.cons .tmp (.cons (.cell E E E E) (.cons .tmp .nil))) E E
 refine Bf 3 8 (Ap n) E E E ?_
 (refine rg ?_;(conv=>whnf);refine aF ?_;refine rg ?_;conv=>whnf)
 refine Ag hpS F35 E E E E E ?_
 cases hpl:Am port n.ports.length
 ·rw [if_pos (.inl hpl)] at hres
  subst hres
  (refine rg ?_;(conv=>whnf);refine aT ?_;refine rg ?_;conv=>whnf)
  refine Av 7 zF E (.cons (.refl _) (.cons (.refl _) (.cons (.refl _) (.cons .nil .nil)))) ?_
  exact Ac E (.cons .tmp (.cons (.cell E E E E) (.cons .tmp .nil))) E E
 rw [if_neg (by simp [hbn,hpl])] at hres
 have hpi:=Bn hpl
 have hp0:0 ≤ port:=hpi.1
 have hk:port.toNat < n.ports.length:=by omega
 have e1:nth n.ports port = n.ports[port.toNat]:=Ao hk
 have hsh:=hn.tagged _ (List.getElem_mem hk)
 obtain ⟨p,hp⟩:∃ p,n.ports[port.toNat]'hk = p:=⟨_,rfl⟩
 rw [hp] at e1 hsh
 have qt:=Sd b hb
 have hto:=@Acz b
 generalize takeF b = tf at *
 obtain ⟨f,e⟩:=tf
 dsimp only at hres qt hto
 (refine rg ?_;(conv=>whnf);refine aF ?_;refine rg ?_;conv=>whnf)
 refine Ag qt F75 E E E E E ?_
 refine rg ?_;conv=>whnf
 by_cases he:e = 0
 rotate_left
 ·rw [if_pos he] at hres
  subst hres
  (refine ⟨fun _=>?_,fun h=>False.elim (by simp at h; omega)⟩;refine rg ?_;conv=>whnf)
  refine Av 7 zF E (.cons (.refl _) (.cons (.refl _) (.cons (.refl _) (.cons .nil .nil)))) ?_
  exact Ac E (.cons .tmp (.cons (.cell E E E E) (.cons .tmp .nil))) E E
 subst he
 rw [if_neg (by decide)] at hres
 have hfo:=hto rfl
 (refine ⟨fun h=>False.elim (absurd h (by decide)),fun _=>?_⟩;refine rg ?_;conv=>whnf)
 by_cases ht:f.typ = 33024
 ·rw [if_pos ht] at hres
  have qs:=Ads f (by have:=hfo.body; omega)
  have hso:=@Amf f hfo
  generalize stripT f = st at *
  obtain ⟨g,vid,prio,e2⟩:=st
  dsimp only at hres qs hso
  rw [show ((f.typ:Int) == 33024) = true by rw [ht]; rfl]
  refine ⟨fun _=>?_,fun h=>absurd h (by decide)⟩
  refine rg ?_;conv=>whnf
  refine Ag qs F76 E E E E E ?_
  refine rg ?_;conv=>whnf
  by_cases he2:e2 = 0
  rotate_left
  ·rw [if_pos he2] at hres
   subst hres
   (refine ⟨fun _=>?_,fun h=>False.elim (by simp at h; omega)⟩;refine rg ?_;conv=>whnf)
   refine Av 7 zF E (.cons (.refl _) (.cons (.refl _) (.cons (.refl _) (.cons .nil .nil)))) ?_
   exact Ac E (.cons .tmp (.cons (.cell E E E E) (.cons .tmp .nil))) E E
  subst he2
  rw [if_neg (by decide)] at hres
  have hgo:=hso rfl
  (refine ⟨fun h=>False.elim (absurd h (by decide)),fun _=>?_⟩;refine rg ?_;conv=>whnf)
  have hgs:=hgo.src
  have qg:=Iw g.src (by omega)
  rw [Ik,e1] at hres
  have qv:=Xi p true vid hsh
  have qd:=M1 n p.dev (vlanT p true vid).1 hn.domains
  have hdt:∀ x,Kr n p.dev x = Yu n p.dev x:=fun x=>by rw [Kr,if_pos hbn]
  refine Ag qg F77 E E E E E ?_
  cases hgb:Du g.src
  rotate_left
  ·rw [if_pos hgb] at hres
   subst hres
   (refine rg ?_;(conv=>whnf);refine aT ?_;refine rg ?_;conv=>whnf)
   refine Av 7 zF E (.cons (.refl _) (.cons (.refl _) (.cons (.refl _) (.cons .nil .nil)))) ?_
   exact Ac E (.cons .tmp (.cons (.cell E E E E) (.cons .tmp .nil))) E E
  rw [if_neg (by simp [hgb])] at hres
  (refine rg ?_;(conv=>whnf);refine aF ?_;refine rg ?_;conv=>whnf)
  refine ⟨E,hp0,hk,?_⟩
  rw [hp]
  conv=>whnf
  refine Ag qv F78 E E E E E ?_
  generalize vlanT p true vid = vl at *
  obtain ⟨vl,vok⟩:=vl
  dsimp only at hres qd ⊢
  cases vok
  ·rw [if_pos rfl] at hres
   subst hres
   (refine rg ?_;(conv=>whnf);refine aT ?_;refine rg ?_;conv=>whnf)
   refine Av 7 zF E (.cons (.refl _) (.cons (.refl _) (.cons (.refl _) (.cons .nil .nil)))) ?_
   exact Ac E (.cons .tmp (.cons (.cell E E E E) (.cons .tmp .nil))) E E
  rw [if_neg (by simp),hdt] at hres
  subst hres
  (refine rg ?_;(conv=>whnf);refine aF ?_;refine rg ?_;conv=>whnf)
  refine ⟨E,hp0,hk,?_⟩
  rw [hp]
  conv=>whnf
  refine At qd F79 E E E (by kernel_rfl) E ?_
  refine rd (by kernel_rfl) ?_;conv=>whnf
  refine ⟨(by kernel_rfl),?_⟩
  conv=>whnf
  exact Ac E (.cons .tmp (.cons (.cell E E E E) (.cons .tmp .nil))) E E
 ·rw [if_neg ht] at hres
  have hgo:=hfo
  rw [show ((f.typ:Int) == 33024) = false by simp; omega]
  refine ⟨fun h=>absurd h (by decide),fun _=>?_⟩
  refine rg ?_;conv=>whnf
  have hgs:=hgo.src
  have qg:=Iw f.src (by omega)
  rw [Ik,e1] at hres
  have qv:=Xi p false 0 hsh
  have qd:=M1 n p.dev (vlanT p false 0).1 hn.domains
  have hdt:∀ x,Kr n p.dev x = Yu n p.dev x:=fun x=>by rw [Kr,if_pos hbn]
  refine Ag qg F77 E E E E E ?_
  cases hgb:Du f.src
  rotate_left
  ·rw [if_pos hgb] at hres
   subst hres
   (refine rg ?_;(conv=>whnf);refine aT ?_;refine rg ?_;conv=>whnf)
   refine Av 7 zF E (.cons (.refl _) (.cons (.refl _) (.cons (.refl _) (.cons .nil .nil)))) ?_
   exact Ac E (.cons .tmp (.cons (.cell E E E E) (.cons .tmp .nil))) E E
  rw [if_neg (by simp [hgb])] at hres
  (refine rg ?_;(conv=>whnf);refine aF ?_;refine rg ?_;conv=>whnf)
  refine ⟨E,hp0,hk,?_⟩
  rw [hp]
  conv=>whnf
  refine Ag qv F78 E E E E E ?_
  generalize vlanT p false 0 = vl at *
  obtain ⟨vl,vok⟩:=vl
  dsimp only at hres qd ⊢
  cases vok
  ·rw [if_pos rfl] at hres
   subst hres
   (refine rg ?_;(conv=>whnf);refine aT ?_;refine rg ?_;conv=>whnf)
   refine Av 7 zF E (.cons (.refl _) (.cons (.refl _) (.cons (.refl _) (.cons .nil .nil)))) ?_
   exact Ac E (.cons .tmp (.cons (.cell E E E E) (.cons .tmp .nil))) E E
  rw [if_neg (by simp),hdt] at hres
  subst hres
  (refine rg ?_;(conv=>whnf);refine aF ?_;refine rg ?_;conv=>whnf)
  refine ⟨E,hp0,hk,?_⟩
  rw [hp]
  conv=>whnf
  refine At qd F79 E E E (by kernel_rfl) E ?_
  refine rd (by kernel_rfl) ?_;conv=>whnf
  refine ⟨(by kernel_rfl),?_⟩
  conv=>whnf
  exact Ac E (.cons .tmp (.cons (.cell E E E E) (.cons .tmp .nil))) E E
end Go.Sy.YtmelpejjondedaaGreat
namespace Go.Sy.YtmelpejjondedaaGreat
open Go.Proofs
attribute [local irreducible] Go.Sy.G Go.Sy.DR
set_option maxRecDepth 20000
set_option maxHeartbeats 8000000
theorem Dy {i:Int} {n:Nat} (h:0 ≤ i ∧ i < n):Am i n = true:=by simp only [Am,Bool.and_eq_true,decide_eq_true_eq]; exact h
theorem Abl {i:Int} {n:Nat} (h:¬ (0 ≤ i ∧ i < n)):Am i n = false:=by simp only [Am,Bool.and_eq_false_iff,decide_eq_false_iff_not]; omega
theorem Kh (n:Net) (hn:n.Fin) (hb:Ah n = true) (i:Int):Sy.Spec Tryz.prog 210 [Ap n,Aa i] [] (.sl 1 Aa (Cd n i)) []:=Ab Γ hm 100 F210 Tryz.ntmps210 rfl fun F hF=>by
 have hpl:=A9 i n.domains.length
 have hsp:=hn.ports
 unfold Aq at hsp
 conv=>whnf
 refine Bf 2 8 (Ap n) E E E ?_
 refine rg ?_;conv=>whnf
 refine Ag hpl F35 E E E E E ?_
 by_cases hi:0 ≤ i ∧ i < n.domains.length
 rotate_left
 ·rw [Cd,if_neg (fun h=>hi h.1),Abl hi]
  (refine rg ?_;(conv=>whnf);refine aT ?_;refine rg ?_;conv=>whnf)
  refine An 4 1 Aa E ?_
  refine rg ?_;conv=>whnf
  exact Ac E (.cons .tmp .nil) E E
 rw [Cd,if_pos ⟨hi,hb⟩,Dy hi]
 have hk:i.toNat < n.domains.length:=by omega
 have e1:nth n.domains i = n.domains[i.toNat]:=Ao hk
 rw [Az,e1]
 obtain ⟨d,hd⟩:∃ d,n.domains[i.toNat] = d:=⟨_,rfl⟩
 rw [hd]
 (refine rg ?_;(conv=>whnf);refine aF ?_;refine rg ?_;conv=>whnf)
 refine ⟨E,hi.1,hk,?_⟩
 rw [hd]
 conv=>whnf
 refine Bf 6 6 (A0 d) E E E ?_
 refine Bt 5 1000 1 Aa E E ?_
 refine Au n.ports.length (fun j=>[(2,.ref 8 (Ap n) 0),(5,.osl 1000),(6,.ref 6 (A0 d) 0),(7,Aa j)]) (fun j=>[(1000,.row 1 Aa (Ee (I1 n d) j))]) []
  ⟨⟨rfl,rfl,rfl,rfl,rfl,rfl,rfl,rfl,trivial⟩,⟨.inl rfl,rfl,trivial⟩,rfl,rfl⟩ ?_
 intro j hj
 refine rg ?_;conv=>whnf
 refine ⟨fun h=>?_,fun h=>?_⟩
 ·have hlt:j < n.ports.length:=by simpa using h
  have hsucc:=Mb (I1 n d) j
  have hfl:=Ea (I1 n d) j
  have hin:I1 n d j = ((n.ports[j]).dev == d.dev && Hy n.ports[j] d.vlan):=by
   rw [I1,Ao (l:=n.ports) (i:=(j:Int)) (by simpa using hlt)]; rfl
  rw [hin] at hsucc
  have e1:n.ports[(j:Int).toNat]'(by omega) = n.ports[j]:=rfl
  have hms:=Te n.ports[j] d.vlan (hn.tagged _ (List.getElem_mem _))
  obtain ⟨p,hp⟩:∃ p,n.ports[j] = p:=⟨_,rfl⟩
  rw [hp] at e1 hsucc hms
  obtain ⟨u,hu⟩:∃ u,Ee (I1 n d) j = u:=⟨_,rfl⟩
  rw [hu] at hsucc hfl ⊢
  refine rg ?_;conv=>whnf
  refine ⟨E,by omega,by omega,?_⟩
  rw [e1]
  conv=>whnf
  refine ⟨fun h2=>?_,fun h2=>?_⟩
  ·rw [h2,Bool.true_and] at hsucc
   refine rd (by kernel_rfl) ?_;conv=>whnf
   refine ⟨E,by omega,by omega,?_⟩
   rw [e1]
   conv=>whnf
   refine At hms F207 E E E (by kernel_rfl) E ?_
   refine rd (by kernel_rfl) ?_;conv=>whnf
   refine ⟨(by kernel_rfl),?_⟩
   conv=>whnf
   refine ⟨fun h4=>?_,fun h4=>?_⟩
   ·rw [if_pos h4] at hsucc
    refine rg ?_;conv=>whnf
    refine Ai (Af Γ.toTy 48 E E E E E (.row E) (.lit (e:=Aa) (l:=[(j:Int)]) E E) (by simp) (by simp; omega) (by simp; omega)) E E ?_
    refine rg ?_;conv=>whnf
    refine ⟨by unfold I64; omega,?_⟩
    conv=>whnf
    exact Ar [(1000,48)] hlt ⟨⟨E,E,E,E,E,E,E,E,Y⟩,⟨.inl (congrArg (Ob.row 1 Aa) hsucc),E,Y⟩,E,E⟩
   ·rw [if_neg (by simp [h4])] at hsucc
    refine rg ?_;conv=>whnf
    refine ⟨by unfold I64; omega,?_⟩
    conv=>whnf
    exact Ar [] hlt ⟨⟨E,E,E,E,E,E,E,E,Y⟩,⟨.inl (congrArg (Ob.row 1 Aa) hsucc),E,Y⟩,E,E⟩
  ·rw [h2,Bool.false_and,if_neg (by simp)] at hsucc
   refine rd (by kernel_rfl) ?_;conv=>whnf
   refine ⟨(by kernel_rfl),?_⟩
   ((conv=>whnf);refine aF ?_;refine rg ?_;conv=>whnf)
   refine ⟨by unfold I64; omega,?_⟩
   conv=>whnf
   exact Ar [] hlt ⟨⟨E,E,E,E,E,E,E,E,Y⟩,⟨.inl (congrArg (Ob.row 1 Aa) hsucc),E,Y⟩,E,E⟩
 ·have:j = n.ports.length:=by have:=of_decide_eq_false h; omega
  subst this
  refine As 1000 E ?_
  refine rg ?_;conv=>whnf
  exact Ac E (.cons .tmp .nil) E E
end Go.Sy.YtmelpejjondedaaGreat
namespace Go.Sy.YtmelpejjondedaaGreat
open Go.Proofs
attribute [local irreducible] Go.Sy.G Go.Sy.DR
set_option maxRecDepth 100000
set_option maxHeartbeats 4000000
theorem Km (i:Int) (n:Nat):Sy.Spec Tryz.prog 250 [Aa i,Aa n] [] (Ad (Am i n)) []:=Ab Γ hm 100 F250 Tryz.ntmps250 rfl fun F hF=>by
 conv=>whnf
 (repeat' (first | (refine ⟨fun h=>?_,fun h=>?_⟩ <;> (repeat (first | simp only [decide_eq_true_eq] at h | simp only [decide_eq_false_iff_not] at h)) <;> ((refine rg ?_);(conv=>whnf))) | (refine Ac rfl (.cons .tmp .nil) ?_ rfl)))
 all_goals (refine congrArg Ad ?_)
 all_goals grind [Am]
theorem Ahd (n:Net) (f:FrameM) (h:FrameOK f) (v:Int):Sy.Spec Tryz.prog 252 [Ap n,Bc f,Aa v] [] (.tup [.sl 1 Aj (Th f),Aa 0]) []:=Ab Γ hm 100 F252 Tryz.ntmps252 rfl fun F hF=>by
 conv=>whnf
 refine Ai (Ak [(0,55)] E F33 (Ll f h) E Y E ⟨.inr E,Y⟩) E E ?_
 refine As 55 E ?_
 refine rg ?_;conv=>whnf
 exact Ac E (.cons .tmp (.cons .tmp .nil)) E E
theorem Amb {f:FrameM} (hf:FrameOK f) (v:Nat) (hv:v ≤ 4094) (h:(tagT f v).2 = 0):FrameOK (tagT f v).1:=by
 unfold tagT at h ⊢
 split
 ·rw [if_pos (by assumption)] at h; cases h
 rw [if_neg (by assumption)] at h
 split
 ·rw [if_pos (by assumption)] at h; cases h
 refine ⟨hf.dst,hf.src,?_,?_⟩
 ·show (33024:Nat) ≤ 65535; decide
 ·dsimp only; simp; omega
theorem Abx (n:Net) (f:FrameM) (h:FrameOK f) (v:Nat) (hv:v ≤ 4094) :
  Sy.Spec Tryz.prog 251 [Ap n,Bc f,Aa v] [] (.tup [.sl 1 Aj (if (tagT f v).2 ≠ 0 then [] else Th (tagT f v).1),Aa (if (tagT f v).2 ≠ 0 then (tagT f v).2 else 0)]) []:=by
 have q:=Amc f v h hv
 have ho:=Amb h v hv
 generalize tagT f v = t at *
 obtain ⟨g,e⟩:=t
 dsimp only at q ho ⊢
 refine Ab Γ hm 100 F251 Tryz.ntmps251 E fun F hF=>by
  conv=>whnf
  refine Ag q F308 E E E E E ?_
  refine rg ?_;conv=>whnf
  by_cases he:e = 0
  ·subst he
   (refine ⟨fun h=>False.elim (absurd h (by decide)),fun _=>?_⟩;refine rg ?_;conv=>whnf)
   refine Bf 8 4 (Bc g) E E E ?_
   refine rg ?_;conv=>whnf
   refine Ai (Ak [(0,55)] E F33 (Ll g (ho E)) E Y E ⟨.inr E,Y⟩) E E ?_
   refine As 55 E ?_
   refine rg ?_;conv=>whnf
   exact Ac E (.cons .tmp (.cons .tmp .nil)) E E
  ·rw [if_pos he,if_pos he]
   (refine ⟨fun _=>?_,fun h=>False.elim (by simp at h; omega)⟩;refine rg ?_;conv=>whnf)
   refine An 6 1 Aj E ?_
   exact Ac E (.cons .tmp (.cons .tmp .nil)) E E
theorem Yp {n:Net} (h:Ah n = true) {i:Nat} (hi:i < n.domains.length):1 ≤ n.domains[i].vlan ∧ n.domains[i].vlan ≤ 4094:=by
 simp only [Ah,Bool.and_eq_true] at h
 have hb:C0 (Ia n) n.domains = true:=h.1.1.1.1.1.1.1.2
 have:=allB_iff.1 hb i hi
 simp only [Ia,Bool.and_eq_true,decide_eq_true_eq] at this
 omega
theorem Ann (n:Net) (hn:n.Fin) (port dom:Int) (f:FrameM) (h:FrameOK f) :
  Sy.Spec Tryz.prog 177 [Ap n,Aa port,Aa dom,Bc f] [] (.tup [.sl 1 Aj (leaveT n port dom f).1,Aa (leaveT n port dom f).2]) []:=Ab Γ hm 100 F177 Tryz.ntmps177 rfl fun F hF=>by
 have hres:=leaveT.eq_1 n port dom f
 generalize leaveT n port dom f = res at *
 have hr:=B4 n hn
 have hpS:=Km port n.ports.length
 have hdS:=Km dom n.domains.length
 conv=>whnf
 refine Ag hpS F250 E E E E E ?_
 cases hpl:Am port n.ports.length
 ·rw [if_pos (.inl hpl)] at hres
  subst hres
  (refine rg ?_;(conv=>whnf);refine aT ?_;refine rg ?_;(conv=>whnf);refine aT ?_;refine rg ?_;(conv=>whnf);refine aT ?_;refine rg ?_;conv=>whnf)
  refine An 8 1 Aj E ?_
  exact Ac E (.cons .tmp (.cons .tmp .nil)) E E
 (refine rg ?_;(conv=>whnf);refine aF ?_;refine rg ?_;conv=>whnf)
 refine Ag hdS F250 E E E E E ?_
 cases hdl:Am dom n.domains.length
 ·rw [if_pos (.inr (.inl hdl))] at hres
  subst hres
  (refine rg ?_;(conv=>whnf);refine aT ?_;refine rg ?_;(conv=>whnf);refine aT ?_;refine rg ?_;conv=>whnf)
  refine An 8 1 Aj E ?_
  exact Ac E (.cons .tmp (.cons .tmp .nil)) E E
 (refine rg ?_;(conv=>whnf);refine aF ?_;refine rg ?_;conv=>whnf)
 refine Ag hr F67 E E E E E ?_
 cases hbn:Ah n
 ·rw [if_pos (.inr (.inr hbn))] at hres
  subst hres
  (refine rg ?_;(conv=>whnf);refine aT ?_;refine rg ?_;conv=>whnf)
  refine An 8 1 Aj E ?_
  exact Ac E (.cons .tmp (.cons .tmp .nil)) E E
 rw [if_neg (by simp [hbn,hpl,hdl])] at hres
 have hpi:=Bn hpl
 have hdi:=Bn hdl
 have hp0:0 ≤ port:=hpi.1
 have hd0:0 ≤ dom:=hdi.1
 have hk:port.toNat < n.ports.length:=by omega
 have hkd:dom.toNat < n.domains.length:=by omega
 have e1:nth n.ports port = n.ports[port.toNat]:=Ao hk
 have e2:nth n.domains dom = n.domains[dom.toNat]:=Ao hkd
 have hsh:=hn.tagged _ (List.getElem_mem hk)
 have hv:=Yp hbn hkd
 obtain ⟨p,hp⟩:∃ p,n.ports[port.toNat]'hk = p:=⟨_,rfl⟩
 obtain ⟨d,hd⟩:∃ d,n.domains[dom.toNat]'hkd = d:=⟨_,rfl⟩
 rw [hp] at e1 hsh
 rw [hd] at e2 hv
 rw [e1,e2] at hres
 have qm:=Abt p d.vlan hsh
 (refine rg ?_;(conv=>whnf);refine aF ?_;refine rg ?_;conv=>whnf)
 refine ⟨E,hp0,hk,E,hd0,hkd,?_⟩
 rw [hp,hd]
 conv=>whnf
 refine ⟨(by kernel_rfl),?_⟩
 conv=>whnf
 refine ⟨fun h1=>?_,fun h1=>?_⟩
 ·rw [if_pos (.inl (by simpa using h1))] at hres
  subst hres
  (refine rg ?_;(conv=>whnf);refine aT ?_;refine rg ?_;conv=>whnf)
  refine An 8 1 Aj E ?_
  exact Ac E (.cons .tmp (.cons .tmp .nil)) E E
 refine Bf 10 7 (Bh p) E E E ?_
 refine rg ?_;conv=>whnf
 refine Ag qm F198 E E E E E ?_
 cases hm1:Hy p d.vlan
 ·rw [if_pos (.inr hm1)] at hres
  subst hres
  (refine rg ?_;(conv=>whnf);refine aT ?_;refine rg ?_;conv=>whnf)
  refine An 8 1 Aj E ?_
  exact Ac E (.cons .tmp (.cons .tmp .nil)) E E
 rw [if_neg (by simp at h1; simp [hm1,h1])] at hres
 have qt:=O1 f
 by_cases ht:f.typ = 33024
 ·rw [if_pos ht] at hres
  subst hres
  rw [decide_eq_true ht] at qt
  (refine rg ?_;(conv=>whnf);refine aF ?_;refine rg ?_;conv=>whnf)
  refine Ag qt F166 E E E E E ?_
  (refine rg ?_;(conv=>whnf);refine aT ?_;refine rg ?_;conv=>whnf)
  refine An 8 1 Aj E ?_
  exact Ac E (.cons .tmp (.cons .tmp .nil)) E E
 rw [if_neg ht] at hres
 rw [decide_eq_false ht] at qt
 (refine rg ?_;(conv=>whnf);refine aF ?_;refine rg ?_;conv=>whnf)
 refine Ag qt F166 E E E E E ?_
 (refine rg ?_;(conv=>whnf);refine aF ?_;refine rg ?_;conv=>whnf)
 refine ⟨fun h2=>?_,fun h2=>?_⟩
 ·rw [if_pos (by simpa using h2)] at hres
  subst hres
  refine rg ?_;conv=>whnf
  refine Ep ⟨⟨_,_,F252⟩,Ahd n f h d.vlan⟩ E E E E E E ?_
  refine rg ?_;conv=>whnf
  exact Ac E (.cons .tmp (.cons .tmp .nil)) E E
 rw [if_neg (by simpa using h2)] at hres
 refine rg ?_;conv=>whnf
 have hv0:(d.vlan.toNat:Int) = d.vlan:=by omega
 have qg:=Abx n f h d.vlan.toNat (by omega)
 rw [hv0] at qg
 refine Ep ⟨⟨_,_,F251⟩,qg⟩ E E E E E E ?_
 refine rg ?_;conv=>whnf
 by_cases he:(tagT f d.vlan).2 = 0
 ·rw [if_neg (by simpa using he)] at hres
  subst hres
  rw [if_neg (by simpa using he),if_neg (by simpa using he)]
  exact Ac E (.cons .tmp (.cons .tmp .nil)) E E
 ·rw [if_pos he] at hres
  subst hres
  rw [if_pos he,if_pos he]
  exact Ac E (.cons .tmp (.cons .tmp .nil)) E E
theorem inB_mem {l:List Int} {x:Int}:inB l x = true ↔ x ∈ l:=by
 simp [inB]
theorem Ag6 {n:Net} {dom port:Int} (hk:Am port n.ports.length = true):inB (Az n dom) port = ((nth n.ports port).dev == (nth n.domains dom).dev && Hy (nth n.ports port) (nth n.domains dom).vlan):=by
 have hp:=Bn hk
 rw [Bool.eq_iff_iff,inB_mem,Az,filtI_mem,I1]
 rw [show ((port.toNat:Nat):Int) = port by omega]
 exact ⟨fun h=>h.2.2,fun h=>⟨hp.1,hp.2,h⟩⟩
theorem dm_iff {a b:Int} {c:Bool}:(a == b && c) = false ↔ (a ≠ b ∨ c = false):=by
 cases c <;> simp
theorem Xh (n:Net) (hn:n.Fin) (port dom:Int) (f:FrameM) (h:FrameOK f) :
  Sy.Spec Tryz.prog 148 [Ap n,Aa port,Aa dom,Bc f] [] (.tup [.sl 1 Aj (leaveT n port dom f).1,Aa (leaveT n port dom f).2]) []:=Ab Γ hm 100 F148 Tryz.ntmps148 rfl fun F hF=>by
 have hres:=leaveT.eq_1 n port dom f
 generalize leaveT n port dom f = res at *
 have hr:=Dw n hn
 have hpS:=A9 port n.ports.length
 have hdS:=A9 dom n.domains.length
 conv=>whnf
 refine Ag hr F74 E E E E E ?_
 cases hbn:Ah n
 ·rw [if_pos (.inr (.inr hbn))] at hres
  subst hres
  (refine rg ?_;(conv=>whnf);refine aT ?_;refine rg ?_;(conv=>whnf);refine aT ?_;refine rg ?_;(conv=>whnf);refine aT ?_;refine rg ?_;conv=>whnf)
  refine An 8 1 Aj E ?_
  exact Ac E (.cons .tmp (.cons .tmp .nil)) E E
 (refine rg ?_;(conv=>whnf);refine aF ?_;refine rg ?_;conv=>whnf)
 refine Ag hpS F35 E E E E E ?_
 cases hpl:Am port n.ports.length
 ·rw [if_pos (.inl hpl)] at hres
  subst hres
  (refine rg ?_;(conv=>whnf);refine aT ?_;refine rg ?_;(conv=>whnf);refine aT ?_;refine rg ?_;conv=>whnf)
  refine An 8 1 Aj E ?_
  exact Ac E (.cons .tmp (.cons .tmp .nil)) E E
 (refine rg ?_;(conv=>whnf);refine aF ?_;refine rg ?_;conv=>whnf)
 refine Ag hdS F35 E E E E E ?_
 cases hdl:Am dom n.domains.length
 ·rw [if_pos (.inr (.inl hdl))] at hres
  subst hres
  (refine rg ?_;(conv=>whnf);refine aT ?_;refine rg ?_;conv=>whnf)
  refine An 8 1 Aj E ?_
  exact Ac E (.cons .tmp (.cons .tmp .nil)) E E
 rw [if_neg (by simp [hbn,hpl,hdl])] at hres
 have hin:=Ag6 (dom:=dom) hpl
 have hpi:=Bn hpl
 have hdi:=Bn hdl
 have hp0:0 ≤ port:=hpi.1
 have hd0:0 ≤ dom:=hdi.1
 have hk:port.toNat < n.ports.length:=by omega
 have hkd:dom.toNat < n.domains.length:=by omega
 have e1:nth n.ports port = n.ports[port.toNat]:=Ao hk
 have e2:nth n.domains dom = n.domains[dom.toNat]:=Ao hkd
 have hv:=Yp hbn hkd
 have qm:=Kh n hn hbn dom
 have qi:=El (Cd n dom) port (Hx n hn dom)
 have hmt:Cd n dom = Az n dom:=by rw [Cd,if_pos ⟨⟨hdi.1,hdi.2⟩,hbn⟩]
 rw [hmt] at qm qi
 obtain ⟨p,hp⟩:∃ p,n.ports[port.toNat]'hk = p:=⟨_,rfl⟩
 obtain ⟨d,hd⟩:∃ d,n.domains[dom.toNat]'hkd = d:=⟨_,rfl⟩
 rw [hp] at e1
 rw [hd] at e2 hv
 rw [e1,e2] at hres hin
 generalize Az n dom = ml at *
 (refine rg ?_;(conv=>whnf);refine aF ?_;refine rg ?_;conv=>whnf)
 refine Ag qm F210 E E E E E ?_
 refine rg ?_;conv=>whnf
 refine Ag qi F142 E E E E E ?_
 cases hi:inB ml port
 ·rw [hi] at hin
  rw [if_pos (dm_iff.1 hin.symm)] at hres
  subst hres
  (refine rg ?_;(conv=>whnf);refine aT ?_;refine rg ?_;conv=>whnf)
  refine An 8 1 Aj E ?_
  exact Ac E (.cons .tmp (.cons .tmp .nil)) E E
 rw [hi] at hin
 rw [if_neg (fun h=>by rw [dm_iff.2 h] at hin; cases hin)] at hres
 (refine rg ?_;(conv=>whnf);refine aF ?_;refine rg ?_;conv=>whnf)
 refine ⟨fun h1=>?_,fun h1=>?_⟩
 ·rw [if_pos (by simp at h1; omega)] at hres
  subst hres
  refine rg ?_;conv=>whnf
  refine An 8 1 Aj E ?_
  exact Ac E (.cons .tmp (.cons .tmp .nil)) E E
 rw [if_neg (by simp at h1; omega)] at hres
 refine rg ?_;conv=>whnf
 refine ⟨E,hd0,hkd,?_⟩
 rw [hd]
 conv=>whnf
 refine ⟨E,hp0,hk,?_⟩
 rw [hp]
 conv=>whnf
 refine ⟨fun h2=>?_,fun h2=>?_⟩
 ·rw [if_pos (by simp at h2; omega)] at hres
  subst hres
  refine rg ?_;conv=>whnf
  refine Ai (Ak [(0,55)] E F220 (O6 f h) E Y E ⟨.inr E,Y⟩) E E ?_
  refine As 55 E ?_
  refine rg ?_;conv=>whnf
  exact Ac E (.cons .tmp (.cons .tmp .nil)) E E
 rw [if_neg (by simp at h2; omega)] at hres
 have hv0:(d.vlan.toNat:Int) = d.vlan:=by omega
 have qg:=Agk f d.vlan.toNat h (by omega)
 have ho:=Amb h d.vlan.toNat (by omega)
 rw [hv0] at qg ho
 generalize tagT f d.vlan = t at *
 obtain ⟨g,e⟩:=t
 dsimp only at qg ho hres
 refine rg ?_;conv=>whnf
 refine Ag qg F221 E E E E E ?_
 refine rg ?_;conv=>whnf
 by_cases he:e = 0
 ·subst he
  rw [if_neg (by decide)] at hres
  subst hres
  (refine ⟨fun h=>False.elim (absurd h (by decide)),fun _=>?_⟩;refine rg ?_;conv=>whnf)
  refine Bf 11 4 (Bc g) E E E ?_
  refine rg ?_;conv=>whnf
  refine Ai (Ak [(0,55)] E F220 (O6 g (ho E)) E Y E ⟨.inr E,Y⟩) E E ?_
  refine As 55 E ?_
  refine rg ?_;conv=>whnf
  exact Ac E (.cons .tmp (.cons .tmp .nil)) E E
 ·rw [if_pos he] at hres
  subst hres
  (refine ⟨fun _=>?_,fun h=>False.elim (by simp at h; omega)⟩;refine rg ?_;conv=>whnf)
  refine An 8 1 Aj E ?_
  exact Ac E (.cons .tmp (.cons .tmp .nil)) E E
theorem Ahb (n:Net) (hn:n.Fin) (port:Int) (b:List UInt8) (hb:b.length < 100000) :
  Sy.Spec Tryz.prog 182 [Ap n,Aa port,.sl 1 Aj b] [] (.tup [Aa (linkT n port b).1,Aa (linkT n port b).2.1,Bc (linkT n port b).2.2.1,Aa (linkT n port b).2.2.2]) []:=Ab Γ hm 100 F182 Tryz.ntmps182 rfl fun F hF=>by
 have hres:=linkT.eq_1 n port b
 generalize linkT n port b = res at *
 have qo:=Abw n hn port
 have qe:=Ae0 n hn (D5 n port) b hb
 generalize D5 n port = o at *
 conv=>whnf
 refine Ag qo F258 E E E E E ?_
 refine rg ?_;conv=>whnf
 refine ⟨fun h1=>?_,fun h1=>?_⟩
 ·rw [if_pos (by simpa using h1)] at hres
  subst hres
  refine rg ?_;conv=>whnf
  refine Av 8 zF E (.cons (.refl _) (.cons (.refl _) (.cons (.refl _) (.cons .nil .nil)))) ?_
  exact Ac E (.cons .tmp (.cons .tmp (.cons (.cell E E E E) (.cons .tmp .nil)))) E E
 rw [if_neg (by simpa using h1)] at hres
 refine rg ?_;conv=>whnf
 refine Ag qe F100 E E E E E ?_
 generalize enterT n o b = en at *
 obtain ⟨x1,g,x2⟩:=en
 subst hres
 refine rg ?_;conv=>whnf
 refine ⟨(by kernel_rfl),?_⟩
 conv=>whnf
 exact Ac E (.cons .tmp (.cons .tmp (.cons (.cell E E E E) (.cons .tmp .nil)))) E E
theorem Agb (n:Net) (hn:n.Fin) (port:Int) (b:List UInt8) (hb:b.length < 100000) :
  Sy.Spec Tryz.prog 151 [Ap n,Aa port,.sl 1 Aj b] [] (.tup [Aa (linkT n port b).1,Aa (linkT n port b).2.1,Bc (linkT n port b).2.2.1,Aa (linkT n port b).2.2.2]) []:=Ab Γ hm 100 F151 Tryz.ntmps151 rfl fun F hF=>by
 have hres:=linkT.eq_1 n port b
 generalize linkT n port b = res at *
 have hr:=Dw n hn
 conv=>whnf
 refine Ag hr F74 E E E E E ?_
 cases hbn:Ah n
 ·have ho:D5 n port = -1:=by
   rw [D5,if_neg (by simp [hbn])]
  rw [if_pos (by rw [ho]; decide)] at hres
  subst hres
  (refine rg ?_;(conv=>whnf);refine aT ?_;refine rg ?_;(conv=>whnf);refine aT ?_;refine rg ?_;conv=>whnf)
  refine Av 8 zF E (.cons (.refl _) (.cons (.refl _) (.cons (.refl _) (.cons .nil .nil)))) ?_
  exact Ac E (.cons .tmp (.cons .tmp (.cons (.cell E E E E) (.cons .tmp .nil)))) E E
 have qo:=Akb n hn hbn port
 have qe:=Adn n hn (D5 n port) b hb
 generalize D5 n port = o at *
 (refine rg ?_;(conv=>whnf);refine aF ?_;refine rg ?_;conv=>whnf)
 refine Ag qo F204 E E E E E ?_
 refine rg ?_;conv=>whnf
 refine ⟨fun h1=>?_,fun h1=>?_⟩
 ·rw [if_pos (by simpa using h1)] at hres
  subst hres
  refine rg ?_;conv=>whnf
  refine Av 8 zF E (.cons (.refl _) (.cons (.refl _) (.cons (.refl _) (.cons .nil .nil)))) ?_
  exact Ac E (.cons .tmp (.cons .tmp (.cons (.cell E E E E) (.cons .tmp .nil)))) E E
 rw [if_neg (by simpa using h1)] at hres
 refine rg ?_;conv=>whnf
 refine Ag qo F204 E E E E E ?_
 refine rg ?_;conv=>whnf
 refine Ag qe F36 E E E E E ?_
 generalize enterT n o b = en at *
 obtain ⟨x1,g,x2⟩:=en
 subst hres
 refine rg ?_;conv=>whnf
 refine ⟨(by kernel_rfl),?_⟩
 conv=>whnf
 exact Ac E (.cons .tmp (.cons .tmp (.cons (.cell E E E E) (.cons .tmp .nil)))) E E
end Go.Sy.YtmelpejjondedaaGreat
namespace Go.Sy.YtmelpejjondedaaGreat
open Go.Proofs
theorem Io (l:List Nat):(B5 l).length = 2 * l.length:=by
 induction l with
 | nil=>rfl
 | cons a l ih=>simp only [B5,List.flatMap_cons,List.length_append,List.length_cons,List.length_nil] at ih ⊢; omega
theorem Is (l:List Nat) (n:Nat):B5 (l ++ [n]) = B5 l ++ [UInt8.ofNat (n / 256),UInt8.ofNat n]:=by simp [B5]
theorem E7 (b:List UInt8) (k m:Nat):numAt b k m < 256 ^ m:=by
 have h:=Je _ ((b.drop k).take m) rfl
 have h2:((b.drop k).take m).length ≤ m:=by rw [List.length_take]; omega
 exact Nat.lt_of_lt_of_le h (Nat.pow_le_pow_right (by decide) h2)
theorem J4 {b:List UInt8} {k:Nat} (h:k + 2 ≤ b.length):numAt b k 2 = (b[k]'(by omega)).toNat * 256 + (b[k + 1]'(by omega)).toNat:=by
 rw [numAt,Mq h,Ww]
theorem Ou {b:List UInt8} {k:Nat} (h:k < b.length):bAt b k = b[k]:=Yj h
theorem Ama {b:List UInt8} {k:Nat} (h:k + 3 ≤ b.length):(b.drop k).take 3 = [b[k]'(by omega),b[k + 1]'(by omega),b[k + 2]'(by omega)]:=by
 rw [List.drop_eq_getElem_cons (by omega),List.drop_eq_getElem_cons (i:=k + 1) (by omega),List.drop_eq_getElem_cons (i:=k + 2) (by omega)]
 rfl
theorem Wz {b:List UInt8} {k:Nat} (h:k + 4 ≤ b.length):(b.drop k).take 4 = [b[k]'(by omega),b[k + 1]'(by omega),b[k + 2]'(by omega),b[k + 3]'(by omega)]:=by
 rw [List.drop_eq_getElem_cons (by omega),List.drop_eq_getElem_cons (i:=k + 1) (by omega),List.drop_eq_getElem_cons (i:=k + 2) (by omega),List.drop_eq_getElem_cons (i:=k + 3) (by omega)]
 rfl
theorem Ag4 {b:List UInt8} {k:Nat} (h:k + 3 ≤ b.length):numAt b k 3 = ((b[k]'(by omega)).toNat * 256 + (b[k + 1]'(by omega)).toNat) * 256 + (b[k + 2]'(by omega)).toNat:=by
 rw [numAt,Ama h]
 simp [Ey]
theorem numAt4 {b:List UInt8} {k:Nat} (h:k + 4 ≤ b.length):numAt b k 4 = numAt b k 2 * 65536 + numAt b (k + 2) 2:=by
 have e:b[k + 2 + 1]'(by omega) = b[k + 3]'(by omega):=rfl
 rw [numAt,Wz h,J4 (by omega),J4 (by omega),e]
 simp [Ey]
 omega
theorem Ix (f:FrameM):(Th f).length = 14 + f.body.length:=by
 simp [Th,frame,A4]
 omega
theorem Kz (p:PacketM) (s:Nat):(Hj p s).length = 20:=by rw [Hj,Io]; rfl
theorem Oc (p:PacketM):(Ts p).length = 20 + p.body.length:=by rw [Ts,List.length_append,Kz]
theorem Acx (s d:Nat) (b:List UInt8):(Acy s d b).length = 8 + b.length:=by rw [Acy,List.length_append,Io]; rfl
theorem D7 (v:Nat):(H1 v).length = 8:=rfl
theorem Ds:FrameOK noF:=⟨by decide,by decide,by decide,by decide⟩
theorem Yd (ip:Nat) (h:ip < 4294967296):Ej ip < 281474976710656:=by rw [Ej,Int.toNat_natCast]; omega
theorem Zb (n:Net) (port dom:Int) (f:FrameM) (hf:FrameOK f):(leaveT n port dom f).1.length ≤ 1518:=by
 have h4:=hf.body
 unfold leaveT
 split
 ·simp
 split
 ·simp
 split
 ·simp
 split
 ·rw [Ix]; omega
 split
 ·simp
 ·rw [Ix]
  rename_i h
  have h2:(tagT f (nth n.domains dom).vlan).2 = 0:=Classical.byContradiction h
  unfold tagT at h2 ⊢
  split
  ·rw [if_pos (by assumption)] at h2; cases h2
  rw [if_neg (by assumption)] at h2
  split
  ·rw [if_pos (by assumption)] at h2; cases h2
  ·dsimp only
   simp
   omega
theorem X9 {b:List UInt8} (h:(ipTakeT b).2 = 0):PacketOK (ipTakeT b).1 ∧ (ipTakeT b).1.body.length + 20 ≤ b.length:=by
 unfold ipTakeT at h ⊢
 split
 ·rw [if_pos (by assumption)] at h; cases h
 rw [if_neg (by assumption)] at h
 split
 ·rw [if_pos (by assumption)] at h; cases h
 rw [if_neg (by assumption)] at h
 split
 ·rw [if_pos (by assumption)] at h; cases h
 rw [if_neg (by assumption)] at h
 split
 ·rw [if_pos (by assumption)] at h; cases h
 rw [if_neg (by assumption)] at h
 split
 ·rw [if_pos (by assumption)] at h; cases h
 have l1:=(bAt b 1).toNat_lt
 have l8:=(bAt b 8).toNat_lt
 have l9:=(bAt b 9).toNat_lt
 have n4:=E7 b 4 2
 have n12:=E7 b 12 4
 have n16:=E7 b 16 4
 refine ⟨⟨?_,?_,?_,?_,?_,?_⟩,?_⟩
 ·show (bAt b 1).toNat ≤ 255; omega
 ·show numAt b 4 2 ≤ 65535; omega
 ·show (bAt b 8).toNat ≤ 255; omega
 ·show (bAt b 9).toNat ≤ 255; omega
 ·exact n12
 ·exact n16
 ·show ((b.take (numAt b 2 2)).drop 20).length + 20 ≤ b.length
  rw [List.length_drop,List.length_take]
  omega
theorem Aqs {b:List UInt8} (h:(ipTakeT b).2 ≠ 0):(ipTakeT b).1 = noP:=by
 unfold ipTakeT at h ⊢
 split
 ·rfl
 rw [if_neg (by assumption)] at h
 split
 ·rfl
 rw [if_neg (by assumption)] at h
 split
 ·rfl
 rw [if_neg (by assumption)] at h
 split
 ·rfl
 rw [if_neg (by assumption)] at h
 split
 ·rfl
 rw [if_neg (by assumption)] at h
 exact absurd E h
theorem Ag5:PacketOK noP:=⟨by decide,by decide,by decide,by decide,by decide,by decide⟩
theorem Q4:∀ (l:List Nat) (j:Nat),j ≤ l.length → (∀ n ∈ l,n < 4294967296) → H7 (B5 l) j = ((l.take j).map (· % 65536)).sum
 | l,0,_,_=>by simp [H7]
 | l,j + 1,h,hl=>by
  have ih:=Q4 l j (by omega) hl
  have hj:j < l.length:=by omega
  have e1:(B5 l).getD (2 * j) 0 = UInt8.ofNat (l[j] / 256) ∧ (B5 l).getD (2 * j + 1) 0 = UInt8.ofNat l[j]:=by
   clear ih hl
   induction l generalizing j with
   | nil=>simp at hj
   | cons a l ih2 =>
    cases j with
    | zero=>simp [B5]
    | succ j =>
     have:=ih2 j (by simpa using h) (by simpa using hj)
     rw [B5,List.flatMap_cons,show 2 * (j + 1) + 1 = (2 * j + 1) + 1 + 1 by omega,show 2 * (j + 1) = 2 * j + 1 + 1 by omega]
     simpa [B5] using this
  rw [H7,ih,e1.1,e1.2,List.take_succ_eq_append_getElem hj,List.map_append,List.sum_append]
  have hx:=hl l[j] (List.getElem_mem hj)
  generalize l[j] = x at *
  simp only [List.map_cons,List.map_nil,List.sum_cons,List.sum_nil,Kk]
  omega
def Qc (p:PacketM):List UInt8:=[69,UInt8.ofNat p.tos] ++ be 2 (20 + p.body.length) ++ be 2 p.id ++ [0,0,UInt8.ofNat p.ttl,UInt8.ofNat p.proto] ++ (be 4 p.src ++ be 4 p.dst)
theorem Oa (p:PacketM):(Qc p).length = 18:=by simp [Qc,A4]
theorem be2 (m:Nat):be 2 m = B5 [m]:=by simp [be,B5]
theorem be4 (m:Nat):be 4 m = B5 [m / 65536,m]:=by simp [be,B5,Nat.div_div_eq_div_mul]
theorem Zd {p:PacketM} (hp:PacketOK p):Qc p = B5 [17664 + p.tos,20 + p.body.length,p.id,0,p.ttl * 256 + p.proto,p.src / 65536,p.src,p.dst / 65536,p.dst]:=by
 have h1:=hp.tos
 have h2:=hp.proto
 have h3:=hp.ttl
 have e1:(17664 + p.tos) / 256 = 69:=by omega
 have e2:UInt8.ofNat (17664 + p.tos) = UInt8.ofNat p.tos:=by apply UInt8.toNat_inj.1; simp
 have e3:(p.ttl * 256 + p.proto) / 256 = p.ttl:=by omega
 have e4:UInt8.ofNat (p.ttl * 256 + p.proto) = UInt8.ofNat p.proto:=by apply UInt8.toNat_inj.1; simp
 rw [Qc,be2,be2,be4,be4]
 simp only [B5,List.flatMap_cons,List.flatMap_nil,List.cons_append,List.nil_append,List.append_nil,e1,e2,e3,e4]
 rfl
theorem Ac3 {p:PacketM} (hp:PacketOK p) (hb:p.body.length ≤ 1480) (s:Nat) (hs:s ≤ 65535):∀ n ∈ [17664 + p.tos,20 + p.body.length,p.id,0,p.ttl * 256 + p.proto,s,p.src / 65536,p.src,p.dst / 65536,p.dst],n < 4294967296:=by
 have h1:=hp.tos
 have h2:=hp.proto
 have h3:=hp.ttl
 have h4:=hp.id
 have h5:=hp.src
 have h6:=hp.dst
 intro n hn
 simp only [List.mem_cons,List.not_mem_nil,or_false] at hn
 rcases hn with rfl | rfl | rfl | rfl | rfl | rfl | rfl | rfl | rfl | rfl <;> omega
theorem Aej {p:PacketM} (hp:PacketOK p) (hb:p.body.length ≤ 1480):S4 (Qc p) = Lh p:=by
 have hw:=Ac3 hp hb 0 (by decide)
 rw [Lh,S4,S4,Oa,Kz,Zd hp,Hj]
 rw [show 18 / 2 = 9 from rfl,show 20 / 2 = 10 from rfl,Q4 _ 9 (by simp) (fun n hn=>hw n (by
  simp only [List.mem_cons,List.not_mem_nil,or_false] at hn ⊢
  rcases hn with h | h | h | h | h | h | h | h | h <;> simp [h])),Q4 _ 10 (by simp) hw]
 simp
theorem Aek {p:PacketM} (hp:PacketOK p):[69,UInt8.ofNat p.tos] ++ be 2 (20 + p.body.length) ++ be 2 p.id ++ [0,0,UInt8.ofNat p.ttl,UInt8.ofNat p.proto] ++ be 2 (Lh p) ++ (be 4 p.src ++ be 4 p.dst) = Hj p (Lh p):=by
 have h1:=hp.tos
 have h2:=hp.proto
 have h3:=hp.ttl
 have e1:(17664 + p.tos) / 256 = 69:=by omega
 have e2:UInt8.ofNat (17664 + p.tos) = UInt8.ofNat p.tos:=by apply UInt8.toNat_inj.1; simp
 have e3:(p.ttl * 256 + p.proto) / 256 = p.ttl:=by omega
 have e4:UInt8.ofNat (p.ttl * 256 + p.proto) = UInt8.ofNat p.proto:=by apply UInt8.toNat_inj.1; simp
 rw [Hj,be2,be2,be2,be4,be4]
 simp only [B5,List.flatMap_cons,List.flatMap_nil,List.cons_append,List.nil_append,List.append_nil,e1,e2,e3,e4]
 rfl
theorem Ahj (p:PacketM) (s:Nat):((Hj p 0).set 10 (UInt8.ofNat (s / 256))).set 11 (UInt8.ofNat s) = Hj p s:=by
 simp only [Hj,B5,List.flatMap_cons,List.flatMap_nil,List.cons_append,List.nil_append,List.set_cons_succ,List.set_cons_zero]
theorem Ack (a b v:Nat) (f:FrameM) (ha:a < 4294967296) (hb:b < 4294967296):PacketOK (Mn a b v f):=⟨Nat.zero_le _,Nat.zero_le _,by show (64:Nat) ≤ 255; decide,by show (17:Nat) ≤ 255; decide,ha,hb⟩
theorem Ht (a b v:Nat) (f:FrameM):(Mn a b v f).body.length = 30 + f.body.length:=by
 simp only [Mn,Acx,List.length_append,D7,Ix]; omega
theorem Aaw (a b:Nat) (v:Int) (f:FrameM):(wrapT a b v f).1.length ≤ 1514:=by
 unfold wrapT
 split
 ·simp
 split
 ·simp
 split
 ·simp
 ·simp only [frame,List.length_append,A4,Oc,Ht,List.length_cons,List.length_nil]; omega
theorem Abs (n:Net) (dom peer:Int) (f:FrameM):(meshT n dom peer f).1.length ≤ 1514:=by
 unfold meshT
 split
 ·simp
 split
 ·simp
 ·exact Aaw _ _ _ _
theorem Ao1 {b:List UInt8}:(udpTakeT b).2.2.1.length ≤ b.length:=by
 unfold udpTakeT
 repeat' split
 all_goals first | (simp; done) | (simp only [List.length_drop,List.length_take]; omega)
theorem vniT_body {b:List UInt8}:(vniT b).2.1.length ≤ b.length:=by
 unfold vniT
 repeat' split
 all_goals first | (simp; done) | (simp only [List.length_drop]; omega)
theorem Uz (b:List UInt8):PacketOK (outerT b).1 ∧ (outerT b).1.body.length ≤ b.length:=by
 unfold outerT
 split
 ·exact ⟨Ag5,by simp [noP]⟩
 split
 ·exact ⟨Ag5,by simp [noP]⟩
 split
 ·exact ⟨Ag5,by simp [noP]⟩
 ·rename_i h1 h2 h3
  have h4:(takeF b).2 = 0:=Classical.byContradiction h1
  have h5:(ipTakeT (takeF b).1.body).2 = 0:=Classical.byContradiction h3
  obtain ⟨h6,h7⟩:=X9 h5
  refine ⟨h6,?_⟩
  have h8:(takeF b).1.body.length ≤ b.length:=by
   unfold takeF
   repeat' split
   all_goals simp [noF]
  dsimp only
  omega
theorem Aah (b:List UInt8):FrameOK (innerT b).2.1 ∧ 0 ≤ (innerT b).1:=by
 unfold innerT
 repeat' split
 all_goals first | exact ⟨Ds,Int.le_refl _⟩ | skip
 rename_i h1 h2 h3 h4 h5
 refine ⟨Acz (Classical.byContradiction h4),?_⟩
 show 0 ≤ (vniT (udpTakeT b).2.2.1).1
 unfold vniT
 repeat' split
 all_goals omega
theorem Q5 (b:List UInt8):(unwrapT b).1 < 4294967296 ∧ (unwrapT b).2.1 < 4294967296 ∧ 0 ≤ (unwrapT b).2.2.1 ∧ FrameOK (unwrapT b).2.2.2.1:=by
 unfold unwrapT
 split
 ·exact ⟨Nat.zero_lt_succ _,Nat.zero_lt_succ _,Int.le_refl _,Ds⟩
 split
 ·exact ⟨Nat.zero_lt_succ _,Nat.zero_lt_succ _,Int.le_refl _,Ds⟩
 ·exact ⟨(Uz b).1.src,(Uz b).1.dst,(Aah _).2,(Aah _).1⟩
theorem Aao (n:Net) (port:Int) (f:FrameM) (hf:FrameOK f) (tg:Bool) (vid:Int):FrameOK (Ik n port f tg vid).2.1:=by
 unfold Ik
 split
 ·exact Ds
 split
 ·exact Ds
 ·exact hf
theorem Qf (n:Net) (port:Int) (b:List UInt8):FrameOK (enterT n port b).2.1:=by
 unfold enterT
 split
 ·exact Ds
 split
 ·exact Ds
 rename_i h1 h2
 have h3:=Acz (Classical.byContradiction h2)
 split
 ·split
  ·exact Ds
  ·rename_i h5
   exact Aao _ _ _ (Amf h3 (Classical.byContradiction h5)) _ _
 ·exact Aao _ _ _ h3 _ _
theorem X0 (n:Net) (port:Int) (b:List UInt8):FrameOK (linkT n port b).2.2.1:=by
 unfold linkT
 split
 ·exact Ds
 ·exact Qf _ _ _
theorem Yw (n:Net) (b:List UInt8):FrameOK (comeT n b).2.2.1:=by
 unfold comeT
 split
 ·exact Ds
 split
 ·exact Ds
 split
 ·exact Ds
 split
 ·exact Ds
 ·exact (Q5 b).2.2.2
theorem Ap3 (n:Net) (hm:n.Num) (irb:Int) (f:FrameM) (hin:∀ (d:Int),(lookT n irb d).2 = true → 0 ≤ (lookT n irb d).1 ∧ (lookT n irb d).1.toNat < n.irbs.length):FrameOK (hopT n irb f).2.1:=by
 unfold hopT
 split
 ·exact Ds
 split
 ·exact Ds
 split
 ·exact Ds
 split
 ·exact Ds
 split
 ·exact Ds
 split
 ·exact Ds
 rename_i h1 h2 h3 h4 h5 h6
 have hp:=(X9 (Classical.byContradiction h3)).1
 have hl:=hin ((ipTakeT f.body).1.dst:Int) (by simpa using h5)
 have ha:=hm.addr _ (List.getElem_mem hl.2)
 rw [← Ao hl.2] at ha
 refine ⟨Yd _ hp.dst,?_,?_,?_⟩
 ·show Ej (nth n.irbs _).addr < _
  rw [Ej]; omega
 ·show (2048:Nat) ≤ 65535; decide
 ·show (Ts (Aem (ipTakeT f.body).1)).length ≤ 1504
  rw [Oc]
  show 20 + (ipTakeT f.body).1.body.length ≤ 1504
  omega
end Go.Sy.YtmelpejjondedaaGreat
namespace Go.Sy
structure Meth (P:Program) (t:TypeId) (name:String) (f:FuncId) (pr:Bool) (e:TypeId):Prop where
 row:∃ i m,P.info? t = some i ∧ i.methods.find? (·.name == name) = some m ∧ m.path = #[] ∧ m.func = some (f,pr)
 under:P.underlying t = some (.pointer e)
theorem Xd {P:Program} {t:TypeId} {name:String} {f:FuncId} {e:TypeId} (hm:Meth P t name f true e) (w:World) (v:Value):(Go.method (P.types.size + Made.depth) t v name).run P w = .ok (f,v) w:=by
 obtain ⟨⟨i,m,h1,h2,h3,h4⟩,hu⟩:=hm
 show (Go.method (P.types.size + 99 + 1) t v name).run P w = _
 rw [Go.method]
 simp only [Sem.run_bind,run_typeInfo w h1,Result.andThen_ok,h2,h3,Go.follow,Sem.run_pure,h4,Go.receiverAt,run_underlying hu,Go.Place.get]
theorem Xc {P:Program} {t:TypeId} {name:String} {f:FuncId} {e:TypeId} (hm:Meth P t name f false e) (w:World) (a:Addr) {v:Value} (hv:(loadVar e a).run P w = .ok v w):(Go.method (P.types.size + Made.depth) t (.pointer (some a)) name).run P w = .ok (f,v) w:=by
 obtain ⟨⟨i,m,h1,h2,h3,h4⟩,hu⟩:=hm
 show (Go.method (P.types.size + 99 + 1) t (.pointer (some a)) name).run P w = _
 rw [Go.method]
 have he:(#[]:Array FieldStep).isEmpty = true:=rfl
 simp only [Sem.run_bind,run_typeInfo w h1,Result.andThen_ok,h2,h3,Go.follow,Sem.run_pure,h4,Go.receiverAt,run_underlying hu,Go.Place.get,he,if_true]
 have hs : ∀ n : String, (Builtin.ssaWrapNilChk_ #[t] t #[.pointer (some a), strVal "", strVal n]).run P w = .ok (.pointer (some a)) w := fun n => rfl
 simp only [hs,Result.andThen_ok,asAddr,Sem.run_pure,hv]
theorem Q2 {P:Program} {o:Oper} {s:SS} {rd:List Nat} {f:FuncId} {fn:Func} {c:Code} {t e:TypeId} {name:String} {x:Operand} {xs:List Operand} {ts:Array TypeId} {y:SV} (hm:Meth P t name f true e) (hf:Fun P f fn c) (h:o.op = .call ⟨.invoke x name,xs.toArray,ts⟩) (hx:ev s x = .ifc t y) :
  Mg P o s rd f (y :: xs.map (ev s)) :=
 fun κ a w hr _=>by
  have h1:=hr x (by simp [h,Op.operands,Call.operands])
  rw [hx] at h1
  simp only [Rd] at h1
  obtain ⟨u,e1,e2⟩:=h1
  refine ⟨u :: xs.map a.eval,?_,?_⟩
  ·have hcall:=Jf hf (u :: xs.map a.eval).toArray w
   have hmeth:=Xd hm w u
   simp only [execOp,h,resolve,invoke,e1,Sem.run_bind,Sem.run_pure,Result.andThen_ok] at hcall ⊢
   simp only [callMethod]
   rw [← hcall]
   have htk:(xs.map a.eval).take xs.length = xs.map a.eval:=List.take_of_length_le (by simp)
   simp [hmeth,Sem.run_bind,htk]
  ·simp only [RdL]
   exact ⟨_,_,E,e2,Kt xs (fun y hy=>hr y (by simp [h,Op.operands,Call.operands,hy]))⟩
theorem Bo {P:Program} (Γ:Ty P) {o:Oper} {s:SS} {f:FuncId} {fn:Func} {c:Code} {t e:TypeId} {ti:TI} {name:String} {x:Operand} {xs:List Operand} {ts:Array TypeId} {k off:Nat} {l:List SV} {z:SV} (hm:Meth P t name f false e) (hf:Fun P f fn c) (h:o.op = .call ⟨.invoke x name,xs.toArray,ts⟩)
  (hx:ev s x = .ifc t (.ptr k off)) (hk:s.h k = .box l) (ht:Γ.get e = some ti) (hz:E0 ti l off = some z):Mg P o s [k] f (z :: xs.map (ev s)) :=
 fun κ a w hr ho=>by
  have h1:=hr x (by simp [h,Op.operands,Call.operands])
  rw [hx] at h1
  simp only [Rd] at h1
  obtain ⟨u,e1,e2⟩:=h1
  have hob:=ho k (by simp)
  rw [hk] at hob
  obtain ⟨b,f1,f2⟩:=hob.cellsAt
  rw [f1] at e2
  simp only at e2
  subst e2
  obtain ⟨v,g1,g2⟩:=Ju (P:=P) Γ ht f2 hz
  rw [Nat.zero_add] at g1
  refine ⟨v :: xs.map a.eval,?_,?_⟩
  ·have hcall:=Jf hf (v :: xs.map a.eval).toArray w
   have hmeth:=Xc hm w ⟨b,off,none⟩ g1
   simp only [execOp,h,resolve,invoke,e1,Sem.run_bind,Sem.run_pure,Result.andThen_ok] at hcall ⊢
   simp only [callMethod]
   rw [← hcall]
   have htk:(xs.map a.eval).take xs.length = xs.map a.eval:=List.take_of_length_le (by simp)
   simp [hmeth,Sem.run_bind,htk]
  ·simp only [RdL]
   exact ⟨_,_,E,g2,Kt xs (fun y hy=>hr y (by simp [h,Op.operands,Call.operands,hy]))⟩
theorem V1 {P:Program} (Γ:Ty P) {o:Oper} {s:SS} {x:Operand} {xt t:TypeId} {ti:TI} {y:SV} {ok:Bool} (h:o.op = .typeAssert x xt t ok) (hx:ev s x = .ifc t y) (ht:Γ.get t = some ti) (hk:ti.k matches .bool | .int _ | .string | .slice .. | .struct _ | .ptr | .func) :
  Good P o s ⟨if ok then .tup [y,Ad true] else y,[],[]⟩ :=
 Good.pure fun κ a w _ hr _=>by
  have h1:=hr x (by simp [h,Op.operands])
  rw [hx] at h1
  simp only [Rd] at h1
  obtain ⟨u,e1,e2⟩:=h1
  obtain ⟨d,info,z,k1,k2,_⟩:=Γ.ok t ti ht
  have hni:∀ ms,d ≠ .interface ms:=by
   obtain ⟨k,n,zz⟩:=ti
   intro ms hd
   subst hd
   cases k <;> simp_all [TK.ok]
  have hrun:(Instr.typeAssert (.iface t u) xt t ok).run P w = .ok (if ok then .tuple #[u,.bool true] else u) w:=by
   cases d <;> first
    | exact absurd rfl (hni _)
    | (cases ok <;> simp [Instr.typeAssert,run_underlying k1])
  refine ⟨if ok then .tuple #[u,.bool true] else u,by simp [execOp,h,e1,hrun],?_⟩
  cases ok
  ·exact e2
  ·simp only [if_true,Rd,RdL]
   exact ⟨[u,.bool true],E,_,_,E,e2,_,_,E,by simp [Ad,Rd],E⟩
def Aqr (P:Program) (t:TypeId) (name:String) (f:FuncId) (pr:Bool):Bool :=
 match P.info? t with
 | some i=>(match i.methods.find? (·.name == name) with
  | some m=>m.path.isEmpty && (match m.func with | some (g,b)=>Nat.beq g f && (b == pr) | none=>false)
  | none=>false)
 | none=>false
theorem Meth.of {P:Program} {t:TypeId} {name:String} {f:FuncId} {pr:Bool} {e:TypeId} (h:Aqr P t name f pr = true) (hu:P.underlying t = some (.pointer e)):Meth P t name f pr e:=by
 refine ⟨?_,hu⟩
 unfold Aqr at h
 split at h
 ·rename_i i hi
  split at h
  ·rename_i m hm
   simp only [Bool.and_eq_true] at h
   obtain ⟨h1,h2⟩:=h
   split at h2
   ·rename_i g b hf
    simp only [Bool.and_eq_true,beq_iff_eq] at h2
    obtain ⟨h3,rfl⟩:=h2
    have h3:=Nat.eq_of_beq_eq_true h3
    subst h3
    exact ⟨i,m,hi,hm,by simpa using h1,hf⟩
   ·cases h2
  ·cases h
 ·cases h
end Go.Sy
