/-
  V3 V4 V5 X1 D2 D0 A6 D5 D6 E16 E17 E18 E29 E31 D3 D4 D7 D8 R3 R5 R6 R7 R8 K0 KM K25 Sy30 Sy20 Sy21 Sy31 Sy32 Sy33 S3 K1 K2 K3 K4 K5 K6 K7 K26 K27 K28 K29: parts of a proof, joined by program.
-/
import Derived.Test.YteinjapglfkamaaGreatXB4
import Derived.Test.YteinjapglfkamaaGreatXB3
import Derived.Test.YteinjapglfkamaaGreatXB2
import Derived.ProofKit
import Derived.OpenShut
namespace Go.Sy.YteinjapglfkamaaGreat
open Go.Proofs
attribute [local irreducible] Go.Sy.G Go.Sy.DR
set_option maxRecDepth 20000
set_option maxHeartbeats 4000000
def Xy (n:Net) (a b:Int):Int:=orI [cmpI (nth n.devices a).prio (nth n.devices b).prio,cmpI (nth n.devices a).mac (nth n.devices b).mac]
theorem ranks1 (n:Net) (a b:Int) (ha:0≤a∧a<n.devices.length) (hb:0≤b∧b<n.devices.length):Sy.Spec Tryz.prog 282 [Aa a,Aa b,.ref 8 (Al n) 0] [] (Aa (Xy n a b)) []:=cT F282 Tryz.ntmps282 fun F hF=>by
 have e1:Xy n a b=orI [cmpI (n.devices[a.toNat]'qn).prio (n.devices[b.toNat]'qn).prio,cmpI (n.devices[a.toNat]'qn).mac (n.devices[b.toNat]'qn).mac]:=by
  rw[Xy,Ai qn,Ai qn]
 rw[e1]
 conv=>whnf
 (repeat' (first | (refine Am rfl (.cons .tmp .nil) ?_ rfl) | (refine⟨qq,?_⟩;((conv=>whnf))) | (refine⟨by (omega),by (omega),?_⟩;((conv=>whnf))) | (refine cD (Ew (n.devices[a.toNat]'qn).prio (n.devices[b.toNat]'qn).prio) F284 ?_;((refine rd qq ?_);(conv=>whnf))) | (refine cD (Ade (n.devices[a.toNat]'qn).mac (n.devices[b.toNat]'qn).mac) F285 ?_;((refine rd qq ?_);(conv=>whnf))) | (refine Al9 [28] (orS [cmpI (n.devices[a.toNat]'qn).prio (n.devices[b.toNat]'qn).prio,cmpI (n.devices[a.toNat]'qn).mac (n.devices[b.toNat]'qn).mac] (by simp[Aj])) F283 rfl (.cons (.lit rfl rfl rfl) .nil) rfl qq rfl ?_;((refine rd qq ?_);(conv=>whnf)))))
 all_goals rfl
def Qz (m:Nat):List Int:=(List.range m).map fun (i:Nat)=>(i:Int)
theorem Yi (m:Nat):Qz (m+1)=Qz m++[(m:Int)]:=by simp[Qz,List.range_succ]
theorem Hi (m:Nat):(Qz m).length=m:=by simp[Qz]
def Ez (ord:List Int):Nat→List Int
 | 0=>List.replicate ord.length 0
 | j+1=>(Ez ord j).set (nth ord j).toNat j
theorem Ek (ord:List Int):∀ j,(Ez ord j).length=ord.length
 | 0=>by simp[Ez]
 | j+1=>by simp[Ez,Ek ord j]
def Di (n:Net):List Int:=Of (fun a b=>decide (Xy n a b<0)) (Qz n.devices.length)
def De (n:Net):List Int:=Ez (Di n) n.devices.length
theorem ranksS (n:Net) (hn:n.Fin):Sy.Spec Tryz.prog 220 [Al n] [] (.sl 1 Aa (if Ac n then De n else [])) []:=cT F220 Tryz.ntmps220 fun F hF=>by
 have hl:=hn.devices
 unfold Aj at hl
 conv=>whnf
 refine c0 (A9 n hn) F23 ?_
 refine oO ?_
 refine⟨fun h=>?_,fun h=>?_⟩
 ·have h:Ac n=false:=by simpa using h
  refine oO ?_
  refine Ak 2 1 Aa E ?_
  exact Am E (.cons .tmp .nil) (by rw[h];rfl) E
 have h:Ac n=true:=by simpa using h
 have h8:n.devices.length≤8:=by
  simp only[Ac,Afn,Bool.and_eq_true,decide_eq_true_eq]at h
  exact h.1.1.1.1.1.1.1.1.1.1.1.1.1.1.1
 rw[h,if_pos rfl,De]
 refine oO ?_
 refine Ba 1 8 (Al n) E E E ?_
 refine Cc 3 1000 1 Aa E E ?_
 refine Az n.devices.length (fun j=>[(1,.ref 8 (Al n) 0),(3,.osl 1000),(13,Aa n.devices.length),(14,Aa j)]) (fun j=>[(1000,.row 1 Aa (Qz j))]) [] ⟨⟨E,E,E,E,E,E,E,E,Y⟩,⟨.inl E,E,Y⟩,E,E⟩ ?_
 intro j hj
 refine oO ?_
 refine⟨fun h2=>?_,fun h2=>?_⟩
 ·have hlt:j<n.devices.length:=by simpa using h2
  refine oO ?_
  refine Ad (Ah Γ.toTy 20 E E E E E (.row E) (.lit (l:=[(j:Int)]) E E) qy (by simp[Hi];omega) (by simp[Hi];omega)) E E ?_
  refine oO ?_
  refine iW ?_
  exact Ar [(1000,20)] hlt ⟨⟨E,E,E,E,E,E,E,E,Y⟩,⟨.inl (congrArg (Ob.row 1 Aa) (Yi j)),E,Y⟩,E,E⟩
 have hjl:j=n.devices.length:=by have:¬ j<n.devices.length:=(by simpa using h2);omega
 subst hjl
 refine oO ?_
 have hsort:=Abb (Qz n.devices.length) (Xy n) (fun a=>0≤a∧a<n.devices.length) 282 [] [.ref 8 (Al n) 0] rfl (fun a b ha hb=>⟨⟨_,_,F282⟩,ranks1 n a b ha hb⟩) (fun a ha=>by
  obtain ⟨i,hi,rfl⟩:=List.mem_map.1 ha
  have:=List.mem_range.1 hi
  omega) (by rw[Hi];omega)
 have hslen:(Di n).length=n.devices.length:=by rw[Di,(O2 _ _).length_eq,Hi]
 have hsm:∀ a∈Di n,0≤a∧a<n.devices.length:=fun a ha=>by
  have:=(O2 _ _).mem_iff.1 ha
  obtain ⟨i,hi,rfl⟩:=List.mem_map.1 this
  have:=List.mem_range.1 hi
  omega
 change Sy.Spec _ _ _ _ _ [(0,.row 1 Aa (Di n))]at hsort
 generalize Di n=sl at hsort hslen hsm
 refine Ad (Af [(0,1000)] E F281 hsort E ⟨E,Y⟩ E ⟨.inl E,Y⟩) E E ?_
 refine oO ?_
 refine Ad (Bh Γ.toTy (d:=27) (n:=sl.length) Aa 0 E E E E E E E E qn qn E E E) E E ?_
 refine oO ?_
 refine Az sl.length (fun j=>[(5,.osl 27),(28,.osl 1000),(29,Aa sl.length),(30,Aa j)]) (fun j=>[(1000,.row 1 Aa sl),(27,.row 1 Aa (Ez sl j))]) [] ⟨⟨E,E,E,E,E,E,E,E,Y⟩,⟨.inl E,E,.inl E,E,Y⟩,E,E⟩ ?_
 clear hj h2
 intro j hj
 refine oO ?_
 refine⟨fun h2=>?_,fun h2=>?_⟩
 ·have hlt:j<sl.length:=by simpa using h2
  have hmj:=hsm _ (List.getElem_mem hlt)
  have hnth:nth sl j=sl[j]:=Ai (by simpa using hlt)
  have hfl:=Ek sl j
  refine oO ?_
  refine⟨by omega,by omega,?_⟩
  conv=>whnf
  refine⟨E,by omega,?_⟩
  conv=>whnf
  refine⟨hmj.1,by rw[hfl];exact(by omega:sl[j].toNat<sl.length),?_⟩
  conv=>whnf
  refine⟨E,by rw[hfl];exact(by omega:sl[j].toNat<sl.length),(j:Int),E,E,?_⟩
  conv=>whnf
  refine iW ?_
  exact Ar [] hlt ⟨⟨E,E,E,E,E,E,E,E,Y⟩,⟨.inl E,E,.inl (congrArg (Ob.row 1 Aa) (by rw[Ez,hnth];rfl)),E,Y⟩,E,E⟩
 have hjl:j=n.devices.length:=by
  have:¬ j<sl.length:=by simpa using h2
  omega
 subst hjl
 refine oO ?_
 refine Aq 27 E ?_
 exact dN
def Cd (n:Net) (a b:Int):Bool :=
 if (nth n.devices a).prio≠(nth n.devices b).prio then decide ((nth n.devices a).prio<(nth n.devices b).prio) else
  if (nth n.devices a).mac≠(nth n.devices b).mac then decide ((nth n.devices a).mac<(nth n.devices b).mac) else decide (a<b)
def Jt (n:Net):List Int:=(List.range n.devices.length).map fun (i:Nat)=>(((List.range n.devices.length).countP fun k=>Cd n (k:Nat) i:Nat):Int)
end Go.Sy.YteinjapglfkamaaGreat
namespace Go.Sy.YteinjapglfkamaaGreat
theorem key_lt (n:Net) (a b:Int):decide (Xy n a b<0)=if (nth n.devices a).prio≠(nth n.devices b).prio then decide ((nth n.devices a).prio<(nth n.devices b).prio) else
  if (nth n.devices a).mac≠(nth n.devices b).mac then decide ((nth n.devices a).mac<(nth n.devices b).mac) else false:=by
 rw[Xy,Ko,Ko]
 rfl
theorem K0 (n:Net) (a:Int):Cd n a a=false:=by simp[Cd]
theorem Ur (n:Net) {a b c:Int} (h1:Cd n a b=true) (h2:Cd n b c=true):Cd n a c=true:=by
 unfold Cd at *
 generalize nth n.devices a=x at *
 generalize nth n.devices b=y at *
 generalize nth n.devices c=z at *
 grind
theorem Adu (n:Net) {a b:Int} (h1:Cd n a b=true):Cd n b a=false:=by
 cases h:Cd n b a with
 | false=>rfl
 | true=>have:=Ur n h1 h;rw[K0]at this;cases this
theorem Yp (n:Net) {x y:Int} (h:y<x):decide (Xy n x y<0)=Cd n x y:=by
 rw[key_lt]
 unfold Cd
 generalize nth n.devices x=p at *
 generalize nth n.devices y=q at *
 grind
theorem Anp (n:Net) {x y:Int} (h:y<x) (hk:Cd n x y=false):Cd n y x=true:=by
 unfold Cd at *
 generalize nth n.devices x=p at *
 generalize nth n.devices y=q at *
 grind
theorem Ys (n:Net) (x:Int):∀ (r:List Int),(∀ y∈r,y<x)→r.Pairwise (fun a b=>Cd n b a=true)→(Lx (fun a b=>decide (Xy n a b<0)) x r).Pairwise (fun a b=>Cd n b a=true)
 | [],_,_=>by simp[Lx]
 | y::r,hx,hp=>by
  have hy:=hx y qy
  rw[List.pairwise_cons]at hp
  rw[Lx]
  split
  ·rename_i hlt
   rw[Yp n hy]at hlt
   rw[List.pairwise_cons]
   refine⟨fun z hz=>?_,Ys n x r (fun z hz=>hx z (by simp[hz])) hp.2⟩
   rcases List.mem_cons.1 ((To _ x r).mem_iff.1 hz) with rfl | hz
   ·exact hlt
   ·exact hp.1 z hz
  ·rename_i hlt
   rw[Yp n hy]at hlt
   have hyx:=Anp n hy (by simpa using hlt)
   rw[List.pairwise_cons,List.pairwise_cons]
   refine⟨fun z hz=>?_,hp⟩
   rcases List.mem_cons.1 hz with rfl | hz
   ·exact hyx
   ·exact Ur n (hp.1 z hz) hyx
theorem Ud (n:Net):∀ m,(Dz (fun a b=>decide (Xy n a b<0)) (Qz m)).Pairwise (fun a b=>Cd n b a=true)
 | 0=>by simp[Dz,Qz]
 | m+1=>by
  rw[Yi,Dz,List.foldl_append]
  refine Ys n m _ (fun y hy=>?_) (Ud n m)
  have:=(I1 _ _).mem_iff.1 hy
  obtain ⟨i,hi,rfl⟩:=List.mem_map.1 this
  have:=List.mem_range.1 hi
  omega
theorem Th (n:Net):(Di n).Pairwise (fun a b=>Cd n a b=true):=by
 rw[Di,Of,List.pairwise_reverse]
 exact Ud n _
theorem Zh (n:Net):(Di n).Perm (Qz n.devices.length):=O2 _ _
theorem Add (n:Net) {l:List Int} (hp:l.Pairwise (fun a b=>Cd n a b=true)) (r:Nat) (hr:r<l.length):l.countP (fun k=>Cd n k l[r])=r:=by
 have hsplit:l=l.take r++l[r]::l.drop (r+1):=by
  rw[← List.drop_eq_getElem_cons hr,List.take_append_drop]
 have h1:(l.take r).countP (fun k=>Cd n k l[r])=r:=by
  rw[List.countP_eq_length.2 (fun k hk=>?_),List.length_take]
  ·omega
  ·obtain ⟨i,hi,rfl⟩:=List.mem_iff_getElem.1 hk
   simp only[List.length_take]at hi
   rw[List.getElem_take]
   exact List.pairwise_iff_getElem.1 hp i r qn hr qn
 have h2:(l.drop (r+1)).countP (fun k=>Cd n k l[r])=0:=by
  rw[List.countP_eq_zero]
  intro k hk
  obtain ⟨i,hi,rfl⟩:=List.mem_iff_getElem.1 hk
  simp only[List.length_drop]at hi
  rw[List.getElem_drop]
  have:=List.pairwise_iff_getElem.1 hp r (r+1+i) hr qn qn
  simp[Adu n this]
 calc l.countP (fun k=>Cd n k l[r])=(l.take r++l[r]::l.drop (r+1)).countP (fun k=>Cd n k l[r]):=congrArg _ hsplit
  _=r:=by rw[List.countP_append,List.countP_cons,h1,h2,K0];simp
theorem Qt (L:List Int) (hn:L.Nodup) (hm:∀ a∈L,0≤a∧a<L.length):∀ (j:Nat),j≤L.length→∀ (r:Nat) (hr:r<L.length),r<j→(Ez L j)[L[r].toNat]? = some (r:Int)
 | 0,_,r,_,h=>by omega
 | j+1,hj,r,hr,h=>by
  have hmr:=hm _ (List.getElem_mem hr)
  have hlen:=Ek L j
  have hnth:nth L (j:Int)=L[j]:=Ai (by simp;omega)
  rw[Ez,hnth,List.getElem?_set]
  split
  ·rename_i he
   have hmj:=hm _ (List.getElem_mem (show j<L.length by omega))
   have hjr:L[j]=L[r]:=by omega
   have:j=r:=by
    have:=(List.getElem_inj (i:=j) (j:=r) (h₀:=by omega) (h₁:=hr) hn).1 hjr
    exact this
   subst this
   rw[if_pos qn]
  ·rename_i he
   have hne:r≠j:=fun e=>he (by subst e;rfl)
   exact Qt L hn hm j qn r hr qn
theorem Aet (m:Nat):(Qz m).Nodup:=by
 rw[Qz]
 exact List.Pairwise.map _ (fun (a b:Nat) (h:a≠b)=>by intro e;exact h qn) List.nodup_range
theorem Abv (n:Net):De n=Jt n:=by
 have hp:=Zh n
 have hlen:(Di n).length=n.devices.length:=by rw[hp.length_eq,Hi]
 have hnd:(Di n).Nodup:=hp.nodup_iff.2 (Aet _)
 have hm:∀ a∈Di n,0≤a∧a<(Di n).length:=fun a ha=>by
  obtain ⟨i,hi,rfl⟩:=List.mem_map.1 (hp.mem_iff.1 ha)
  have:=List.mem_range.1 hi
  omega
 refine List.ext_getElem? fun i=>?_
 rcases Nat.lt_or_ge i n.devices.length with hi | hi
 ·have hin:(i:Int)∈Di n:=hp.mem_iff.2 (List.mem_map.2 ⟨i,List.mem_range.2 hi,rfl⟩)
  obtain ⟨r,hr,he⟩:=List.mem_iff_getElem.1 hin
  have h1:=Qt (Di n) hnd hm n.devices.length qn r hr qn
  rw[he]at h1
  have h2:=Add n (Th n) r hr
  rw[he,hp.countP_eq]at h2
  rw[De,Jt,List.getElem?_map,List.getElem?_range hi]
  simp only[Int.toNat_natCast]at h1
  rw[h1]
  simp only[Option.map_some]
  congr 2
  rw[← h2,Qz,List.countP_map]
  rfl
 ·rw[List.getElem?_eq_none,List.getElem?_eq_none]
  ·simp[Jt];omega
  ·rw[De,Ek];omega
theorem Amq {C:Cx} {k:List KI} {s:SS} (d:Nat) (x:SV) (h:Vw s [] (s.σ d) x) (hg:G C k ⟨upd s.σ d x,s.h⟩):G C k s:=fun κ a w hs =>
 hg κ a w ⟨hs.defers,hs.size,hs.inv,hs.ctx,fun i=>by
  show Rd κ w (upd s.σ d x i) _
  by_cases hi:i=d
  ·subst hi;rw[Bc];exact Vw.rd hs.inv (fun _ hn=>by cases hn) h (hs.slot i)
  ·rw[Bv _ _ hi];exact hs.slot i,hs.obj⟩
end Go.Sy.YteinjapglfkamaaGreat
namespace Go.Sy.YteinjapglfkamaaGreat
open Go.Proofs
attribute [local irreducible] Go.Sy.G Go.Sy.DR
set_option maxRecDepth 20000
set_option maxHeartbeats 4000000
def I5 (p:Port):Bool:=decide (p.cost<1) || decide (p.cost>65535)
theorem costs1 (p:Port):Sy.Spec Tryz.prog 280 [A2 p] [] (Ab (I5 p)) []:=cT F280 Tryz.ntmps280 fun F hF=>by
 conv=>whnf
 (repeat' (first | (refine⟨fun h=>?_,fun h=>?_⟩<;>(repeat (first | simp only[decide_eq_true_eq]at h | simp only[decide_eq_false_iff_not]at h))<;>((refine oO ?_))) | (refine Am rfl (.cons .tmp .nil) ?_ rfl)))
 all_goals (refine congrArg Ab ?_;clear hF;grind [I5])
theorem O9 (l:List Port) (p:Port→Bool) (f:FuncId) (first cap:List SV) (hc:(SV.clo (.func f) first cap).inn []=true) (hf:∀ x∈l,E6 Tryz.prog f (first++[A2 x]++cap) (Ab (p x))) (hl:Aj l) :
  Sy.Spec Tryz.prog 279 [.sl 7 A2 l,.clo (.func f) first cap] [] (Ab (l.any p)) []:=cT F279 Tryz.ntmps279 fun F hF=>by
 have h0:B1 [] [.sl 7 A2 l,.clo (.func f) first cap]=true:=by simp only[B1,hc];rfl
 conv=>whnf
 refine Sz (Uv l p f first cap hc hf hl) F332 E E (by simp only[h0];rfl) E E ?_
 refine oO ?_
 exact Am E (.cons .tmp .nil) (congrArg Ab (Acs _ _).symm) E
def Cy (n:Net):Bool:=!(n.ports.any I5)
theorem Al8 (n:Net) (hl:Aj n.ports):Sy.Spec Tryz.prog 219 [Al n] [] (Ab (Cy n)) []:=cT F219 Tryz.ntmps219 fun F hF=>by
 conv=>whnf
 refine c0 (O9 n.ports I5 280 [] [] E (fun x _=>⟨⟨_,_,F280⟩,costs1 x⟩) hl) F279 ?_
 refine oO ?_
 exact dN
def Ha (n:Net):Bool :=
 decide (200<n.devices.length) || decide (200<n.ports.length) || decide (200<n.links.length) || decide (200<n.domains.length) || decide (200<n.statics.length) || decide (200<n.floods.length) || decide (200<n.vrfs.length) || decide (200<n.irbs.length) ||
  n.ports.any (fun p=>decide (100<p.tagged.length)) || n.domains.any (fun d=>decide (100<d.peers.length)) || n.floods.any (fun f=>decide (100<f.addrs.length)) || n.vrfs.any (fun v=>decide (100<v.imports.length) || decide (100<v.exports.length))
theorem Aad {n:Net} (h:Ha n=false):n.Fin:=by
 simp only[Ha,Bool.or_eq_false_iff,decide_eq_false_iff_not,List.any_eq_false,decide_eq_true_eq,Bool.or_eq_true,not_or]at h
 obtain ⟨⟨⟨⟨⟨⟨⟨⟨⟨⟨⟨h1,h2⟩,h3⟩,h4⟩,h5⟩,h6⟩,h7⟩,h8⟩,h9⟩,h10⟩,h11⟩,h12⟩:=h
 exact⟨by unfold Aj;omega,by unfold Aj;omega,by unfold Aj;omega,by unfold Aj;omega,by unfold Aj;omega,by unfold Aj;omega,by unfold Aj;omega,by unfold Aj;omega,
  fun p hp=>by have:=h9 p hp;unfold Aj;omega,fun p hp=>by have:=h10 p hp;unfold Aj;omega,fun p hp=>by have:=h11 p hp;unfold Aj;omega,fun p hp=>by have:=h12 p hp;unfold Aj;omega,fun p hp=>by have:=h12 p hp;unfold Aj;omega⟩
end Go.Sy.YteinjapglfkamaaGreat
namespace Go.Sy.YteinjapglfkamaaGreat
open Go.Proofs
attribute [local irreducible] Go.Sy.G Go.Sy.DR
set_option maxRecDepth 100000
set_option maxHeartbeats 4000000
theorem A3 {α:Type} {l:List α} {i:Nat} {d:α} (h:i<l.length):l.getD i d=l[i]:=by simp[List.getD,h]
theorem Kj {n:Net} (h:Ac n=true) {i:Nat} (hi:i<n.ports.length):Ec n i n.ports[i]=true:=by
 simp only[Ac,Bool.and_eq_true]at h
 exact allB_iff.1 h.1.1.1.1.1.2 i hi
theorem Vz {n:Net} (h:Ac n=true) {i:Nat} (hi:i<n.links.length):Jz n i n.links[i]=true:=by
 simp only[Ac,Bool.and_eq_true]at h
 exact allB_iff.1 h.1.1.1.1.2 i hi
theorem Dq {n:Net} (h:Ac n=true):n.devices.length≤8∧n.ports.length≤40∧n.links.length≤20:=by
 simp only[Ac,Afn,Bool.and_eq_true,decide_eq_true_eq]at h
 omega
theorem Mj {n:Net} (h:Ac n=true) {i:Nat} (hi:i<n.ports.length):n.ports[i].link=-1∨(0≤n.ports[i].link∧n.ports[i].link<n.links.length):=by
 have:=Kj h hi
 simp only[Ec,Ag,Bool.and_eq_true,Bool.or_eq_true,beq_iff_eq,decide_eq_true_eq]at this
 rcases this.2 with h1 | h1
 ·exact .inl h1
 ·exact .inr h1.1
theorem Lo {n:Net} (h:Ac n=true) {i:Nat} (hi:i<n.ports.length):0≤n.ports[i].dev∧n.ports[i].dev<n.devices.length:=by
 have:=Kj h hi
 simp only[Ec,Ag,Bool.and_eq_true,decide_eq_true_eq]at this
 exact this.1.1.1.1.1.1.1.1
theorem Jy {n:Net} (h:Ac n=true) {i:Nat} (hi:i<n.links.length):(0≤n.links[i].a∧n.links[i].a<n.ports.length)∧0≤n.links[i].b∧n.links[i].b<n.ports.length:=by
 have:=Vz h hi
 simp only[Jz,Ag,Bool.and_eq_true,decide_eq_true_eq]at this
 exact⟨this.1.1.1.1,this.1.1.1.2⟩
def Dx (n:Net) (i:Nat):Int:=(nth n.ports i).dev
def Qy (n:Net) (i:Nat):Int:=(nth n.ports i).cost
theorem Ab2 {n:Net} (hcost:Cy n=true) {i:Nat} (hi:i<n.ports.length):1≤Qy n i∧Qy n i≤65535:=by
 rw[Qy,Ai (l:=n.ports) (i:=(i:Int)) (by simpa using hi)]
 simp only[Cy,Bool.not_eq_true',List.any_eq_false]at hcost
 have:=hcost _ (List.getElem_mem hi)
 simp only[I5,Bool.or_eq_true,decide_eq_true_eq,not_or]at this
 simp only[Int.toNat_natCast]
 omega
end Go.Sy.YteinjapglfkamaaGreat
namespace Go.Sy.YteinjapglfkamaaGreat
open Go.Proofs
attribute [local irreducible] Go.Sy.G Go.Sy.DR
set_option maxRecDepth 20000
set_option maxHeartbeats 8000000
theorem Iy {i:Int} {n:Nat} (h:0≤i∧i<n):Ag i n=true:=by simp only[Ag,Bool.and_eq_true,decide_eq_true_eq];exact h
theorem Qw {i:Int} {n:Nat} (h:¬ (0≤i∧i<n)):Ag i n=false:=by simp only[Ag,Bool.and_eq_false_iff,decide_eq_false_iff_not];omega
theorem Tw {n:Net} (h:Ac n=true) {i:Nat} (hi:i<n.domains.length):n.domains[i].irb=-1∨InIrbs n n.domains[i].irb:=by
 have:=Aom h hi
 simp only[E5,Ag,Bool.and_eq_true,Bool.or_eq_true,beq_iff_eq,decide_eq_true_eq]at this
 rcases this.1.2 with h1 | h1
 ·exact .inl h1
 ·exact .inr ⟨h1.1.1,by omega⟩
end Go.Sy.YteinjapglfkamaaGreat
namespace Go.Sy.YteinjapglfkamaaGreat
theorem Ws {α:Type} {l:List α} {i:Nat} {d:α} (h:i<l.length):l.getD i d=l[i]:=by simp[List.getD,h]
theorem Ac1 {n:Nat} (h:n≤65535):C2 n=n:=by
 unfold C2
 split<;>omega
theorem Afk {n:Nat} (h:65535<n):C2 (n / 65536+n % 65536)=C2 n∧n / 65536+n % 65536<n:=by
 unfold C2
 rw[if_neg qn,if_neg qn]
 omega
theorem Ai2 (a x:Nat) (hx:x≤65535):C2 (a+x)=if 65535<C2 a+x then C2 a+x-65535 else C2 a+x:=by
 unfold C2
 split<;>split<;>split<;>omega
theorem Wv (n:Nat):C2 n≤65535:=by
 unfold C2
 split<;>omega
def He (l:List UInt8):Nat→Nat
 | 0=>0
 | j+1=>He l j+((l.getD (2 * j) 0).toNat * 256+(l.getD (2 * j+1) 0).toNat)
theorem Af8 (l:List UInt8):∀ j,He l j≤65535 * j
 | 0=>Nat.le_refl _
 | j+1=>by
  have ih:=Af8 l j
  have h1:=(l.getD (2 * j) 0).toNat_lt
  have h2:=(l.getD (2 * j+1) 0).toNat_lt
  rw[He]
  omega
def Qh (l:List UInt8):Nat:=65535-C2 (He l (l.length / 2))
theorem Ab6 (n:Nat):(UInt8.ofNat n).toNat=n % 256:=by simp
end Go.Sy.YteinjapglfkamaaGreat
namespace Go.Sy.YteinjapglfkamaaGreat
open Go.Proofs
attribute [local irreducible] Go.Sy.G Go.Sy.DR
set_option maxRecDepth 100000
set_option maxHeartbeats 4000000
theorem Hb (a b:Nat) (ha:a<9223372036854775808) (hb:b<9223372036854775808):bits .and .i64 (a:Int) (b:Int)=((a &&& b:Nat):Int):=by
 have hx:a &&& b<2 ^ 63:=Nat.lt_of_le_of_lt Nat.and_le_left ha
 have h1:(BitVec.ofInt 64 (a:Int)).toNat=a:=by
  rw[BitVec.ofInt_natCast,BitVec.toNat_ofNat];exact Nat.mod_eq_of_lt qn
 have h2:(BitVec.ofInt 64 (b:Int)).toNat=b:=by
  rw[BitVec.ofInt_natCast,BitVec.toNat_ofNat];exact Nat.mod_eq_of_lt qn
 show IntKind.i64.wrap ((BitVec.ofInt 64 (a:Int) &&& BitVec.ofInt 64 (b:Int)).toNat:Int)=_
 rw[BitVec.toNat_and,h1,h2,IntKind.wrap_i64]
 omega
theorem Cz (a b:Nat) (ha:a<9223372036854775808) (hb:b<9223372036854775808):bits .or .i64 (a:Int) (b:Int)=((a ||| b:Nat):Int):=by
 have hx:a ||| b<2 ^ 63:=Nat.or_lt_two_pow qn qn
 have h1:(BitVec.ofInt 64 (a:Int)).toNat=a:=by
  rw[BitVec.ofInt_natCast,BitVec.toNat_ofNat];exact Nat.mod_eq_of_lt qn
 have h2:(BitVec.ofInt 64 (b:Int)).toNat=b:=by
  rw[BitVec.ofInt_natCast,BitVec.toNat_ofNat];exact Nat.mod_eq_of_lt qn
 show IntKind.i64.wrap ((BitVec.ofInt 64 (a:Int) ||| BitVec.ofInt 64 (b:Int)).toNat:Int)=_
 rw[BitVec.toNat_or,h1,h2,IntKind.wrap_i64]
 omega
theorem Agc (n k:Nat) (hk:k<64):(n:Int).fdiv (2 ^ (min (Int.toNat (k:Int)) IntKind.i64.bits))=((n / 2 ^ k:Nat):Int):=by
 have h1:min (Int.toNat (k:Int)) IntKind.i64.bits=k:=by simp[IntKind.bits];omega
 rw[h1,Int.fdiv_eq_ediv_of_nonneg _ (by exact Int.pow_nonneg qx)]
 simp
theorem An6 (n:Nat) (h:n<9223372036854775808):bits .and .i64 (n:Int) 65535=((n % 65536:Nat):Int):=by
 have:=Hb n 65535 h qx
 rw[show ((65535:Nat):Int)=65535 from rfl]at this
 rw[this]
 have h2:=Nat.and_two_pow_sub_one_eq_mod n 16
 rw[show 2 ^ 16-1=65535 from rfl,show 2 ^ 16=65536 from rfl]at h2
 rw[h2]
theorem Ai7 (n:Nat) (h:n<9223372036854775808):Sy.Spec Tryz.prog 278 [.ptr 0 0] [(0,.box [Aa n])] (.tup []) [(0,.box [Aa (n / 65536+n % 65536:Nat)])]:=cT F278 Tryz.ntmps278 fun F hF=>by
 have e1:(n:Int).fdiv (2 ^ (min (Int.toNat 16) IntKind.i64.bits))=((n / 65536:Nat):Int):=Agc n 16 qx
 have e2:=An6 n h
 conv=>whnf
 first | (refine⟨by omega,?_⟩;(conv=>whnf)) | skip
 rw[e1,e2]
 refine iW ?_
 exact A6 E .nil [] [(0,.box [Aa (n / 65536+n % 65536:Nat)])] (fun _ h=>h) E E ⟨Y,⟨.inl E,E,Y⟩,E,E⟩
theorem Aj8 (n:Nat) (h:n<9223372036854775808):Sy.Spec Tryz.prog 216 [Aa n] [] (Aa (C2 n)) []:=cT F216 Tryz.ntmps216 fun F hF=>by
 conv=>whnf
 refine Me (α:={m:Nat // C2 m=C2 n∧m≤n}) (fun m=>[(3,.clo (.func 278) [] [.ptr 1 0]),(1,.ptr 1 0)]) (fun m=>[(1,.box [Aa m.1])]) (fun m=>m.1) ⟨n,E,Nat.le_refl _⟩ []
  ⟨⟨rfl,rfl,rfl,rfl,trivial⟩,⟨.inl rfl,rfl,trivial⟩,rfl,rfl⟩ ?_
 rintro ⟨m,h1,h2⟩
 dsimp only
 refine oO ?_
 refine⟨fun h3=>?_,fun h3=>?_⟩
 ·have hmm:65535<m:=by have:=of_decide_eq_true h3;omega
  obtain ⟨g1,g2⟩:=Afk hmm
  refine oO ?_
  refine Ad (B7 [(0,1)] (Cm E E F278) (Ai7 m qn) E ⟨E,Y⟩ E ⟨.inl E,Y⟩) E E ?_
  refine oO ?_
  exact On (α:={m:Nat // C2 m=C2 n∧m≤n}) (x:=⟨m,h1,h2⟩) ⟨m / 65536+m % 65536,by rw[g1,h1],by omega⟩ [] g2 ⟨⟨E,E,E,E,Y⟩,⟨.inl E,E,Y⟩,E,E⟩
 ·have hmm:m≤65535:=by have:=of_decide_eq_false h3;omega
  have e:C2 n=m:=by rw[← h1,Ac1 hmm]
  refine oO ?_
  refine Am E (.cons .tmp .nil) ?_ E
  exact congrArg (fun z:Nat=>Aa z) e
theorem D6 (a b:UInt8):bits .or .i64 (IntKind.i64.wrap ((IntKind.i64.wrap (a.toNat:Int)) * 2 ^ min (Int.toNat 8) IntKind.i64.bits)) (IntKind.i64.wrap (b.toNat:Int))=((a.toNat * 256+b.toNat:Nat):Int):=by
 have h1:=a.toNat_lt
 have h2:=b.toNat_lt
 have e1:IntKind.i64.wrap (a.toNat:Int)=(a.toNat:Int):=by rw[IntKind.wrap_i64];omega
 have e2:IntKind.i64.wrap (b.toNat:Int)=(b.toNat:Int):=by rw[IntKind.wrap_i64];omega
 rw[e1,e2]
 have h3:IntKind.i64.wrap ((a.toNat:Int) * 2 ^ min (Int.toNat 8) IntKind.i64.bits)=((a.toNat * 256:Nat):Int):=by
  show IntKind.i64.wrap ((a.toNat:Int) * 256)=_
  rw[IntKind.wrap_i64]
  omega
 rw[h3,Cz _ _ qn qn]
 congr 1
 have h:=Nat.two_pow_add_eq_or_of_lt (i:=8) (b:=b.toNat) qn a.toNat
 rw[Nat.mul_comm a.toNat 256]
 exact h.symm
theorem Aga (l:List UInt8) (hl:l.length<100000) (h2:l.length % 2=0):Sy.Spec Tryz.prog 156 [.sl 1 Ae l] [] (Aa (C2 (He l (l.length / 2)))) []:=cT F156 Tryz.ntmps156 fun F hF=>by
 conv=>whnf
 refine Az (l.length / 2) (fun j=>[(0,.sl 1 Ae l),(3,Aa (He l j)),(4,Aa (2 * (j:Int)))]) (fun _=>[]) [] ⟨⟨E,E,E,E,E,E,Y⟩,Y,E,E⟩ ?_
 intro j hj
 have hw:=Af8 l j
 refine oO ?_
 refine iW ?_
 refine⟨fun h=>?_,fun h=>?_⟩
 ·have hlt:2 * j+1<l.length:=qA h
  have hs:He l (j+1)=He l j+((l[2 * j]'qn).toNat * 256+(l[2 * j+1]'hlt).toNat):=by
   rw[He,Ws (show 2 * j<l.length by omega),Ws hlt]
  have e1:l[(2 * (j:Int)).toNat]'qn=l[2 * j]'qn:=by congr 1
  have e2:l[(2 * (j:Int)+1).toNat]'qn=l[2 * j+1]'hlt:=by congr 1
  have hp:=D6 (l[2 * j]'qn) (l[2 * j+1]'hlt)
  have hb1:=(l[2 * j]'qn).toNat_lt
  have hb2:=(l[2 * j+1]'hlt).toNat_lt
  rw[← e1,← e2]at hp hs
  rw[← e1]at hb1
  rw[← e2]at hb2
  refine oO ?_
  refine⟨E,by omega,by omega,?_⟩
  conv=>whnf
  refine⟨by omega,?_⟩
  conv=>whnf
  refine iW ?_
  refine⟨E,by omega,by omega,?_⟩
  conv=>whnf
  refine⟨(by rw[hp];unfold I64;omega),?_⟩
  conv=>whnf
  refine kW ?_
  refine iW ?_
  refine Ar [] qn ⟨⟨E,E,congrArg (fun z=>SV.val (.int .i64 z)) ?_,E,congrArg (fun z=>SV.val (.int .i64 z)) ?_,E,Y⟩,Y,E,E⟩
  ·rw[hp,hs];omega
  ·omega
 have hjl:j=l.length / 2:=by
  have:=of_decide_eq_false h
  omega
 have hpar:¬ bits .and .i64 (l.length:Int) 1=1:=by
  have:=Hb l.length 1 qn qx
  rw[show ((1:Nat):Int)=1 from rfl]at this
  rw[this,Nat.and_one_is_mod,h2]
  decide
 have hd:=Aj8 (He l j) qn
 rw[hjl]at hd ⊢
 clear hjl
 refine oO ?_
 refine⟨fun h=>absurd (of_decide_eq_true h) hpar,fun _=>?_⟩
 refine oO ?_
 refine c0 hd F216 ?_
 refine oO ?_
 exact dN
theorem sumOfS (l:List UInt8) (hl:l.length<100000) (h2:l.length % 2=0):Sy.Spec Tryz.prog 105 [.sl 1 Ae l] [] (Aa (Qh l)) []:=cT F105 Tryz.ntmps105 fun F hF=>by
 have ha:=Aga l hl h2
 have hle:=Wv (He l (l.length / 2))
 conv=>whnf
 refine c0 ha F156 ?_
 refine oO ?_
 refine iW ?_
 refine Am E (.cons .tmp .nil) ?_ E
 refine congrArg Aa ?_
 rw[Qh]
 omega
theorem Am8 (l:List UInt8) (hl:l.length<100000) (h2:l.length % 2=0):Sy.Spec Tryz.prog 158 [.sl 1 Ae l] [] (Aa (C2 (He l (l.length / 2)))) []:=cT F158 Tryz.ntmps158 fun F hF=>by
 conv=>whnf
 refine Az (l.length / 2) (fun j=>[(0,.sl 1 Ae l),(3,Aa (C2 (He l j))),(4,Aa (2 * (j:Int)))]) (fun _=>[]) [] ⟨⟨E,E,E,E,E,E,Y⟩,Y,E,E⟩ ?_
 intro j hj
 have hw:=Wv (He l j)
 refine oO ?_
 refine⟨fun h=>?_,fun h=>?_⟩
 ·have hlt0:2 * j<l.length:=qA h
  have hlt:2 * j+1<l.length:=by omega
  have hb1:=(l[2 * j]'qn).toNat_lt
  have hb2:=(l[2 * j+1]'hlt).toNat_lt
  have hs:C2 (He l (j+1))=if 65535<C2 (He l j)+((l[2 * j]'qn).toNat * 256+(l[2 * j+1]'hlt).toNat) then C2 (He l j)+((l[2 * j]'qn).toNat * 256+(l[2 * j+1]'hlt).toNat)-65535 else C2 (He l j)+((l[2 * j]'qn).toNat * 256+(l[2 * j+1]'hlt).toNat):=by
   rw[He,Ws (show 2 * j<l.length by omega),Ws hlt,Ai2 _ _ qn]
  have e1:l[(2 * (j:Int)).toNat]'qn=l[2 * j]'qn:=by congr 1
  have e2:l[(2 * (j:Int)+1).toNat]'qn=l[2 * j+1]'hlt:=by congr 1
  obtain ⟨x,hx⟩:∃ x,l[2 * j]'qn=x:=⟨_,rfl⟩
  obtain ⟨y,hy⟩:∃ y,l[2 * j+1]'hlt=y:=⟨_,rfl⟩
  rw[hx]at e1 hs hb1
  rw[hy]at e2 hs hb2
  have w1:IntKind.i64.wrap (x.toNat:Int)=(x.toNat:Int):=by rw[IntKind.wrap_i64];omega
  have w2:IntKind.i64.wrap (y.toNat:Int)=(y.toNat:Int):=by rw[IntKind.wrap_i64];omega
  refine oO ?_
  refine⟨E,by omega,by omega,?_⟩
  rw[e1]
  conv=>whnf
  rw[w1]
  refine iW ?_
  refine iW ?_
  refine⟨fun h4=>?_,fun h4=>absurd (of_decide_eq_false h4) qn⟩
  refine oO ?_
  refine iW ?_
  refine⟨E,by omega,by omega,?_⟩
  rw[e2]
  conv=>whnf
  rw[w2]
  refine iW ?_
  refine iW ?_
  refine⟨fun h5=>?_,fun h5=>?_⟩
  ·have h5:=of_decide_eq_true h5
   rw[if_pos qn]at hs
   refine oO ?_
   refine iW ?_
   refine iW ?_
   refine Ar [] qn ⟨⟨E,E,congrArg (fun z=>SV.val (.int .i64 z)) ?_,E,congrArg (fun z=>SV.val (.int .i64 z)) ?_,E,Y⟩,Y,E,E⟩
   ·rw[hs];omega
   ·omega
  ·have h5:=of_decide_eq_false h5
   rw[if_neg qn]at hs
   refine oO ?_
   refine iW ?_
   refine Ar [] qn ⟨⟨E,E,congrArg (fun z=>SV.val (.int .i64 z)) ?_,E,congrArg (fun z=>SV.val (.int .i64 z)) ?_,E,Y⟩,Y,E,E⟩
   ·rw[hs];omega
   ·omega
 ·have hjl:j=l.length / 2:=by
   have:=of_decide_eq_false h
   omega
  subst hjl
  refine oO ?_
  exact dN
theorem Ah3 (l:List UInt8) (hl:l.length<100000) (h2:l.length % 2=0):Sy.Spec Tryz.prog 109 [.sl 1 Ae l] [] (Aa (Qh l)) []:=cT F109 Tryz.ntmps109 fun F hF=>by
 have ha:=Am8 l hl h2
 have hle:=Wv (He l (l.length / 2))
 conv=>whnf
 refine c0 ha F158 ?_
 refine oO ?_
 refine iW ?_
 refine Am E (.cons .tmp .nil) ?_ E
 refine congrArg Aa ?_
 rw[Qh]
 omega
def Ak9 (n:Nat):SV:=Aa n
def Ii (l:List Nat):List UInt8:=l.flatMap fun n=>[UInt8.ofNat (n / 256),UInt8.ofNat n]
theorem Xu (l:List Nat):(Ii l).length=2 * l.length:=by
 induction l with
 | nil=>rfl
 | cons a l ih=>simp only[Ii,List.flatMap_cons,List.length_append,List.length_cons,List.length_nil]at ih ⊢;omega
theorem Ab3 (l:List Nat) (n:Nat):Ii (l++[n])=Ii l++[UInt8.ofNat (n / 256),UInt8.ofNat n]:=by simp[Ii]
theorem Zi (a b:Int) (h:0≤a∧a≤b):Sy.Spec Tryz.prog 103 [Aa a,Aa b] [] (Ab true) []:=cT F103 Tryz.ntmps103 fun F hF=>by
 conv=>whnf
 refine⟨fun _=>?_,fun h2=>absurd (of_decide_eq_false h2) qn⟩
 refine oO ?_
 refine Am E (.cons .tmp .nil) ?_ E
 exact congrArg Ab (decide_eq_true h.2).symm
theorem Ana (a b:Int) (h:0≤a∧a≤b):Sy.Spec Tryz.prog 107 [Aa a,Aa b] [] (Ab false) []:=cT F107 Tryz.ntmps107 fun F hF=>by
 conv=>whnf
 refine⟨fun h2=>absurd (of_decide_eq_true h2) qn,fun _=>?_⟩
 refine oO ?_
 refine Am E (.cons .tmp .nil) ?_ E
 exact congrArg Ab (decide_eq_false qn).symm
theorem Alj (l:List Nat) (hl:l.length<100000):Sy.Spec Tryz.prog 104 [.val (.slice none 0 0),.sl 1 Ak9 l] [] (.osl 0) [(0,.row 1 Ae (Ii l))]:=cT F104 Tryz.ntmps104 fun F hF=>by
 conv=>whnf
 refine Cc 0 1000 1 Ae E E ?_
 refine Az l.length (fun j=>[(0,.osl 1000),(7,.sl 1 Ak9 l),(8,Aa l.length),(9,Aa j)]) (fun j=>[(1000,.row 1 Ae (Ii (l.take j)))]) [] ⟨⟨E,E,E,E,E,E,E,E,Y⟩,⟨.inl E,E,Y⟩,E,E⟩ ?_
 intro j hj
 have hpl:=Xu (l.take j)
 refine oO ?_
 refine⟨fun h=>?_,fun h=>?_⟩
 ·have hlt:j<l.length:=by simpa using h
  have e1:l[(j:Int).toNat]'qn=l[j]:=rfl
  have hsucc:Ii (l.take (j+1))=Ii (l.take j)++[UInt8.ofNat (l[j] / 256),UInt8.ofNat l[j]]:=by
   rw[List.take_succ_eq_append_getElem hlt,Ab3]
  obtain ⟨n,hn⟩:∃ n,l[j]=n:=⟨_,rfl⟩
  rw[hn]at e1 hsucc
  have htb:=D1 n
  refine oO ?_
  refine⟨E,by omega,by omega,?_⟩
  rw[e1]
  conv=>whnf
  refine⟨by omega,?_⟩
  conv=>whnf
  refine Ad (Ah Γ.toTy 20 E E E E E (.row E) (.lit (e:=Ae) (l:=[UInt8.ofNat (n / 256),UInt8.ofNat n]) E htb) qy (by simp[hpl];omega) (by simp[hpl];omega)) E E ?_
  refine oO ?_
  refine iW ?_
  exact Ar [(1000,20)] hlt ⟨⟨E,E,E,E,E,E,E,E,Y⟩,⟨.inl (congrArg (Ob.row 1 Ae) hsucc),E,Y⟩,E,E⟩
 ·have hjl:j=l.length:=by
   have:¬ j<l.length:=by simpa using h
   omega
  subst hjl
  rw[List.take_length]
  refine oO ?_
  exact done E (.cons .tmp .nil) [(0,1000)] [(0,.row 1 Ae (Ii l))] (fun _ h=>h) E E ⟨Y,⟨.inl E,E,Y⟩,E,E⟩
theorem Aoi (n:Nat):IntKind.u8.wrap (n:Int)=((UInt8.ofNat n).toNat:Int):=by
 rw[IntKind.wrap_u8]
 simp
def beU (k n j:Nat):List UInt8:=List.replicate (k-j) 0++be j n
theorem Af1 (k n j:Nat) (h:j≤k):(beU k n j).length=k:=by simp[beU,As];omega
theorem Amf (k n j:Nat) (h:j<k):beU k n (j+1)=(beU k n j).set (k-1-j) (UInt8.ofNat (n / 256 ^ j)):=by
 have e:k-j=(k-(j+1))+1:=by omega
 rw[beU,beU,e,List.replicate_succ',List.append_assoc,List.set_append_right _ _ (by simp;omega),List.length_replicate,show k-1-j-(k-(j+1))=0 by omega]
 rfl
theorem Ju (n k:Nat) (hn:n<9223372036854775808) (hk:k≤8):Sy.Spec Tryz.prog 108 [Aa n,Aa k] [] (.osl 0) [(0,.row 1 Ae (be k n))]:=cT F108 Tryz.ntmps108 fun F hF=>by
 conv=>whnf
 refine Ad (Bh Γ.toTy (d:=8) (n:=k) Ae 0 E E E E E E E E qn qn E E E) E E ?_
 refine oO ?_
 refine Az k (fun j=>[(0,Aa (n / 256 ^ j:Nat)),(1,Aa k),(5,.osl 8),(6,Aa j)]) (fun j=>[(8,.row 1 Ae (beU k n j))]) [] ⟨⟨congrArg (fun z:Nat=>Aa z) qy,E,E,E,E,E,E,E,Y⟩,⟨.inl (congrArg (Ob.row 1 Ae) (by simp[beU,be])),E,Y⟩,E,E⟩ ?_
 intro j hj
 have hlen:=Af1 k n j hj
 refine oO ?_
 refine⟨fun h=>?_,fun h=>?_⟩
 ·have hlt:j<k:=qA h
  have hsucc:=Amf k n j hlt
  have hle:=Nat.div_le_self n (256 ^ j)
  have hdiv:=Ag0 n j
  generalize n / 256 ^ j=q at *
  generalize beU k n j=u at *
  have e3:IntKind.u8.wrap ((q:Int).tmod 256)=((UInt8.ofNat q).toNat:Int):=by
   rw[Int.tmod_eq_emod_of_nonneg qn,IntKind.wrap_u8]
   simp
  refine oO ?_
  refine iW ?_
  refine iW ?_
  refine⟨by decide,?_⟩
  conv=>whnf
  refine⟨by omega,by omega,?_⟩
  conv=>whnf
  refine⟨E,by omega,UInt8.ofNat q,congrArg (fun z=>[SV.val (.int .u8 z)]) e3.symm,E,?_⟩
  conv=>whnf
  refine⟨by decide,?_⟩
  conv=>whnf
  refine iW ?_
  refine Ar [] hlt ⟨⟨congrArg (fun z=>SV.val (.int .i64 z)) ?_,E,E,E,E,E,E,E,Y⟩,⟨.inl (congrArg (Ob.row 1 Ae) ?_),E,Y⟩,E,E⟩
  ·rw[← hdiv,Int.tdiv_eq_ediv_of_nonneg qn,IntKind.wrap_i64];omega
  ·rw[hsucc];congr 1;omega
 ·have hjk:j=k:=qB h
  subst hjk
  refine oO ?_
  refine done E (.cons .tmp .nil) [(0,8)] [(0,.row 1 Ae (be j n))] (fun _ h=>h) E E ⟨Y,⟨.inl (congrArg (Ob.row 1 Ae) ?_),E,Y⟩,E,E⟩
  simp[beU]
theorem H9 {x:Int} (h0:0≤x) (h1:x<18446744073709551616):IntKind.u64.wrap x=x:=by rw[IntKind.wrap_u64];omega
theorem Yu (ip:Nat) (h:ip<4294967296):Sy.Spec Tryz.prog 44 [Bi ip] [] (A5 (E2 ip)) []:=cT F44 Tryz.ntmps44 fun F hF=>by
 conv=>whnf
 refine Am E (.cons .tmp .nil) ?_ E
 refine congrArg (fun z=>SV.val (.int .u64 z)) ?_
 have e:IntKind.u64.wrap (ip:Int)=ip:=H9 qn qn
 rw[e]
 have hb:=bits_or_u64_nat 2199023255552 ip qx qn
 rw[show ((2199023255552:Nat):Int)=2199023255552 from rfl]at hb
 rw[hb,E2,Int.toNat_natCast]
 have h2:=Nat.two_pow_add_eq_or_of_lt (i:=32) (b:=ip) qn 512
 rw[show 2 ^ 32 * 512=2199023255552 from rfl]at h2
 rw[← h2]
theorem Aks (ip:Nat) (h:ip<4294967296):Sy.Spec Tryz.prog 47 [Bi ip] [] (A5 (E2 ip)) []:=cT F47 Tryz.ntmps47 fun F hF=>by
 conv=>whnf
 refine Am E (.cons .tmp .nil) ?_ E
 refine congrArg (fun z=>SV.val (.int .u64 z)) ?_
 have e:IntKind.u64.wrap (ip:Int)=ip:=H9 qn qn
 rw[e,H9 qn qn,E2,Int.toNat_natCast]
 omega
theorem tagIsS (d s:Nat) (t:Int) (body:List UInt8) (ht:t≠33024):Sy.Spec Tryz.prog 182 [Ai1 d s t body] [] (Ab false) []:=cT F182 Tryz.ntmps182 fun F hF=>by
 conv=>whnf
 refine Am E (.cons .tmp .nil) ?_ E
 exact congrArg Ab (beq_eq_false_iff_ne.2 ht).symm
theorem Anb (v:Nat) (hv:v<9223372036854775808):bits .or .i64 (IntKind.i64.wrap (0 * 2 ^ min (Int.toNat 12) IntKind.i64.bits)) (v:Int)=v:=by
 have h:=Cz 0 v qx hv
 rw[Nat.zero_or]at h
 exact h
theorem Am3 (d s t v:Nat) (body:List UInt8) (ht:t≠33024) (ht2:t≤65535) (hv:v≤4094) (hb:body.length≤1500) :
  Sy.Spec Tryz.prog 122 [Ai1 d s t body,Aa v,Aa 0] [] (.tup [Ai1 d s 33024 ([UInt8.ofNat (v / 256),UInt8.ofNat v,UInt8.ofNat (t / 256),UInt8.ofNat t]++body),Aa 0]) []:=cT F122 Tryz.ntmps122 fun F hF=>by
 have hor:=Anb v qn
 have tb1:=D1 v
 have tb2:=D1 t
 conv=>whnf
 refine c0 (tagIsS d s t body qn) F182 ?_
 (refine oF ?_;refine bF ?_)
 refine⟨fun h=>absurd (of_decide_eq_true h) qn,fun _=>?_⟩
 (refine oF ?_;refine bF ?_;refine bF ?_)
 refine⟨fun h=>absurd (of_decide_eq_true h) qn,fun _=>?_⟩
 refine oO ?_
 refine⟨fun h=>absurd (of_decide_eq_true h) qn,fun _=>?_⟩
 refine oO ?_
 refine⟨by omega,?_⟩
 conv=>whnf
 rw[hor]
 refine⟨by omega,?_⟩
 conv=>whnf
 refine⟨by omega,?_⟩
 conv=>whnf
 refine Bk (Ah Γ.toTy 70 E E E E E (.lit (e:=Ae) (l:=[UInt8.ofNat (v / 256),UInt8.ofNat v,UInt8.ofNat (t / 256),UInt8.ofNat t]) E ?_) .sl qy (by simp;omega) (by simp;omega)) qq E ?_
 ·have h1:=List.cons.inj tb1
  have h2:=List.cons.inj tb2
  have h3:=List.cons.inj h1.2
  have h4:=List.cons.inj h2.2
  simp only[List.map_cons,List.map_nil]
  rw[h1.1,h3.1,h2.1,h4.1]
 refine oD ?_
 refine kW ?_
 refine Aq 70 E ?_
 exact dN
end Go.Sy.YteinjapglfkamaaGreat
namespace Go.Sy.YteinjapglfkamaaGreat
open Go.Proofs
def Hw (l:List UInt8):Nat:=l.foldl (fun n c=>n * 256+c.toNat) 0
theorem Yc (l:List UInt8) (c:UInt8):Hw (l++[c])=Hw l * 256+c.toNat:=by
 rw[Hw,List.foldl_append];rfl
theorem Kd:∀ (k:Nat) (l:List UInt8),l.length=k→Hw l<256 ^ k
 | 0,l,h=>by rw[List.length_eq_zero_iff.1 h];decide
 | k+1,l,h=>by
  have hne:l≠[]:=fun e=>by rw[e]at h;cases h
  have e:=List.dropLast_concat_getLast hne
  have h1:=Kd k l.dropLast (by rw[List.length_dropLast];omega)
  have h2:=(l.getLast hne).toNat_lt
  rw[← e,Yc,Nat.pow_succ]
  omega
theorem Ahb (l:List UInt8) {j:Nat} (h:j<l.length):Hw (l.take (j+1))=Hw (l.take j) * 256+l[j].toNat:=by
 rw[List.take_succ_eq_append_getElem h,Yc]
theorem Am0 (m:Nat) (c:UInt8) (h:m<1099511627776) :
  bits .or .u64 (IntKind.u64.wrap ((m:Int) * 2 ^ min (Int.toNat 8) IntKind.u64.bits)) (IntKind.u64.wrap (c.toNat:Int))=((m * 256+c.toNat:Nat):Int):=by
 have hc:=c.toNat_lt
 have e1:IntKind.u64.wrap ((m:Int) * 2 ^ min (Int.toNat 8) IntKind.u64.bits)=((m * 256:Nat):Int):=by
  show IntKind.u64.wrap ((m:Int) * 256)=_
  rw[IntKind.wrap_u64];omega
 have e2:IntKind.u64.wrap (c.toNat:Int)=(c.toNat:Int):=by rw[IntKind.wrap_u64];omega
 rw[e1,e2,bits_or_u64_nat _ _ qn qn]
 congr 1
 have h:=Nat.two_pow_add_eq_or_of_lt (i:=8) (b:=c.toNat) qn m
 rw[Nat.mul_comm m 256]
 exact h.symm
def E9 (m:Nat):Bool:=decide (m / 1099511627776 % 2=1)
theorem An7 (m k:Nat):m &&& 2 ^ k=if m / 2 ^ k % 2=1 then 2 ^ k else 0:=by
 apply Nat.eq_of_testBit_eq
 intro i
 rw[Nat.testBit_and,Nat.testBit_two_pow]
 by_cases hi:k=i
 ·subst hi
  rw[decide_eq_true rfl,Bool.and_true,Nat.testBit_eq_decide_div_mod_eq]
  split
  ·rename_i h;rw[decide_eq_true h,Nat.testBit_two_pow_self]
  ·rename_i h;rw[decide_eq_false h,Nat.zero_testBit]
 ·rw[decide_eq_false hi,Bool.and_false]
  split
  ·rw[Nat.testBit_two_pow,decide_eq_false hi]
  ·rw[Nat.zero_testBit]
theorem Aiv (m:Nat) (h:m<18446744073709551616):(bits .and .u64 (m:Int) 1099511627776 != 0)=E9 m:=by
 have e:=bits_and_u64_nat m 1099511627776 h qx
 rw[show ((1099511627776:Nat):Int)=1099511627776 from rfl]at e
 rw[e,show (1099511627776:Nat)=2 ^ 40 from rfl,An7,E9,show (1099511627776:Nat)=2 ^ 40 from rfl]
 split
 ·rename_i h;rw[decide_eq_true h];rfl
 ·rename_i h;rw[decide_eq_false h];rfl
structure EntryM where
 mac:Nat
 where_:Int
 seen:Int
deriving DecidableEq
def Av (e:EntryM):SV:=.agg [A5 e.mac,Aa e.where_,Aa e.seen]
def Hg (m:Nat):Bool:=decide (m≤281474976710655) && !E9 m
def Ex (now:Int):Bool:=decide (0≤now) && decide (now≤1099511627776)
def D0 (t:List EntryM) (m:Nat):Int:=B8 (fun e=>decide (e.mac=m)) t
def Tu (t:List EntryM) (i:Nat) (e:EntryM):Bool:=Hg e.mac && Ex e.seen && decide (D0 t e.mac=i)
def tableB (t:List EntryM):Bool:=decide (t.length≤8) && Cg (Tu t) t
def findE (t:List EntryM) (m:Nat):Int × Bool:=if D0 t m<0 then (0,false) else (((t[(D0 t m).toNat]?).map (·.where_)).getD 0,true)
def oldestU (t:List EntryM):Nat→Nat
 | 0=>0
 | j+1=>if ((t[j]?).map (·.seen)).getD 0<((t[oldestU t j]?).map (·.seen)).getD 0 then j else oldestU t j
def learnT (t:List EntryM) (m:Nat) (wh now:Int):List EntryM :=
 if tableB t=false∨Hg m=false∨Ex now=false then t
 else if 0≤D0 t m then t.set (D0 t m).toNat ⟨m,wh,now⟩
 else (if t.length=8 then t.eraseIdx (oldestU t t.length) else t)++[⟨m,wh,now⟩]
def ageT (t:List EntryM) (now:Int):List EntryM:=if tableB t=false∨Ex now=false then t else t.filter fun e=>decide (now-4≤e.seen)
def noF:FrameM:=⟨0,0,0,[]⟩
structure FrameOK (f:FrameM):Prop where
 dst:f.dst<281474976710656
 src:f.src<281474976710656
 typ:f.typ≤65535
 body:f.body.length≤1504
def takeF (b:List UInt8):FrameM × Int :=
 if b.length<14 then (noF,10) else if 1518<b.length then (noF,14)
 else (⟨Hw (b.take 6),Hw ((b.drop 6).take 6),Hw ((b.drop 12).take 2),b.drop 14⟩,0)
def Mz (f:FrameM):List UInt8:=frame f.dst f.src f.typ f.body
def stripT (f:FrameM):FrameM × Int × Int × Int :=
 if f.typ≠33024 then (noF,0,0,11) else if f.body.length<4 then (noF,0,0,10)
 else if 4094<Hw (f.body.take 2) % 4096∨Hw ((f.body.drop 2).take 2)=33024 then (noF,0,0,15)
 else (⟨f.dst,f.src,Hw ((f.body.drop 2).take 2),f.body.drop 4⟩,(Hw (f.body.take 2) % 4096:Nat),(Hw (f.body.take 2) / 4096:Nat),0)
def tagT (f:FrameM) (v:Int):FrameM × Int :=
 if f.typ=33024 then (noF,15) else if 1500<f.body.length then (noF,14)
 else (⟨f.dst,f.src,33024,[UInt8.ofNat (v.toNat / 256),UInt8.ofNat v.toNat,UInt8.ofNat (f.typ / 256),UInt8.ofNat f.typ]++f.body⟩,0)
def vlanT (p:Port) (tagged:Bool) (vid:Int):Int × Bool :=
 if tagged=false∨vid=0 then (p.native,decide (p.native≠0)) else if inB p.tagged vid=true then (vid,true) else (0,false)
def Iq (n:Net) (port:Int) (f:FrameM) (tagged:Bool) (vid:Int):Int × FrameM × Int :=
 if E9 f.src=true then (0,noF,11)
 else if (vlanT (nth n.ports port) tagged vid).2=false then (0,noF,16)
 else (Ch n (nth n.ports port).dev (vlanT (nth n.ports port) tagged vid).1,f,0)
def enterT (n:Net) (port:Int) (b:List UInt8):Int × FrameM × Int :=
 if Ag port n.ports.length=false∨Ac n=false then (0,noF,2)
 else if (takeF b).2≠0 then (0,noF,(takeF b).2)
 else if (takeF b).1.typ=33024 then
  (if (stripT (takeF b).1).2.2.2≠0 then (0,noF,(stripT (takeF b).1).2.2.2) else Iq n port (stripT (takeF b).1).1 true (stripT (takeF b).1).2.1)
 else Iq n port (takeF b).1 false 0
def leaveT (n:Net) (port dom:Int) (f:FrameM):List UInt8 × Int :=
 if Ag port n.ports.length=false∨Ag dom n.domains.length=false∨Ac n=false then ([],2)
 else if (nth n.ports port).dev≠(nth n.domains dom).dev∨Dk (nth n.ports port) (nth n.domains dom).vlan=false then ([],16)
 else if f.typ=33024 then ([],15)
 else if (nth n.domains dom).vlan=(nth n.ports port).native then (Mz f,0)
 else if (tagT f (nth n.domains dom).vlan).2≠0 then ([],(tagT f (nth n.domains dom).vlan).2)
 else (Mz (tagT f (nth n.domains dom).vlan).1,0)
def linkT (n:Net) (port:Int) (b:List UInt8):Int × Int × FrameM × Int :=
 if Cv n port<0 then (0,0,noF,2) else (Cv n port,enterT n (Cv n port) b)
structure QueuedM where
 from_:Int
 peer:Int
 origin:Int
 frame:FrameM
def Bg (q:QueuedM):SV:=.agg [Aa q.from_,Aa q.peer,Aa q.origin,A5 q.frame.dst,A5 q.frame.src,Aa q.frame.typ,.sl 1 Ae q.frame.body]
def noQ:QueuedM:=⟨0,0,0,noF⟩
def pushT (l:List QueuedM) (q:QueuedM):List QueuedM × Bool:=if 64≤l.length then (l,false) else (l++[q],true)
def takeT (l:List QueuedM) (at_:Int):QueuedM × List QueuedM × Bool :=
 if at_<0∨(l.length:Int)≤at_ then (noQ,l,false) else ((l[at_.toNat]?).getD noQ,l.eraseIdx at_.toNat,true)
def usableB (n:Net) (fw:List Bool) (p:Int):Bool:=decide ((nth n.ports p).link<0) || (fw[(nth n.ports p).link.toNat]?).getD false
def K3 (n:Net) (fw:List Bool) (dom from_:Int):Bool :=
 Ag dom n.domains.length && decide (fw.length=n.links.length) && Ac n && (decide (from_=-1) || decide (from_=-2) || inB (A0 n dom) from_)
def Dm (n:Net) (fw:List Bool) (from_:Int) (l:List Int):List Int:=l.filter fun p=>!(decide (p=from_) || !(usableB n fw p))
def peersOut (n:Net) (dom from_:Int):List Int:=if from_=-1 then [] else (nth n.domains dom).peers
def floodT (n:Net) (fw:List Bool) (dom from_:Int):List Int × List Int × Int :=
 if K3 n fw dom from_=false then ([],[],2) else (Dm n fw from_ (A0 n dom),peersOut n dom from_,0)
def Db (n:Net) (dom:Int) (m:Nat):Int:=B8 (fun s:Static=>decide (s.domain=dom) && decide (s.mac=(m:Int))) n.statics
def Ci (n:Net) (fw:List Bool) (t:List EntryM) (dom from_:Int) (m:Nat):List Int × List Int × Int :=
 if K3 n fw dom from_=false then ([],[],2)
 else if E9 m=true then (Dm n fw from_ (A0 n dom),peersOut n dom from_,0)
 else if 0≤Db n dom m then (Dm n fw from_ [(nth n.statics (Db n dom m)).port],[],0)
 else if (findE t m).2=true∧0≤(findE t m).1∧inB (A0 n dom) (findE t m).1=true then (Dm n fw from_ [(findE t m).1],[],0)
 else if (findE t m).2=true∧(findE t m).1<0∧inB (nth n.domains dom).peers (-1-(findE t m).1)=true then ([],if from_=-1 then [] else [-1-(findE t m).1],0)
 else (Dm n fw from_ (A0 n dom),peersOut n dom from_,0)
def bAt (b:List UInt8) (i:Nat):UInt8:=b.getD i 0
def numAt (b:List UInt8) (k m:Nat):Nat:=Hw ((b.drop k).take m)
def Bu (l:List Nat):List UInt8:=l.flatMap fun n=>[UInt8.ofNat (n / 256),UInt8.ofNat n]
def udpPort (a b:Nat):Nat:=49152+(a ^^^ b) % 16384
def Ajz (src dst:Nat) (body:List UInt8):List UInt8:=Bu [src,dst,8+body.length,0]++body
def udpTakeT (b:List UInt8):Int × Int × List UInt8 × Int :=
 if b.length<8 then (0,0,[],10) else if numAt b 4 2<8 then (0,0,[],11) else if b.length<numAt b 4 2 then (0,0,[],10)
 else if numAt b 6 2≠0 then (0,0,[],12) else (numAt b 0 2,numAt b 2 2,(b.take (numAt b 4 2)).drop 8,0)
structure PacketM where
 tos:Nat
 id:Nat
 ttl:Nat
 proto:Nat
 src:Nat
 dst:Nat
 body:List UInt8
def noP:PacketM:=⟨0,0,0,0,0,0,[]⟩
def Lr (p:PacketM):SV:=.agg [Aa p.tos,Aa p.id,Aa p.ttl,Aa p.proto,Bi p.src,Bi p.dst,.sl 1 Ae p.body]
structure PacketOK (p:PacketM):Prop where
 tos:p.tos≤255
 id:p.id≤65535
 ttl:p.ttl≤255
 proto:p.proto≤255
 src:p.src<4294967296
 dst:p.dst<4294967296
def D9 (p:PacketM) (s:Nat):List UInt8:=Bu [17664+p.tos,20+p.body.length,p.id,0,p.ttl * 256+p.proto,s,p.src / 65536,p.src,p.dst / 65536,p.dst]
def J1 (p:PacketM):Nat:=Qh (D9 p 0)
def Q8 (p:PacketM):List UInt8:=D9 p (J1 p)++p.body
def ipPutT (p:PacketM):List UInt8 × Int:=if 1480<p.body.length then ([],14) else (Q8 p,0)
def ipTakeT (b:List UInt8):PacketM × Int :=
 if b.length<20 then (noP,10) else if bAt b 0≠69∨numAt b 2 2<20 then (noP,11) else if b.length<numAt b 2 2 then (noP,10)
 else if numAt b 6 2≠0 then (noP,11) else if C2 (He (b.take 20) 10)≠65535 then (noP,12)
 else (⟨(bAt b 1).toNat,numAt b 4 2,(bAt b 8).toNat,(bAt b 9).toNat,numAt b 12 4,numAt b 16 4,(b.take (numAt b 2 2)).drop 20⟩,0)
def K6 (v:Nat):List UInt8:=[8,0,0,0,UInt8.ofNat (v / 65536),UInt8.ofNat (v / 256),UInt8.ofNat v,0]
def Ta (v:Int):Bool:=decide (v<1) || decide (16777215<v)
def vniT (b:List UInt8):Int × List UInt8 × Int :=
 if b.length<8 then (0,[],10) else if numAt b 4 3=0∨b.take 8≠K6 (numAt b 4 3) then (0,[],11) else (numAt b 4 3,b.drop 8,0)
def M3 (from_ to:Nat) (v:Nat) (f:FrameM):PacketM:=⟨0,0,64,17,from_,to,Ajz (udpPort f.dst f.src) 4789 (K6 v++Mz f)⟩
def wrapT (from_ to:Nat) (v:Int) (f:FrameM):List UInt8 × Int :=
 if f.typ=33024 then ([],15) else if Ta v=true then ([],17) else if 1450<f.body.length then ([],14)
 else (frame (E2 to) (E2 from_) 2048 (Q8 (M3 from_ to v.toNat f)),0)
def outerT (b:List UInt8):PacketM × Int :=
 if (takeF b).2≠0 then (noP,(takeF b).2) else if (takeF b).1.typ≠2048 then (noP,11)
 else if (ipTakeT (takeF b).1.body).2≠0 then (noP,(ipTakeT (takeF b).1.body).2)
 else ((ipTakeT (takeF b).1.body).1,if (ipTakeT (takeF b).1.body).1.proto≠17 then 11 else 0)
def Jh (b:List UInt8):Int × FrameM × Int :=
 if (udpTakeT b).2.2.2≠0 then (0,noF,(udpTakeT b).2.2.2) else if (udpTakeT b).2.1≠4789 then (0,noF,11)
 else if (vniT (udpTakeT b).2.2.1).2.2≠0 then (0,noF,(vniT (udpTakeT b).2.2.1).2.2)
 else if (takeF (vniT (udpTakeT b).2.2.1).2.1).2≠0 then (0,noF,(takeF (vniT (udpTakeT b).2.2.1).2.1).2)
 else if (takeF (vniT (udpTakeT b).2.2.1).2.1).1.typ=33024 then (0,noF,15)
 else ((vniT (udpTakeT b).2.2.1).1,(takeF (vniT (udpTakeT b).2.2.1).2.1).1,0)
def Br (b:List UInt8):Nat × Nat × Int × FrameM × Int :=
 if (outerT b).2≠0 then (0,0,0,noF,(outerT b).2) else if (Jh (outerT b).1.body).2.2≠0 then (0,0,0,noF,(Jh (outerT b).1.body).2.2)
 else ((outerT b).1.src,(outerT b).1.dst,(Jh (outerT b).1.body).1,(Jh (outerT b).1.body).2.1,0)
structure Net.Num (n:Net):Prop where
 vtep:∀ d∈n.devices,0≤d.vtep∧d.vtep<4294967296
 addr:∀ i∈n.irbs,0≤i.addr∧i.addr<4294967296
def Hu (n:Net) (dom:Int):Int:=(nth n.devices (nth n.domains dom).dev).vtep
def meshT (n:Net) (dom peer:Int) (f:FrameM):List UInt8 × Int :=
 if Ag peer n.domains.length=false∨Ag dom n.domains.length=false∨Ac n=false then ([],2)
 else if inB (nth n.domains dom).peers peer=false then ([],17)
 else wrapT (Hu n dom).toNat (Hu n peer).toNat (nth n.domains dom).vni f
def endsT (n:Net) (src dst:Nat) (vni:Int):Int × Int :=
 let dev:=B8 (fun d:Device=>decide (d.vtep=(dst:Int))) n.devices
 let dom:=B8 (fun d:Domain=>decide (d.dev=dev) && decide (d.vni=vni)) n.domains
 if dev<0∨dom<0 then (-1,-1)
 else
  let i:=B8 (fun k:Int=>decide (Hu n k=(src:Int))) (nth n.domains dom).peers
  if i<0 then (-1,-1) else (nth (nth n.domains dom).peers i,dom)
def comeT (n:Net) (b:List UInt8):Int × Int × FrameM × Int :=
 if Ac n=false then (0,0,noF,2)
 else if (Br b).2.2.2.2≠0 then (0,0,noF,(Br b).2.2.2.2)
 else if (endsT n (Br b).1 (Br b).2.1 (Br b).2.2.1).1<0 then (0,0,noF,17)
 else if E9 (Br b).2.2.2.1.src=true then (0,0,noF,11)
 else ((endsT n (Br b).1 (Br b).2.1 (Br b).2.2.1).1,(endsT n (Br b).1 (Br b).2.1 (Br b).2.2.1).2,(Br b).2.2.2.1,0)
def routerT (n:Net) (dom:Int) (m:Nat):Int × Bool :=
 if Ag dom n.domains.length=false∨Ac n=false then (0,false)
 else if (nth n.domains dom).irb<0∨E2 (nth n.irbs (nth n.domains dom).irb).addr≠m then (0,false)
 else ((nth n.domains dom).irb,true)
def Afe (p:PacketM):PacketM:=⟨p.tos,p.id,p.ttl-1,p.proto,p.src,p.dst,p.body⟩
def hopT (n:Net) (irb:Int) (f:FrameM):Int × FrameM × Int :=
 if Ag irb n.irbs.length=false∨Ac n=false then (0,noF,2)
 else if f.typ≠2048 then (0,noF,11)
 else if (ipTakeT f.body).2≠0 then (0,noF,(ipTakeT f.body).2)
 else if (ipTakeT f.body).1.ttl≤1 then (0,noF,13)
 else if (lookT n irb (ipTakeT f.body).1.dst).2=false then (0,noF,31)
 else if 1480<(ipTakeT f.body).1.body.length then (0,noF,14)
 else ((nth n.irbs (lookT n irb (ipTakeT f.body).1.dst).1).domain,
  ⟨E2 (ipTakeT f.body).1.dst,E2 (nth n.irbs (lookT n irb (ipTakeT f.body).1.dst).1).addr,2048,Q8 (Afe (ipTakeT f.body).1)⟩,0)
structure OutM where
 kind:Int
 port:Int
 domain:Int
 bytes:List UInt8
 frame:FrameM
 error:Int
def Dn (o:OutM):SV:=.agg [Aa o.kind,Aa o.port,Aa o.domain,.sl 1 Ae o.bytes,A5 o.frame.dst,A5 o.frame.src,Aa o.frame.typ,.sl 1 Ae o.frame.body,Aa o.error]
def learnQ (t:List EntryM) (q:QueuedM) (now:Int):List EntryM :=
 if q.from_=-2 then t else learnT t q.frame.src (if q.from_=-1 then -1-q.peer else q.from_) now
def Q4 (o:OutM) (r:List UInt8 × Int):OutM:=if r.2≠0 then ⟨5,o.port,o.domain,[],o.frame,r.2⟩ else ⟨o.kind,o.port,o.domain,r.1,o.frame,o.error⟩
def Xv (n:Net) (dom:Int) (f:FrameM) (p:Int):OutM:=Q4 ⟨if (nth n.ports p).link<0 then 1 else 2,p,0,[],noF,0⟩ (leaveT n p dom f)
def Zw (n:Net) (dom:Int) (f:FrameM) (p:Int):OutM:=Q4 ⟨3,0,p,[],noF,0⟩ (meshT n dom p f)
def bridgeT (n:Net) (fw:List Bool) (t:List EntryM) (dom:Int) (q:QueuedM) (now:Int):List EntryM × List OutM × Int :=
 if K3 n fw dom q.from_=false∨tableB t=false then ([],[],2)
 else if (routerT n dom q.frame.dst).2=true then
  (if (hopT n (routerT n dom q.frame.dst).1 q.frame).2.2≠0 then (learnQ t q now,[],(hopT n (routerT n dom q.frame.dst).1 q.frame).2.2)
   else (learnQ t q now,[⟨4,0,(hopT n (routerT n dom q.frame.dst).1 q.frame).1,[],(hopT n (routerT n dom q.frame.dst).1 q.frame).2.1,0⟩],0))
 else (learnQ t q now,(Ci n fw (learnQ t q now) dom q.from_ q.frame.dst).1.map (Xv n dom q.frame)++(Ci n fw (learnQ t q now) dom q.from_ q.frame.dst).2.1.map (Zw n dom q.frame),0)
end Go.Sy.YteinjapglfkamaaGreat
namespace Go.Sy
open Go.ChangeShapes Go.WideShapes Go.ChangeAt Go.RowKit
def κ0:Ka:=⟨fun _=>.new,fun _=>False⟩
theorem inv0 (w:World):Inv κ0 w :=
 ⟨fun i j b h=>(by cases h),fun k b h=>(by cases h),fun k b h=>(by cases h),fun b h=>False.elim h⟩
theorem Aas {w w':World} {κ':Ka} (c:Ctx ⟨w,κ0⟩ κ' w'):Below w.heap.size w w' :=
 ⟨c.os,c.tape,c.output,c.size,fun k hk=>c.old k hk (fun j h=>by cases h)⟩
section
variable {H:Type} {enc:TypeId × Value→H} {P:Program}
theorem M4 {W W':World} (hl:laidOutB P=true) (hb:Below W.heap.size W W'):∀ {ts:List TypeId} {vs:List Value} {ds:List (DataW H)} {ps:List MemPlace},(∀ t∈ts,P.readableRec t=true∧t<P.types.size) →
  (∀ x∈ps,x.block<W.heap.size)→DataW.TrodAll enc P W 0 (fun _=>true) true ts vs ds ps→DataW.TrodAll enc P W' 0 (fun b=>decide (b<W.heap.size)) true ts vs ds ps
 | [],_,_,_,_,_,h=>by
  obtain ⟨rfl,rfl,rfl⟩:=trodAll_nil h
  rfl
 | t::ts,_,_,_,ht,hp,h=>by
  obtain ⟨v,vs,d,ds,p,q,rfl,rfl,rfl,h1,h2⟩:=trodAll_cons h
  have:=ht t qy
  exact⟨p,q,Below.trod hl this.1 this.2 h1 hb (fun x hx=>hp x (by simp[hx])),M4 hl hb (fun t h=>ht t (by simp[h])) (fun x hx=>hp x (by simp[hx])) h2,E⟩
theorem Aiq {f:FuncId} {fn:Func} {s:ChangeSpec} {W:World} {args:Array Value} {ds gs:List (DataW H)} {before:List MemPlace} {tb:TypeId} {A:List SV} (hv:s.vars=[]) (hl:laidOutB P=true)
  (hW:DataW.Whole enc P fn.params.toList s.vars false W args.toList ds gs before) (hts:∀ t∈fn.params.toList,P.readableRec t=true∧t<P.types.size) (hrt:fn.resultTypes=#[tb]) (hbt:P.underlying tb=some .bool)
  (hfn:∀ gs:List (DataW H),gs=[]→s.fn H (ds++gs)={ results:=[.lit (.bool true)],args:=ds }) (hA:RdL κ0 W A args.toList) (hs:Sy.Spec P f A [] (Ab true) []) :
  Calls P f args W fun e W'=>∃ v,e=.returned v∧s.post enc P fn false true false false W args v W':=by
 have hc:=hs κ0 W args.toList (inv0 W) (fun k hk=>absurd rfl hk) hA (fun p hp=>by cases hp)
 simp only[Array.toArray_toList]at hc
 refine hc.mono ?_
 rintro e W' ⟨v,κ',rfl,ctx,inv,hR,_⟩
 have hvv:v=.bool true:=by simpa [Ab,Rd] using hR
 subst hvv
 have hb:=Aas ctx
 have hW':=hW
 obtain ⟨p,q,h1,h2,h3,h4,h5⟩:=hW
 have hgs:gs=[]∧q=[]:=by
  rw[hv]at h2
  exact trodVars_none h2
 obtain ⟨rfl,rfl⟩:=hgs
 rw[List.append_nil]at h3
 subst h3
 have hlt:∀ x∈before,x.block<W.heap.size:=fun x hx=>by simpa using hW'.lt x hx
 refine⟨_,rfl,ds,[],before,[],before,[],hW',?_,?_,?_,?_,fun h=>by cases h⟩
 ·rw[hfn [] rfl,hrt]
  exact trodAll_mk1 (shut_bool hbt true)
 ·rw[hfn [] rfl]
  exact M4 hl hb hts hlt h1
 ·rw[hv,hfn [] rfl]
  rfl
 ·exact hb.frame _
end
end Go.Sy
namespace Go.Sy
theorem K7 {P:Program} (Γ:Ty P) {o:Oper} {s:SS} {t:TypeId} {ti:TI} {et:TypeId} {len esz sz g:Nat} {y:Operand} {ik:IntKind} {n:Int} {z:SV} (k:Nat)
  (h:o.op=.indexAddr t (.global g) y) (ht:Γ.get t=some ti) (hk:ti.k=.array et len esz) (hb:s.h k=.glob sz z g) (hy:ev s y=.val (.int ik n)) (h0:0≤n) (hn:n.toNat<len) :
  Good P o s ⟨.ref sz z (n.toNat * esz),[k],[]⟩ :=
 Good.pure fun κ a w _ hr ho=>by
  have h1:=ho k qy
  have h2:=hr y (by simp[h,Op.operands])
  rw[hb]at h1
  rw[hy]at h2
  simp only[ObOK,Rd,RdD]at h1
  obtain ⟨b,oo,u,e1,e2,e3,e4,e5⟩:=h1
  obtain ⟨hu,i,q1,q2⟩:=Mb Γ ht hk
  simp only[Nat.add_zero,Value.pointer.injEq,Option.some.injEq,Addr.mk.injEq,and_true]at e1
  obtain ⟨rfl,rfl⟩:=e1
  refine⟨.pointer (some ⟨g,0+n.toNat * esz,none⟩),?_,?_⟩
  ·have hg:a.eval (.global g)=.pointer (some ⟨g,0,none⟩):=rfl
   simp only[execOp,h,hg,h2.val]
   simp[Kg w hu q1 q2 h0 hn]
  ·simp only[Rd,RdD]
   exact⟨g,0,u,E,e2,e3,e4,e5⟩
theorem Ob.shp_glob {x:Ob} {sz g:Nat} {z:SV} (h:x.shp=(Ob.glob sz z g).shp):x=.glob sz z g:=by
 cases x<;>simp_all[Ob.shp]
theorem GoodX.glob {P:Program} (Γ:Ty P) {o:Oper} {s:SS} {t:TypeId} {ti:TI} {et:TypeId} {len esz sz g:Nat} {y:Operand} {ik:IntKind} {n:Int} {z:SV} (k:Nat)
  (h:o.op=.indexAddr t (.global g) y) (ht:Γ.get t=some ti) (hk:ti.k=.array et len esz) (hb:s.h k=.glob sz z g) (hy:ev s y=.val (.int ik n)) (h0:0≤n) (hn:n.toNat<len) :
  GoodX P o s ⟨.ref sz z (n.toNat * esz),[k],[]⟩ where
 good:=(K7 Γ k h ht hk hb hy h0 hn).two
 idx _:=⟨rfl,fun s' h1 h2=>K7 Γ k h ht hk (Ob.shp_glob ((h2 k qy).trans (congrArg Ob.shp hb))) ((h1 y (by simp[h,Op.operands])).trans hy) h0 hn⟩
 st hs:=by simp[Je,h]at hs
section
open Go.ChangeShapes Go.WideShapes Go.ChangeAt Go.RowKit
variable {H:Type} {enc:TypeId × Value→H} {P:Program}
end
end Go.Sy
namespace Go.Sy
theorem El {P:Program} (Γ:Ty P) {o:Oper} {s:SS} {t:TypeId} {ti:TI} {et:TypeId} {len:Nat} {x y:Operand} {ik:IntKind} {n:Int} {l:List SV} {z:SV} {k:EK} (h:o.op=.index t x y) (ht:Γ.get t=some ti) (hk:ti.k=.array et len 1)
  (he:P.underlying et=some (EK.desc k)) (hx:ev s x=.agg l) (hy:ev s y=.val (.int ik n)) (h0:0≤n) (hn:n.toNat<len) (hz:Dv l n.toNat=some z):Good P o s ⟨z,[],[]⟩ :=
 Good.pure fun κ a w _ hr _=>by
  have h1:=hr x (by simp[h,Op.operands])
  have h2:=hr y (by simp[h,Op.operands])
  rw[hx]at h1
  rw[hy]at h2
  simp only[Rd]at h1
  obtain ⟨cs,e1,_,e2⟩:=h1
  obtain ⟨v,e3,e4⟩:=e2.getT hz
  obtain ⟨hu,i,q1,q2⟩:=Mb Γ ht hk
  have hp:=Vs (P:=P) w he cs.toArray e3
  have hlt:n<len:=by omega
  refine⟨v,?_,e4⟩
  simp[execOp,h,e1,h2.val,Instr.index,run_underlying hu,asIntOf,h0,hlt,sizeOf,typeInfo,q1,q2,hp]
theorem A8 {C:Cx} {k:List KI} {s:SS} (d:Nat) (l':List SV) {l:List SV} (h:s.h d=.box l) (hv:VwL s [] l l') (hg:G C k ⟨s.σ,upd s.h d (.box l')⟩):G C k s:=fun κ a w hs =>
 hg κ a w ⟨hs.defers,hs.size,hs.inv,hs.ctx,hs.slot,fun i=>by
  show ObOK κ w i (upd s.h d (.box l') i)
  by_cases hi:i=d
  ·subst hi
   rw[Bc]
   have:=hs.obj i
   rw[h]at this
   obtain ⟨b,cs,T,fr,e1,e2,e3,e4,e5⟩:=this
   exact⟨b,cs,T,fr,e1,e2,e3,e4,VwL.rd hs.inv (fun _ hn=>by cases hn) hv e5⟩
  ·rw[Bv _ _ hi];exact hs.obj i⟩
end Go.Sy
namespace Go.Sy.YteinjapglfkamaaGreat
open Go.Proofs
attribute [local irreducible] Go.Sy.G Go.Sy.DR
set_option maxRecDepth 100000
set_option maxHeartbeats 4000000
theorem Mh {κ:Ka} {w:World} {k sz:Nat} {α:Type} {e:α→SV} {l:List α} (hne:l≠[]) (h:ObOK κ w k (.row sz e l)):∃ b n c,κ k=.row b n c:=by
 rcases h with ⟨_,h⟩ | ⟨b,cap,_,_,_,h,_⟩
 ·exact absurd h hne
 ·exact⟨b,_,cap,h⟩
theorem Aaq (l:List Device) (hl:l.length<2147483648):Sy.Spec Tryz.prog 162 [.sl 5 Bf l] [] (.sl 5 Bf l) []:=cT F162 Tryz.ntmps162 fun F hF=>by
 conv=>whnf
 refine Dw E (.inl E) E E E .sl E E ?_
 intro b hb
 cases b
 ·refine oF ?_
  refine Ad (Ah Γ.toTy 7 E E E E E (.lit (e:=Bf) (l:=[]) E E) .sl qy (by simp;omega) (by simp;omega)) E E ?_
  refine Aq 7 E ?_
  refine oO ?_
  exact dN
 ·have h0:l=[]:=List.eq_nil_of_length_eq_zero (hb rfl)
  subst h0
  refine oT ?_
  refine Ak 2 5 Bf E ?_
  exact dN
theorem Afv (l:List Link) (hl:l.length<2147483648):Sy.Spec Tryz.prog 164 [.sl 3 Cb l] [] (.sl 3 Cb l) []:=cT F164 Tryz.ntmps164 fun F hF=>by
 conv=>whnf
 refine Dw E (.inl E) E E E .sl E E ?_
 intro b hb
 cases b
 ·refine oF ?_
  refine Ad (Ah Γ.toTy 7 E E E E E (.lit (e:=Cb) (l:=[]) E E) .sl qy (by simp;omega) (by simp;omega)) E E ?_
  refine Aq 7 E ?_
  refine oO ?_
  exact dN
 ·have h0:l=[]:=List.eq_nil_of_length_eq_zero (hb rfl)
  subst h0
  refine oT ?_
  refine Ak 2 3 Cb E ?_
  exact dN
theorem Aan (l:List Static) (hl:l.length<2147483648):Sy.Spec Tryz.prog 166 [.sl 4 Bd l] [] (.sl 4 Bd l) []:=cT F166 Tryz.ntmps166 fun F hF=>by
 conv=>whnf
 refine Dw E (.inl E) E E E .sl E E ?_
 intro b hb
 cases b
 ·refine oF ?_
  refine Ad (Ah Γ.toTy 7 E E E E E (.lit (e:=Bd) (l:=[]) E E) .sl qy (by simp;omega) (by simp;omega)) E E ?_
  refine Aq 7 E ?_
  refine oO ?_
  exact dN
 ·have h0:l=[]:=List.eq_nil_of_length_eq_zero (hb rfl)
  subst h0
  refine oT ?_
  refine Ak 2 4 Bd E ?_
  exact dN
theorem Ajd (l:List Irb) (hl:l.length<2147483648):Sy.Spec Tryz.prog 169 [.sl 5 Ca l] [] (.sl 5 Ca l) []:=cT F169 Tryz.ntmps169 fun F hF=>by
 conv=>whnf
 refine Dw E (.inl E) E E E .sl E E ?_
 intro b hb
 cases b
 ·refine oF ?_
  refine Ad (Ah Γ.toTy 7 E E E E E (.lit (e:=Ca) (l:=[]) E E) .sl qy (by simp;omega) (by simp;omega)) E E ?_
  refine Aq 7 E ?_
  refine oO ?_
  exact dN
 ·have h0:l=[]:=List.eq_nil_of_length_eq_zero (hb rfl)
  subst h0
  refine oT ?_
  refine Ak 2 5 Ca E ?_
  exact dN
theorem J7 (l:List Int) (hl:l.length<2147483648):Sy.Spec Tryz.prog 170 [.sl 1 Aa l] [] (.sl 1 Aa l) []:=cT F170 Tryz.ntmps170 fun F hF=>by
 conv=>whnf
 refine Dw E (.inl E) E E E .sl E E ?_
 intro b hb
 cases b
 ·refine oF ?_
  refine Ad (Ah Γ.toTy 7 E E E E E (.lit (e:=Aa) (l:=[]) E E) .sl qy (by simp;omega) (by simp;omega)) E E ?_
  refine Aq 7 E ?_
  refine oO ?_
  exact dN
 ·have h0:l=[]:=List.eq_nil_of_length_eq_zero (hb rfl)
  subst h0
  refine oT ?_
  refine Ak 2 1 Aa E ?_
  exact dN
theorem Ajc (l:List Int) (hl:l.length<2147483648):Sy.Spec Tryz.prog 171 [.sl 1 Bi l] [] (.sl 1 Bi l) []:=cT F171 Tryz.ntmps171 fun F hF=>by
 conv=>whnf
 refine Dw E (.inl E) E E E .sl E E ?_
 intro b hb
 cases b
 ·refine oF ?_
  refine Ad (Ah Γ.toTy 7 E E E E E (.lit (e:=Bi) (l:=[]) E E) .sl qy (by simp;omega) (by simp;omega)) E E ?_
  refine Aq 7 E ?_
  refine oO ?_
  exact dN
 ·have h0:l=[]:=List.eq_nil_of_length_eq_zero (hb rfl)
  subst h0
  refine oT ?_
  refine Ak 2 1 Bi E ?_
  exact dN
theorem Afw (l:List Bool) (hl:l.length<2147483648):Sy.Spec Tryz.prog 118 [.sl 1 Ab l] [] (.sl 1 Ab l) []:=cT F118 Tryz.ntmps118 fun F hF=>by
 conv=>whnf
 refine Dw E (.inl E) E E E .sl E E ?_
 intro b hb
 cases b
 ·refine oF ?_
  refine Ad (Ah Γ.toTy 7 E E E E E (.lit (e:=Ab) (l:=[]) E E) .sl qy (by simp;omega) (by simp;omega)) E E ?_
  refine Aq 7 E ?_
  refine oO ?_
  exact dN
 ·have h0:l=[]:=List.eq_nil_of_length_eq_zero (hb rfl)
  subst h0
  refine oT ?_
  refine Ak 2 1 Ab E ?_
  exact dN
theorem Afu (l:List Port) (hl:l.length<2147483648):Sy.Spec Tryz.prog 163 [.sl 7 A2 l] [] (.osl 0) [(0,.row 7 A2 l)]:=cT F163 Tryz.ntmps163 fun F hF=>by
 conv=>whnf
 refine Dw E (.inl E) E E E .sl E E ?_
 intro b hb
 cases b
 ·refine oF ?_
  refine Ad (Ah Γ.toTy 7 E E E E E (.lit (e:=A2) (l:=[]) E E) .sl qy (by simp;omega) (by simp;omega)) E E ?_
  refine oO ?_
  exact done E (.cons .tmp .nil) [(0,7)] [(0,.row 7 A2 l)] (fun _ h=>h) E E ⟨Y,⟨.inl E,E,Y⟩,E,E⟩
 ·have h0:l=[]:=List.eq_nil_of_length_eq_zero (hb rfl)
  subst h0
  refine oT ?_
  refine Cc 2 1000 7 A2 E E ?_
  exact done E (.cons .tmp .nil) [(0,1000)] [(0,.row 7 A2 [])] (fun _ h=>h) E E ⟨Y,⟨.inl E,E,Y⟩,E,E⟩
theorem Aap (l:List Domain) (hl:l.length<2147483648):Sy.Spec Tryz.prog 165 [.sl 6 Ao l] [] (.osl 0) [(0,.row 6 Ao l)]:=cT F165 Tryz.ntmps165 fun F hF=>by
 conv=>whnf
 refine Dw E (.inl E) E E E .sl E E ?_
 intro b hb
 cases b
 ·refine oF ?_
  refine Ad (Ah Γ.toTy 7 E E E E E (.lit (e:=Ao) (l:=[]) E E) .sl qy (by simp;omega) (by simp;omega)) E E ?_
  refine oO ?_
  exact done E (.cons .tmp .nil) [(0,7)] [(0,.row 6 Ao l)] (fun _ h=>h) E E ⟨Y,⟨.inl E,E,Y⟩,E,E⟩
 ·have h0:l=[]:=List.eq_nil_of_length_eq_zero (hb rfl)
  subst h0
  refine oT ?_
  refine Cc 2 1000 6 Ao E E ?_
  exact done E (.cons .tmp .nil) [(0,1000)] [(0,.row 6 Ao [])] (fun _ h=>h) E E ⟨Y,⟨.inl E,E,Y⟩,E,E⟩
theorem Adh (l:List Flood) (hl:l.length<2147483648):Sy.Spec Tryz.prog 167 [.sl 4 Bs l] [] (.osl 0) [(0,.row 4 Bs l)]:=cT F167 Tryz.ntmps167 fun F hF=>by
 conv=>whnf
 refine Dw E (.inl E) E E E .sl E E ?_
 intro b hb
 cases b
 ·refine oF ?_
  refine Ad (Ah Γ.toTy 7 E E E E E (.lit (e:=Bs) (l:=[]) E E) .sl qy (by simp;omega) (by simp;omega)) E E ?_
  refine oO ?_
  exact done E (.cons .tmp .nil) [(0,7)] [(0,.row 4 Bs l)] (fun _ h=>h) E E ⟨Y,⟨.inl E,E,Y⟩,E,E⟩
 ·have h0:l=[]:=List.eq_nil_of_length_eq_zero (hb rfl)
  subst h0
  refine oT ?_
  refine Cc 2 1000 4 Bs E E ?_
  exact done E (.cons .tmp .nil) [(0,1000)] [(0,.row 4 Bs [])] (fun _ h=>h) E E ⟨Y,⟨.inl E,E,Y⟩,E,E⟩
theorem Ajb (l:List Vrf) (hl:l.length<2147483648):Sy.Spec Tryz.prog 168 [.sl 5 Cn l] [] (.osl 0) [(0,.row 5 Cn l)]:=cT F168 Tryz.ntmps168 fun F hF=>by
 conv=>whnf
 refine Dw E (.inl E) E E E .sl E E ?_
 intro b hb
 cases b
 ·refine oF ?_
  refine Ad (Ah Γ.toTy 7 E E E E E (.lit (e:=Cn) (l:=[]) E E) .sl qy (by simp;omega) (by simp;omega)) E E ?_
  refine oO ?_
  exact done E (.cons .tmp .nil) [(0,7)] [(0,.row 5 Cn l)] (fun _ h=>h) E E ⟨Y,⟨.inl E,E,Y⟩,E,E⟩
 ·have h0:l=[]:=List.eq_nil_of_length_eq_zero (hb rfl)
  subst h0
  refine oT ?_
  refine Cc 2 1000 5 Cn E E ?_
  exact done E (.cons .tmp .nil) [(0,1000)] [(0,.row 5 Cn [])] (fun _ h=>h) E E ⟨Y,⟨.inl E,E,Y⟩,E,E⟩
theorem copyS (n:Net) (hn:n.Fin) :
  Sy.Spec Tryz.prog 113 [Al n] [] (Al n) []:=cT F113 Tryz.ntmps113 fun F hF=>by
 have h1:n.devices.length<2147483648∧n.ports.length<2147483648∧n.links.length<2147483648∧n.domains.length<2147483648∧n.statics.length<2147483648∧n.floods.length<2147483648∧n.vrfs.length<2147483648∧n.irbs.length<2147483648:=⟨hn.devices,hn.ports,hn.links,hn.domains,hn.statics,hn.floods,hn.vrfs,hn.irbs⟩
 have h2:(∀ p∈n.ports,p.tagged.length<2147483648)∧(∀ p∈n.domains,p.peers.length<2147483648)∧(∀ p∈n.floods,p.addrs.length<2147483648)∧(∀ p∈n.vrfs,p.imports.length<2147483648∧p.exports.length<2147483648):=⟨hn.tagged,hn.peers,hn.addrs,fun v hv=>⟨hn.imports v hv,hn.exports v hv⟩⟩
 conv=>whnf
 refine cD (Aaq n.devices h1.1) F162 ?_
 refine oD ?_
 refine Bk (Af [(0,14)] E F163 (Afu n.ports h1.2.1) E Y E ⟨.inr E,Y⟩) qq E ?_
 refine oD ?_
 refine cD (Afv n.links h1.2.2.1) F164 ?_
 refine oD ?_
 refine Bk (Af [(0,20)] E F165 (Aap n.domains h1.2.2.2.1) E Y E ⟨.inr E,Y⟩) qq E ?_
 refine oD ?_
 refine cD (Aan n.statics h1.2.2.2.2.1) F166 ?_
 refine oD ?_
 refine Bk (Af [(0,26)] E F167 (Adh n.floods h1.2.2.2.2.2.1) E Y E ⟨.inr E,Y⟩) qq E ?_
 refine oD ?_
 refine Bk (Af [(0,29)] E F168 (Ajb n.vrfs h1.2.2.2.2.2.2.1) E Y E ⟨.inr E,Y⟩) qq E ?_
 refine oD ?_
 refine cD (Ajd n.irbs h1.2.2.2.2.2.2.2) F169 ?_
 refine oD ?_
 refine kW ?_
 refine Az n.ports.length (fun j=>[(2,.ptr 2 0),(3,.ptr 3 0),(36,Aa n.ports.length),(37,Aa j)]) (fun _=>[(2,.box [.val (.slice none 0 0),.val (.slice none 0 0),.val (.slice none 0 0),.val (.slice none 0 0),.val (.slice none 0 0),.val (.slice none 0 0),.val (.slice none 0 0),.val (.slice none 0 0)]),(3,.box [.sl 5 Bf n.devices,.osl 14,.sl 3 Cb n.links,.osl 20,.sl 4 Bd n.statics,.osl 26,.osl 29,.sl 5 Ca n.irbs]),(14,.row 7 A2 n.ports),(20,.row 6 Ao n.domains),(26,.row 4 Bs n.floods),(29,.row 5 Cn n.vrfs)]) []
  ⟨⟨rfl,rfl,rfl,rfl,rfl,rfl,rfl,rfl,trivial⟩,⟨.inl rfl,rfl,.inl rfl,rfl,.inl rfl,rfl,.inl rfl,rfl,.inl rfl,rfl,.inl rfl,rfl,trivial⟩,rfl,rfl⟩ ?_
 intro j hj
 refine oO ?_
 refine⟨fun h=>?_,fun h=>?_⟩
 ·have hlt:j<n.ports.length:=by simpa using h
  obtain ⟨p,hp⟩:∃ p,n.ports[(j:Int).toNat]'qn=p:=⟨_,rfl⟩
  have hne:n.ports≠[]:=fun e=>by rw[e]at hlt;cases hlt
  have hset:n.ports.set (j:Int).toNat p=n.ports:=by rw[← hp];exact List.set_getElem_self _
  have hpl:=h2.1 p (by rw[← hp];exact List.getElem_mem _)
  refine oO ?_
  refine⟨by omega,by show _<n.ports.length;omega,?_⟩
  conv=>whnf
  refine⟨hne,?_⟩
  conv=>whnf
  refine⟨E,by omega,?_⟩
  rw[hp]
  conv=>whnf
  refine cD (J7 p.tagged hpl) F170 ?_
  refine oD ?_
  refine⟨by omega,by show _<n.ports.length;omega,?_⟩
  conv=>whnf
  refine⟨hne,?_⟩
  conv=>whnf
  refine⟨E,by omega,p,(by rw[hp];rfl),(by rw[hp];rfl),?_⟩
  conv=>whnf
  refine kW ?_
  refine iW ?_
  exact Ar [] hlt ⟨⟨E,E,E,E,E,E,E,E,Y⟩,⟨.inl E,E,.inl E,E,.inl (congrArg (Ob.row 7 A2) hset.symm),E,.inl E,E,.inl E,E,.inl E,E,Y⟩,E,E⟩
 ·refine oO ?_
  refine Az n.domains.length (fun j=>[(2,.ptr 2 0),(3,.ptr 3 0),(55,Aa n.domains.length),(56,Aa j)]) (fun _=>[(2,.box [.val (.slice none 0 0),.val (.slice none 0 0),.val (.slice none 0 0),.val (.slice none 0 0),.val (.slice none 0 0),.val (.slice none 0 0),.val (.slice none 0 0),.val (.slice none 0 0)]),(3,.box [.sl 5 Bf n.devices,.osl 14,.sl 3 Cb n.links,.osl 20,.sl 4 Bd n.statics,.osl 26,.osl 29,.sl 5 Ca n.irbs]),(14,.row 7 A2 n.ports),(20,.row 6 Ao n.domains),(26,.row 4 Bs n.floods),(29,.row 5 Cn n.vrfs)]) []
   ⟨⟨rfl,rfl,rfl,rfl,rfl,rfl,rfl,rfl,trivial⟩,⟨.inl rfl,rfl,.inl rfl,rfl,.inl rfl,rfl,.inl rfl,rfl,.inl rfl,rfl,.inl rfl,rfl,trivial⟩,rfl,rfl⟩ ?_
  intro j hj
  refine oO ?_
  refine⟨fun h=>?_,fun h=>?_⟩
  ·have hlt:j<n.domains.length:=by simpa using h
   obtain ⟨p,hp⟩:∃ p,n.domains[(j:Int).toNat]'qn=p:=⟨_,rfl⟩
   have hne:n.domains≠[]:=fun e=>by rw[e]at hlt;cases hlt
   have hset:n.domains.set (j:Int).toNat p=n.domains:=by rw[← hp];exact List.set_getElem_self _
   have hpl:=h2.2.1 p (by rw[← hp];exact List.getElem_mem _)
   refine oO ?_
   refine⟨by omega,by show _<n.domains.length;omega,?_⟩
   conv=>whnf
   refine⟨hne,?_⟩
   conv=>whnf
   refine⟨E,by omega,?_⟩
   rw[hp]
   conv=>whnf
   refine cD (J7 p.peers hpl) F170 ?_
   refine oD ?_
   refine⟨by omega,by show _<n.domains.length;omega,?_⟩
   conv=>whnf
   refine⟨hne,?_⟩
   conv=>whnf
   refine⟨E,by omega,p,(by rw[hp];rfl),(by rw[hp];rfl),?_⟩
   conv=>whnf
   refine kW ?_
   refine iW ?_
   exact Ar [] hlt ⟨⟨E,E,E,E,E,E,E,E,Y⟩,⟨.inl E,E,.inl E,E,.inl E,E,.inl (congrArg (Ob.row 6 Ao) hset.symm),E,.inl E,E,.inl E,E,Y⟩,E,E⟩
  ·refine oO ?_
   refine Az n.floods.length (fun j=>[(2,.ptr 2 0),(3,.ptr 3 0),(74,Aa n.floods.length),(75,Aa j)]) (fun _=>[(2,.box [.val (.slice none 0 0),.val (.slice none 0 0),.val (.slice none 0 0),.val (.slice none 0 0),.val (.slice none 0 0),.val (.slice none 0 0),.val (.slice none 0 0),.val (.slice none 0 0)]),(3,.box [.sl 5 Bf n.devices,.osl 14,.sl 3 Cb n.links,.osl 20,.sl 4 Bd n.statics,.osl 26,.osl 29,.sl 5 Ca n.irbs]),(14,.row 7 A2 n.ports),(20,.row 6 Ao n.domains),(26,.row 4 Bs n.floods),(29,.row 5 Cn n.vrfs)]) []
    ⟨⟨rfl,rfl,rfl,rfl,rfl,rfl,rfl,rfl,trivial⟩,⟨.inl rfl,rfl,.inl rfl,rfl,.inl rfl,rfl,.inl rfl,rfl,.inl rfl,rfl,.inl rfl,rfl,trivial⟩,rfl,rfl⟩ ?_
   intro j hj
   refine oO ?_
   refine⟨fun h=>?_,fun h=>?_⟩
   ·have hlt:j<n.floods.length:=by simpa using h
    obtain ⟨p,hp⟩:∃ p,n.floods[(j:Int).toNat]'qn=p:=⟨_,rfl⟩
    have hne:n.floods≠[]:=fun e=>by rw[e]at hlt;cases hlt
    have hset:n.floods.set (j:Int).toNat p=n.floods:=by rw[← hp];exact List.set_getElem_self _
    have hpl:=h2.2.2.1 p (by rw[← hp];exact List.getElem_mem _)
    refine oO ?_
    refine⟨by omega,by show _<n.floods.length;omega,?_⟩
    conv=>whnf
    refine⟨hne,?_⟩
    conv=>whnf
    refine⟨E,by omega,?_⟩
    rw[hp]
    conv=>whnf
    refine cD (Ajc p.addrs hpl) F171 ?_
    refine oD ?_
    refine⟨by omega,by show _<n.floods.length;omega,?_⟩
    conv=>whnf
    refine⟨hne,?_⟩
    conv=>whnf
    refine⟨E,by omega,p,(by rw[hp];rfl),(by rw[hp];rfl),?_⟩
    conv=>whnf
    refine kW ?_
    refine iW ?_
    exact Ar [] hlt ⟨⟨E,E,E,E,E,E,E,E,Y⟩,⟨.inl E,E,.inl E,E,.inl E,E,.inl E,E,.inl (congrArg (Ob.row 4 Bs) hset.symm),E,.inl E,E,Y⟩,E,E⟩
   ·refine oO ?_
    refine Az n.vrfs.length (fun j=>[(2,.ptr 2 0),(3,.ptr 3 0),(93,Aa n.vrfs.length),(94,Aa j)]) (fun _=>[(2,.box [.val (.slice none 0 0),.val (.slice none 0 0),.val (.slice none 0 0),.val (.slice none 0 0),.val (.slice none 0 0),.val (.slice none 0 0),.val (.slice none 0 0),.val (.slice none 0 0)]),(3,.box [.sl 5 Bf n.devices,.osl 14,.sl 3 Cb n.links,.osl 20,.sl 4 Bd n.statics,.osl 26,.osl 29,.sl 5 Ca n.irbs]),(14,.row 7 A2 n.ports),(20,.row 6 Ao n.domains),(26,.row 4 Bs n.floods),(29,.row 5 Cn n.vrfs)]) []
     ⟨⟨rfl,rfl,rfl,rfl,rfl,rfl,rfl,rfl,trivial⟩,⟨.inl rfl,rfl,.inl rfl,rfl,.inl rfl,rfl,.inl rfl,rfl,.inl rfl,rfl,.inl rfl,rfl,trivial⟩,rfl,rfl⟩ ?_
    intro j hj
    refine oO ?_
    refine⟨fun h=>?_,fun h=>?_⟩
    ·have hlt:j<n.vrfs.length:=by simpa using h
     obtain ⟨p,hp⟩:∃ p,n.vrfs[(j:Int).toNat]'qn=p:=⟨_,rfl⟩
     have hne:n.vrfs≠[]:=fun e=>by rw[e]at hlt;cases hlt
     have hset:n.vrfs.set (j:Int).toNat p=n.vrfs:=by rw[← hp];exact List.set_getElem_self _
     have hpl:=h2.2.2.2 p (by rw[← hp];exact List.getElem_mem _)
     refine oO ?_
     have hne2:n.vrfs.set (j:Int).toNat p≠[]:=by rw[hset];exact hne
     have hp2:(n.vrfs.set (j:Int).toNat p)[(j:Int).toNat]'(by rw[hset];omega)=p:=by simp
     have hset2:(n.vrfs.set (j:Int).toNat p).set (j:Int).toNat p=n.vrfs:=by rw[hset,hset]
     refine⟨by omega,by show _<n.vrfs.length;omega,?_⟩
     conv=>whnf
     refine Bk (C8 E (.inr (.inr (.inr ⟨29,5,_,0,E,fun κ w h=>Mh hne h,E⟩)))) qq E ?_
     refine oD ?_
     refine⟨hne,?_⟩
     conv=>whnf
     refine⟨E,by omega,?_⟩
     rw[hp]
     conv=>whnf
     refine cD (J7 p.imports hpl.1) F170 ?_
     refine oD ?_
     refine Bk (C8 E (.inr (.inr (.inr ⟨29,5,_,0,E,fun κ w h=>Mh hne h,E⟩)))) qq E ?_
     refine oD ?_
     refine⟨hne,?_⟩
     conv=>whnf
     refine⟨E,by omega,?_⟩
     rw[hp]
     conv=>whnf
     refine cD (J7 p.exports hpl.2) F170 ?_
     refine oD ?_
     refine Bk (C8 E (.inr (.inr (.inr ⟨29,5,_,0,E,fun κ w h=>Mh hne h,E⟩)))) qq E ?_
     refine oD ?_
     refine⟨hne,?_⟩
     conv=>whnf
     refine⟨E,by omega,p,(by rw[hp];rfl),(by rw[hp];rfl),?_⟩
     conv=>whnf
     refine Bk (C8 E (.inr (.inr (.inr ⟨29,5,_,0,E,fun κ w h=>Mh hne2 h,E⟩)))) qq E ?_
     refine oD ?_
     refine⟨hne2,?_⟩
     conv=>whnf
     refine⟨E,by rw[hset];omega,p,(by rw[hp2];rfl),(by rw[hp2];rfl),?_⟩
     conv=>whnf
     refine kW ?_
     refine iW ?_
     exact Ar [] hlt ⟨⟨E,E,E,E,E,E,E,E,Y⟩,⟨.inl E,E,.inl E,E,.inl E,E,.inl E,E,.inl E,E,.inl (congrArg (Ob.row 5 Cn) hset2.symm),E,Y⟩,E,E⟩
    ·refine oO ?_
     refine Aq 14 E ?_
     refine Aq 20 E ?_
     refine Aq 26 E ?_
     refine Aq 29 E ?_
     exact dN
theorem Ky (l:List UInt8) (hl:l.length<2147483648):Sy.Spec Tryz.prog 290 [.sl 1 Ae l] [] (.sl 1 Ae l) []:=cT F290 Tryz.ntmps290 fun F hF=>by
 conv=>whnf
 refine Dw E (.inl E) E E E .sl E E ?_
 intro b hb
 cases b
 ·refine oF ?_
  refine Ad (Ah Γ.toTy 7 E E E E E (.lit (e:=Ae) (l:=[]) E E) .sl qy (by simp;omega) (by simp;omega)) E E ?_
  refine Aq 7 E ?_
  refine oO ?_
  exact dN
 ·have h0:l=[]:=List.eq_nil_of_length_eq_zero (hb rfl)
  subst h0
  refine oT ?_
  refine Ak 2 1 Ae E ?_
  exact dN
theorem cut6 (b:List UInt8) (k j:Nat) (hj:j<6) (h:k+6≤b.length):Hw (((b.drop k).take 6).take (j+1))=Hw (((b.drop k).take 6).take j) * 256+(b[k+j]'qn).toNat:=by
 rw[Ahb _ (by rw[List.length_take,List.length_drop];omega)]
 congr 2
 rw[List.getElem_take,List.getElem_drop]
theorem Aca (b:List UInt8) (k:Nat) (h:k+6≤b.length) (hb:b.length<100000):Sy.Spec Tryz.prog 181 [.sl 1 Ae b,Aa k] [] (.tup [A5 (Hw ((b.drop k).take 6)),Ab true]) []:=cT F181 Tryz.ntmps181 fun F hF=>by
 ((conv=>whnf);refine aF ?_;refine rg ?_;conv=>whnf)
 refine iW ?_
 (refine⟨fun h=>False.elim (by simp at h;omega),fun _=>?_⟩;refine rg ?_;conv=>whnf)
 refine Az 6 (fun j=>[(0,.sl 1 Ae b),(1,Aa k),(6,A5 (Hw (((b.drop k).take 6).take j))),(17,Aa j)]) (fun _=>[]) [] ⟨⟨E,E,E,E,E,E,E,E,Y⟩,Y,E,E⟩ ?_
 intro j hj
 have hlt2:=Kd _ (((b.drop k).take 6).take j) rfl
 refine oO ?_
 refine⟨fun h2=>?_,fun h2=>?_⟩
 ·have hj6:j<6:=by have:=of_decide_eq_true h2;omega
  have hs:=cut6 b k j hj6 h
  have hll:(((b.drop k).take 6).take j).length=j:=by rw[List.length_take,List.length_take,List.length_drop];omega
  rw[hll]at hlt2
  have h5:Hw (((b.drop k).take 6).take j)<1099511627776:=Nat.lt_of_lt_of_le hlt2 (by
   have:(256:Nat) ^ j≤256 ^ 5:=Nat.pow_le_pow_right qx qn
   exact this)
  have hi0:((k:Int)+(j:Int)).toNat<b.length:=by omega
  obtain ⟨c,hc⟩:∃ c,b[((k:Int)+(j:Int)).toNat]'hi0=c:=⟨_,rfl⟩
  have hc':b[k+j]'qn=c:=by rw[← hc];congr 1
  rw[hc']at hs
  have hcat:=Am0 _ c h5
  refine oO ?_
  refine⟨by decide,?_⟩
  conv=>whnf
  refine iW ?_
  refine⟨E,by omega,hi0,?_⟩
  rw[hc]
  conv=>whnf
  refine iW ?_
  exact Ar [] hj6 ⟨⟨E,E,E,E,congrArg (fun z:Int=>SV.val (.int .u64 z)) (hcat.trans (congrArg Int.ofNat hs.symm)).symm,E,E,E,Y⟩,Y,E,E⟩
 ·have hj6:j=6:=by have:=of_decide_eq_false h2;omega
  subst hj6
  rw[List.take_take,Nat.min_self]
  refine oO ?_
  exact dN
theorem Af9 (a b:UInt8):Hw [a,b]=a.toNat * 256+b.toNat:=by simp[Hw]
theorem Qg {b:List UInt8} {k:Nat} (h:k+2≤b.length):(b.drop k).take 2=[b[k]'qn,b[k+1]'qn]:=by
 rw[List.drop_eq_getElem_cons (by omega:k<b.length),List.drop_eq_getElem_cons (by omega:k+1<b.length)];rfl
theorem Kw (b:List UInt8) (hb:b.length<100000):Sy.Spec Tryz.prog 121 [.sl 1 Ae b] [] (.tup [B4 (takeF b).1,Aa (takeF b).2]) []:=cT F121 Tryz.ntmps121 fun F hF=>by
 have hres:=takeF.eq_1 b
 generalize takeF b=res at *
 conv=>whnf
 refine⟨fun h=>?_,fun h=>?_⟩
 ·rw[if_pos (qA h)]at hres
  subst hres
  refine oO ?_
  refine A8 2 [A5 0,A5 0,Aa 0,.sl 1 Ae []] E (.cons (.refl _) (.cons (.refl _) (.cons (.refl _) (.cons .nil .nil)))) ?_
  exact dN
 rw[if_neg (qB h)]at hres
 have h14:14≤b.length:=qB h
 refine oO ?_
 refine⟨fun h=>?_,fun h=>?_⟩
 ·rw[if_pos (qA h)]at hres
  subst hres
  refine oO ?_
  refine A8 2 [A5 0,A5 0,Aa 0,.sl 1 Ae []] E (.cons (.refl _) (.cons (.refl _) (.cons (.refl _) (.cons .nil .nil)))) ?_
  exact dN
 rw[if_neg (qB h)]at hres
 have q1:=Aca b 0 qn hb
 have q2:=Aca b 6 qn hb
 rw[Qg qn,Af9]at hres
 have hp:=D6 (b[12]'qn) (b[13]'qn)
 have hdl:(b.drop 14).length=b.length-14:=List.length_drop
 have hn:((b.length:Int)-14)=((b.length-14:Nat):Int):=by omega
 have hcp:(b.drop 14).take (List.replicate (b.length-14) (0:UInt8)).length++(List.replicate (b.length-14) (0:UInt8)).drop (b.drop 14).length=b.drop 14:=by
  have e1:(List.replicate (b.length-14) (0:UInt8)).drop (b.length-14)=[]:=List.drop_eq_nil_of_le qy
  rw[List.length_replicate,hdl,e1,List.append_nil]
  exact List.take_of_length_le qn
 have etk:(b.take b.length).drop 14=b.drop 14:=by rw[List.take_length]
 have i12:(12:Int).toNat<b.length:=by show 12<_;omega
 have i13:(13:Int).toNat<b.length:=by show 13<_;omega
 refine oO ?_
 refine c0 q1 F181 ?_
 refine oO ?_
 refine c0 q2 F181 ?_
 refine oO ?_
 refine iW ?_
 refine Ad (Bh Γ.toTy (d:=32) (n:=b.length-14) Ae 0 E E E E E E (congrArg (fun z=>SV.val (.int .i64 z)) hn) (congrArg (fun z=>SV.val (.int .i64 z)) hn) qn qn E E E) E E ?_
 refine oO ?_
 refine Ad (Cf (lo:=14) (hi:=b.length) Γ.toTy E E E E (.inr ⟨_,_,E,E⟩) (.inl ⟨E,E⟩) qn (Nat.le_refl _)) E E ?_
 rw[etk]
 refine oO ?_
 refine Ad (Tp Γ.toTy E E E E E .sl) E E ?_
 rw[hcp]
 refine Aq 32 E ?_
 refine oO ?_
 refine⟨E,by decide,i12,?_⟩
 conv=>whnf
 refine⟨by decide,?_⟩
 conv=>whnf
 refine⟨E,by decide,i13,?_⟩
 conv=>whnf
 refine kW ?_
 refine Am E (.cons (.cell E E E E) (.cons .tmp .nil)) ?_ E
 rw[hres]
 show SV.tup [.agg [_,_,Aa ((b[12].toNat * 256+b[13].toNat:Nat):Int),_],_]=_
 rw[← hp]
 rfl
theorem Jx (m:Nat) (h:m<18446744073709551616):Sy.Spec Tryz.prog 226 [A5 m] [] (Ab (E9 m)) []:=cT F226 Tryz.ntmps226 fun F hF=>by
 have e:=Aiv m h
 conv=>whnf
 refine Am E (.cons .tmp .nil) ?_ E
 exact congrArg Ab e.symm
theorem Mg (f:FrameM):Sy.Spec Tryz.prog 182 [B4 f] [] (Ab (decide (f.typ=33024))) []:=cT F182 Tryz.ntmps182 fun F hF=>by
 conv=>whnf
 refine Am E (.cons .tmp .nil) ?_ E
 refine congrArg Ab ?_
 rw[Bool.eq_iff_iff];simp;omega
theorem Kx (p:Port) (tg:Bool) (vid:Int) (hl:Aj p.tagged):Sy.Spec Tryz.prog 227 [A2 p,Ab tg,Aa vid] [] (.tup [Aa (vlanT p tg vid).1,Ab (vlanT p tg vid).2]) []:=cT F227 Tryz.ntmps227 fun F hF=>by
 have hres:=vlanT.eq_1 p tg vid
 generalize vlanT p tg vid=res at *
 have q:=Cq p.tagged vid hl
 have hz:decide (p.native≠0)=(p.native != 0):=by rw[Bool.eq_iff_iff];simp
 rw[hz]at hres
 cases tg
 ·rw[if_pos (.inl rfl)]at hres
  subst hres
  ((conv=>whnf);refine aT ?_;refine rg ?_;conv=>whnf)
  refine kW ?_
  exact dN
 ((conv=>whnf);refine aF ?_;refine rg ?_;conv=>whnf)
 refine⟨fun h=>?_,fun h=>?_⟩
 ·rw[if_pos (.inr (by simpa using h))]at hres
  subst hres
  refine oO ?_
  refine kW ?_
  exact dN
 rw[if_neg (by simpa using h)]at hres
 refine oO ?_
 refine c0 q F25 ?_
 cases hi:inB p.tagged vid
 ·rw[if_neg (by simp[hi])]at hres
  subst hres
  refine oF ?_
  exact dN
 ·rw[if_pos hi]at hres
  subst hres
  refine oT ?_
  exact dN
theorem Amj (n:Nat) (h:n<9223372036854775808):bits .and .i64 (n:Int) 4095=((n % 4096:Nat):Int):=by
 have:=Hb n 4095 h qx
 rw[show ((4095:Nat):Int)=4095 from rfl]at this
 rw[this]
 have h2:=Nat.and_two_pow_sub_one_eq_mod n 12
 rw[show 2 ^ 12-1=4095 from rfl,show 2 ^ 12=4096 from rfl]at h2
 rw[h2]
theorem Amg {b:List UInt8} (h:4≤b.length):b.take 2=[b[0]'qn,b[1]'qn]∧(b.drop 2).take 2=[b[2]'qn,b[3]'qn]:=by
 have h1:=Qg (b:=b) (k:=0) qn
 have h2:=Qg (b:=b) (k:=2) qn
 exact⟨h1,h2⟩
abbrev zF:List SV:=[A5 0,A5 0,Aa 0,.sl 1 Ae []]
theorem Ahf (f:FrameM) (hb:f.body.length<100000):Sy.Spec Tryz.prog 225 [B4 f] [] (.tup [B4 (stripT f).1,Aa (stripT f).2.1,Aa (stripT f).2.2.1,Aa (stripT f).2.2.2]) []:=cT F225 Tryz.ntmps225 fun F hF=>by
 have hres:=stripT.eq_1 f
 generalize stripT f=res at *
 have q0:=Mg f
 obtain ⟨d,s,t,b⟩:=f
 dsimp only at hres hb q0
 conv=>whnf
 refine c0 q0 F182 ?_
 by_cases ht:t=33024
 rotate_left
 ·rw[if_pos ht]at hres
  subst hres
  rw[decide_eq_false ht]
  refine oT ?_
  refine A8 2 zF E (.cons (.refl _) (.cons (.refl _) (.cons (.refl _) (.cons .nil .nil)))) ?_
  exact dN
 rw[if_neg (by simpa using ht)]at hres
 rw[decide_eq_true ht]
 refine oF ?_
 refine⟨fun h=>?_,fun h=>?_⟩
 ·rw[if_pos (by have:=of_decide_eq_true h;dsimp only at this;omega)]at hres
  subst hres
  refine oO ?_
  refine A8 2 zF E (.cons (.refl _) (.cons (.refl _) (.cons (.refl _) (.cons .nil .nil)))) ?_
  exact dN
 have h4:4≤b.length:=by have:=of_decide_eq_false h;dsimp only at this;omega
 rw[if_neg qn,(Amg h4).1,(Amg h4).2,Af9,Af9]at hres
 have c1:=Ky (b.drop 4) (by rw[List.length_drop];omega)
 have etk:(b.take b.length).drop 4=b.drop 4:=by rw[List.take_length]
 rw[← etk]at c1
 have i0:(0:Int).toNat<b.length:=by show 0<_;omega
 have i1:(1:Int).toNat<b.length:=by show 1<_;omega
 have i2:(2:Int).toNat<b.length:=by show 2<_;omega
 have i3:(3:Int).toNat<b.length:=by show 3<_;omega
 have e0:b[(0:Int).toNat]'i0=b[0]'qn:=rfl
 have e1:b[(1:Int).toNat]'i1=b[1]'qn:=rfl
 have e2:b[(2:Int).toNat]'i2=b[2]'qn:=rfl
 have e3:b[(3:Int).toNat]'i3=b[3]'qn:=rfl
 have hp1:=D6 (b[0]'qn) (b[1]'qn)
 have hp2:=D6 (b[2]'qn) (b[3]'qn)
 have l0:=(b[0]'qn).toNat_lt
 have l1:=(b[1]'qn).toNat_lt
 obtain ⟨P,hP⟩:∃ P,(b[0]'qn).toNat * 256+(b[1]'qn).toNat=P:=⟨_,rfl⟩
 obtain ⟨Q,hQ⟩:∃ Q,(b[2]'qn).toNat * 256+(b[3]'qn).toNat=Q:=⟨_,rfl⟩
 have hPl:P<65536:=by omega
 rw[hP]at hp1 hres
 rw[hQ]at hp2 hres
 have ha:=Amj P qn
 have hs:(P:Int).fdiv (2 ^ (min (Int.toNat 12) IntKind.i64.bits))=((P / 4096:Nat):Int):=Agc P 12 qx
 refine oO ?_
 refine⟨E,by decide,i0,?_⟩
 rw[e0]
 conv=>whnf
 refine⟨by decide,?_⟩
 conv=>whnf
 refine⟨E,by decide,i1,?_⟩
 rw[e1]
 conv=>whnf
 refine⟨qq,?_⟩
 rw[hp1]
 conv=>whnf
 refine⟨E,by decide,i2,?_⟩
 rw[e2]
 conv=>whnf
 refine⟨by decide,?_⟩
 conv=>whnf
 refine⟨E,by decide,i3,?_⟩
 rw[e3]
 conv=>whnf
 refine⟨qq,?_⟩
 rw[hp2]
 conv=>whnf
 refine⟨by decide,?_⟩
 rw[ha,hs]
 conv=>whnf
 refine⟨fun h=>?_,fun h=>?_⟩
 ·rw[if_pos (.inl (qA h))]at hres
  subst hres
  refine oO ?_
  refine A8 2 zF E (.cons (.refl _) (.cons (.refl _) (.cons (.refl _) (.cons .nil .nil)))) ?_
  exact dN
 have h5:¬ 4094<P % 4096:=qB h
 refine oO ?_
 refine⟨fun h=>?_,fun h=>?_⟩
 ·rw[if_pos (.inr (by have:(Q:Int)=33024:=(by simpa using h);omega))]at hres
  subst hres
  refine oO ?_
  refine A8 2 zF E (.cons (.refl _) (.cons (.refl _) (.cons (.refl _) (.cons .nil .nil)))) ?_
  exact dN
 have h6:¬ Q=33024:=fun e=>by rw[e]at h;simp at h
 rw[if_neg qn]at hres
 subst hres
 refine oO ?_
 refine Bk (Cf (lo:=4) (hi:=b.length) Γ.toTy E E E E (.inr ⟨_,_,E,E⟩) (.inl ⟨E,E⟩) h4 (Nat.le_refl _)) qq E ?_
 refine oD ?_
 refine cD c1 F290 ?_
 refine oD ?_
 refine kW ?_
 refine Am E (.cons (.cell E E E E) (.cons .tmp (.cons .tmp (.cons .tmp .nil)))) ?_ E
 show SV.tup [.agg [_,_,_,.sl 1 Ae (b.drop 4)],_,_,_]=SV.tup [.agg [_,_,_,.sl 1 Ae ((b.take b.length).drop 4)],_,_,_]
 rw[etk]
 rfl
theorem H7 (f:FrameM) (h:FrameOK f):Sy.Spec Tryz.prog 45 [B4 f] [] (.tup [.osl 0,Aa 0]) [(0,.row 1 Ae (Mz f))]:=Ac5 f.dst f.src f.typ f.body h.dst h.src h.typ h.body
theorem Ah6 (f:FrameM) (h:FrameOK f):Sy.Spec Tryz.prog 49 [B4 f] [] (.tup [.osl 0,Aa 0]) [(0,.row 1 Ae (Mz f))]:=Ah4 f.dst f.src f.typ f.body h.dst h.src h.typ h.body
theorem Aba (f:FrameM) (v:Nat) (h:FrameOK f) (hv:v≤4094):Sy.Spec Tryz.prog 122 [B4 f,Aa v,Aa 0] [] (.tup [B4 (tagT f v).1,Aa (tagT f v).2]) []:=by
 have hres:=tagT.eq_1 f v
 have q0:=Mg f
 obtain ⟨d,s,t,b⟩:=f
 have h1:=h.typ
 have h2:=h.body
 dsimp only at hres q0 h1 h2
 by_cases ht:t=33024
 ·rw[if_pos ht]at hres
  rw[hres]
  rw[decide_eq_true ht]at q0
  refine Su Γ hm 100 F122 Tryz.ntmps122 E fun F hF=>by
   conv=>whnf
   refine c0 q0 F182 ?_
   (refine oT ?_;refine bT ?_;refine bT ?_;refine bT ?_;refine bT ?_)
   refine A8 6 zF E (.cons (.refl _) (.cons (.refl _) (.cons (.refl _) (.cons .nil .nil)))) ?_
   exact dN
 rw[if_neg ht]at hres
 by_cases hb:1500<b.length
 ·rw[if_pos hb]at hres
  rw[hres]
  rw[decide_eq_false ht]at q0
  refine Su Γ hm 100 F122 Tryz.ntmps122 E fun F hF=>by
   conv=>whnf
   refine c0 q0 F182 ?_
   (refine oF ?_;refine bF ?_)
   (refine⟨fun h=>False.elim (by simp at h;omega),fun _=>?_⟩;refine rg ?_;(conv=>whnf);refine aF ?_;refine rg ?_;(conv=>whnf);refine aF ?_;refine rg ?_;(conv=>whnf);refine aF ?_;refine rg ?_;(conv=>whnf);refine⟨fun h=>False.elim (by simp at h;omega),fun _=>?_⟩;refine rg ?_;(conv=>whnf);refine⟨fun _=>?_,fun h=>False.elim (by simp at h;omega)⟩;refine rg ?_;conv=>whnf)
   refine A8 6 zF E (.cons (.refl _) (.cons (.refl _) (.cons (.refl _) (.cons .nil .nil)))) ?_
   exact dN
 rw[if_neg hb]at hres
 rw[hres]
 exact Am3 d s t v b ht h1 hv qn
theorem Ahe {b:List UInt8} (h:(takeF b).2≠0):(takeF b).1=noF:=by
 unfold takeF at h ⊢
 split
 ·rfl
 rw[if_neg (by assumption)]at h
 split
 ·rfl
 rw[if_neg (by assumption)]at h
 exact absurd E h
theorem Vm {b:List UInt8} (h:(takeF b).2=0):FrameOK (takeF b).1:=by
 unfold takeF at h ⊢
 split
 ·rw[if_pos (by assumption)]at h;cases h
 rw[if_neg (by assumption)]at h
 split
 ·rw[if_pos (by assumption)]at h;cases h
 rename_i h1 h2
 have l1:((b.take 6).length)=6:=by rw[List.length_take];omega
 have l2:(((b.drop 6).take 6).length)=6:=by rw[List.length_take,List.length_drop];omega
 have l3:(((b.drop 12).take 2).length)=2:=by rw[List.length_take,List.length_drop];omega
 have a1:=Kd _ _ l1
 have a2:=Kd _ _ l2
 have a3:=Kd _ _ l3
 refine⟨a1,a2,?_,?_⟩
 ·dsimp only;exact Nat.le_of_lt_succ a3
 ·dsimp only;rw[List.length_drop];omega
theorem Aj9 {f:FrameM} (hf:FrameOK f) (h:(stripT f).2.2.2=0):FrameOK (stripT f).1:=by
 unfold stripT at h ⊢
 split
 ·rw[if_pos (by assumption)]at h;cases h
 rw[if_neg (by assumption)]at h
 split
 ·rw[if_pos (by assumption)]at h;cases h
 rw[if_neg (by assumption)]at h
 split
 ·rw[if_pos (by assumption)]at h;cases h
 rename_i h1 h2 h3
 have l3:(((f.body.drop 2).take 2).length)=2:=by rw[List.length_take,List.length_drop];omega
 have a3:=Kd _ _ l3
 have hb:=hf.body
 refine⟨hf.dst,hf.src,?_,?_⟩
 ·dsimp only;exact Nat.le_of_lt_succ a3
 ·dsimp only;rw[List.length_drop];omega
theorem strip_bad {f:FrameM} (h:(stripT f).2.2.2≠0):(stripT f).1=noF∧(stripT f).2.1=0:=by
 unfold stripT at h ⊢
 split
 ·exact⟨E,E⟩
 rw[if_neg (by assumption)]at h
 split
 ·exact⟨E,E⟩
 rw[if_neg (by assumption)]at h
 split
 ·exact⟨E,E⟩
 rw[if_neg (by assumption)]at h
 exact absurd E h
theorem Ac6 (n:Net) (hn:n.Fin) (port:Int) (b:List UInt8) (hb:b.length<100000) :
  Sy.Spec Tryz.prog 172 [Al n,Aa port,.sl 1 Ae b] [] (.tup [Aa (enterT n port b).1,B4 (enterT n port b).2.1,Aa (enterT n port b).2.2]) []:=cT F172 Tryz.ntmps172 fun F hF=>by
 have hres:=enterT.eq_1 n port b
 generalize enterT n port b=res at *
 have hr:=A9 n hn
 conv=>whnf
 by_cases hneg:port<0
 ·rw[if_pos (.inl (by rw[Ag,decide_eq_false qn];rfl))]at hres
  subst hres
  (refine⟨fun _=>?_,fun h=>False.elim (by simp at h;omega)⟩;refine rg ?_;(conv=>whnf);refine aT ?_;refine rg ?_;(conv=>whnf);refine aT ?_;refine rg ?_;conv=>whnf)
  refine A8 7 zF E (.cons (.refl _) (.cons (.refl _) (.cons (.refl _) (.cons .nil .nil)))) ?_
  exact dN
 refine⟨fun h=>absurd (of_decide_eq_true h) hneg,fun _=>?_⟩
 refine Ba 3 8 (Al n) E E E ?_
 by_cases hge:(n.ports.length:Int)≤port
 ·rw[if_pos (.inl (by rw[Ag,decide_eq_false (by omega:¬ port<_),Bool.and_false]))]at hres
  subst hres
  refine oO ?_
  (refine⟨fun _=>?_,fun h=>False.elim (by simp at h;omega)⟩;refine rg ?_;(conv=>whnf);refine aT ?_;refine rg ?_;conv=>whnf)
  refine A8 7 zF E (.cons (.refl _) (.cons (.refl _) (.cons (.refl _) (.cons .nil .nil)))) ?_
  exact dN
 have hpl:Ag port n.ports.length=true:=by rw[Ag,decide_eq_true qn,decide_eq_true qn];rfl
 refine oO ?_
 (refine⟨fun h=>False.elim (by simp at h;omega),fun _=>?_⟩;refine rg ?_;conv=>whnf)
 refine c0 hr F23 ?_
 cases hbn:Ac n
 ·rw[if_pos (.inr hbn)]at hres
  subst hres
  refine oT ?_
  refine A8 7 zF E (.cons (.refl _) (.cons (.refl _) (.cons (.refl _) (.cons .nil .nil)))) ?_
  exact dN
 rw[if_neg (by simp[hbn,hpl])]at hres
 have hp0:0≤port:=by omega
 have hk:port.toNat<n.ports.length:=by omega
 have e1:nth n.ports port=n.ports[port.toNat]:=Ai hk
 have hsh:=hn.tagged _ (List.getElem_mem hk)
 obtain ⟨p,hp⟩:∃ p,n.ports[port.toNat]'hk=p:=⟨_,rfl⟩
 rw[hp]at e1 hsh
 have qt:=Kw b hb
 have hto:=@Vm b
 have htb:=@Ahe b
 generalize takeF b=tf at *
 obtain ⟨f,e⟩:=tf
 dsimp only at hres qt hto htb
 have qi:=Mg f
 refine oF ?_
 refine c0 qt F121 ?_
 refine oO ?_
 refine c0 qi F182 ?_
 by_cases he:e=0
 rotate_left
 ·rw[if_pos he]at hres
  subst hres
  obtain rfl:=htb he
  refine oO ?_
  (refine⟨fun h=>False.elim (by simp at h;omega),fun _=>?_⟩;refine rg ?_;(conv=>whnf);refine aF ?_;refine rg ?_;conv=>whnf)
  (refine⟨fun h=>False.elim (by simp at h;omega),fun _=>?_⟩;refine rg ?_;(conv=>whnf);refine aF ?_;refine rg ?_;conv=>whnf)
  refine⟨E,hp0,hk,?_⟩
  rw[hp]
  conv=>whnf
  refine c0 (Kx p false 0 hsh) F227 ?_
  refine oO ?_
  (refine⟨fun h=>False.elim (by simp at h;omega),fun _=>?_⟩;refine rg ?_;(conv=>whnf);refine aF ?_;refine rg ?_;(conv=>whnf);refine⟨fun _=>?_,fun h=>False.elim (by simp at h;omega)⟩;refine rg ?_;conv=>whnf)
  refine A8 7 zF E (.cons (.refl _) (.cons (.refl _) (.cons (.refl _) (.cons .nil .nil)))) ?_
  exact dN
 subst he
 rw[if_neg qx]at hres
 have hfo:=hto rfl
 by_cases ht:f.typ=33024
 ·rw[if_pos ht]at hres
  rw[decide_eq_true ht]
  have qs:=Ahf f (by have:=hfo.body;omega)
  have hso:=@Aj9 f hfo
  have hsb:=@strip_bad f
  generalize stripT f=st at *
  obtain ⟨g,vid,prio,e2⟩:=st
  dsimp only at hres qs hso hsb
  (refine oT ?_;refine bT ?_)
  refine c0 qs F225 ?_
  by_cases he2:e2=0
  rotate_left
  ·rw[if_pos he2]at hres
   subst hres
   obtain ⟨rfl,rfl⟩:=hsb he2
   refine oO ?_
   (refine⟨fun h=>False.elim (by simp at h;omega),fun _=>?_⟩;refine rg ?_;(conv=>whnf);refine aF ?_;refine rg ?_;conv=>whnf)
   refine⟨E,hp0,hk,?_⟩
   rw[hp]
   conv=>whnf
   refine c0 (Kx p true 0 hsh) F227 ?_
   refine oO ?_
   (refine⟨fun h=>False.elim (by simp at h;omega),fun _=>?_⟩;refine rg ?_;(conv=>whnf);refine aF ?_;refine rg ?_;(conv=>whnf);refine⟨fun _=>?_,fun h=>False.elim (by simp at h;omega)⟩;refine rg ?_;conv=>whnf)
   refine A8 7 zF E (.cons (.refl _) (.cons (.refl _) (.cons (.refl _) (.cons .nil .nil)))) ?_
   exact dN
  subst he2
  rw[if_neg qx]at hres
  have hgo:=hso rfl
  have hgs:=hgo.src
  have qg:=Jx g.src qn
  rw[Iq,e1]at hres
  have qv:=Kx p true vid hsh
  have qd:=H4 n hn p.dev (vlanT p true vid).1
  refine oT ?_
  refine c0 qg F226 ?_
  cases hgb:E9 g.src
  rotate_left
  ·rw[if_pos hgb]at hres
   subst hres
   refine oT ?_
   refine⟨E,hp0,hk,?_⟩
   rw[hp]
   conv=>whnf
   refine c0 qv F227 ?_
   (refine oF ?_;refine bF ?_;refine bT ?_)
   (skip)
   refine A8 7 zF E (.cons (.refl _) (.cons (.refl _) (.cons (.refl _) (.cons .nil .nil)))) ?_
   exact dN
  rw[if_neg (by simp[hgb])]at hres
  refine oF ?_
  refine⟨E,hp0,hk,?_⟩
  rw[hp]
  conv=>whnf
  refine c0 qv F227 ?_
  generalize vlanT p true vid=vl at *
  obtain ⟨vl,vok⟩:=vl
  dsimp only at hres qd ⊢
  cases vok
  ·rw[if_pos rfl]at hres
   subst hres
   (refine oT ?_;refine bT ?_;refine bT ?_)
   refine A8 7 zF E (.cons (.refl _) (.cons (.refl _) (.cons (.refl _) (.cons .nil .nil)))) ?_
   exact dN
  rw[if_neg qy]at hres
  subst hres
  (refine oT ?_;refine bF ?_;refine bF ?_)
  refine cD qd F89 ?_
  refine oD ?_
  refine kW ?_
  exact dN
 ·rw[if_neg ht]at hres
  rw[decide_eq_false ht]
  have hgo:=hfo
  have hgs:=hgo.src
  have qg:=Jx f.src qn
  rw[Iq,e1]at hres
  have qv:=Kx p false 0 hsh
  have qd:=H4 n hn p.dev (vlanT p false 0).1
  (refine oT ?_;refine bF ?_;refine bT ?_)
  refine c0 qg F226 ?_
  cases hgb:E9 f.src
  rotate_left
  ·rw[if_pos hgb]at hres
   subst hres
   refine oT ?_
   refine⟨E,hp0,hk,?_⟩
   rw[hp]
   conv=>whnf
   refine c0 qv F227 ?_
   (refine oF ?_;refine bF ?_;refine bT ?_)
   (skip)
   refine A8 7 zF E (.cons (.refl _) (.cons (.refl _) (.cons (.refl _) (.cons .nil .nil)))) ?_
   exact dN
  rw[if_neg (by simp[hgb])]at hres
  refine oF ?_
  refine⟨E,hp0,hk,?_⟩
  rw[hp]
  conv=>whnf
  refine c0 qv F227 ?_
  generalize vlanT p false 0=vl at *
  obtain ⟨vl,vok⟩:=vl
  dsimp only at hres qd ⊢
  cases vok
  ·rw[if_pos rfl]at hres
   subst hres
   (refine oT ?_;refine bT ?_;refine bT ?_)
   refine A8 7 zF E (.cons (.refl _) (.cons (.refl _) (.cons (.refl _) (.cons .nil .nil)))) ?_
   exact dN
  rw[if_neg qy]at hres
  subst hres
  (refine oT ?_;refine bF ?_;refine bF ?_)
  refine cD qd F89 ?_
  refine oD ?_
  refine kW ?_
  exact dN
theorem By {i:Int} {n:Nat} (h:Ag i n=true):0≤i∧i<n:=by simpa [Ag] using h
theorem I0 (i:Int) (n:Nat):Sy.Spec Tryz.prog 300 [Aa i,Aa n] [] (Ab (Ag i n)) []:=cT F300 Tryz.ntmps300 fun F hF=>by
 conv=>whnf
 (repeat' (first | (refine⟨fun h=>?_,fun h=>?_⟩<;>(repeat (first | simp only[decide_eq_true_eq]at h | simp only[decide_eq_false_iff_not]at h))<;>((refine oO ?_))) | (refine Am rfl (.cons .tmp .nil) ?_ rfl)))
 all_goals (refine congrArg Ab ?_)
 all_goals grind [Ag]
theorem Ae6 (n:Net) (f:FrameM) (h:FrameOK f) (v:Int):Sy.Spec Tryz.prog 302 [Al n,B4 f,Aa v] [] (.tup [.sl 1 Ae (Mz f),Aa 0]) []:=cT F302 Tryz.ntmps302 fun F hF=>by
 conv=>whnf
 refine Ad (Af [(0,55)] E F45 (H7 f h) E Y E ⟨.inr E,Y⟩) E E ?_
 refine Aq 55 E ?_
 refine oO ?_
 exact dN
theorem Aj6 {f:FrameM} (hf:FrameOK f) (v:Nat) (_hv:v≤4094) (h:(tagT f v).2=0):FrameOK (tagT f v).1:=by
 unfold tagT at h ⊢
 split
 ·rw[if_pos (by assumption)]at h;cases h
 rw[if_neg (by assumption)]at h
 split
 ·rw[if_pos (by assumption)]at h;cases h
 refine⟨hf.dst,hf.src,?_,?_⟩
 ·show (33024:Nat)≤65535;decide
 ·dsimp only;simp;omega
theorem Z4 (n:Net) (f:FrameM) (h:FrameOK f) (v:Nat) (hv:v≤4094) :
  Sy.Spec Tryz.prog 301 [Al n,B4 f,Aa v] [] (.tup [.sl 1 Ae (if (tagT f v).2≠0 then [] else Mz (tagT f v).1),Aa (if (tagT f v).2≠0 then (tagT f v).2 else 0)]) []:=by
 have q:=Aba f v h hv
 have ho:=Aj6 h v hv
 generalize tagT f v=t at *
 obtain ⟨g,e⟩:=t
 dsimp only at q ho ⊢
 refine Su Γ hm 100 F301 Tryz.ntmps301 E fun F hF=>by
  conv=>whnf
  refine c0 q F122 ?_
  refine oO ?_
  by_cases he:e=0
  ·subst he
   (refine⟨fun h=>False.elim (absurd h qx),fun _=>?_⟩;refine rg ?_;conv=>whnf)
   refine Ba 8 4 (B4 g) E E E ?_
   refine oO ?_
   refine Ad (Af [(0,55)] E F45 (H7 g (ho E)) E Y E ⟨.inr E,Y⟩) E E ?_
   refine Aq 55 E ?_
   refine oO ?_
   exact dN
  ·rw[if_pos he,if_pos he]
   (refine⟨fun _=>?_,fun h=>False.elim (by simp at h;omega)⟩;refine rg ?_;conv=>whnf)
   refine Ak 6 1 Ae E ?_
   exact dN
theorem O6 {n:Net} (h:Ac n=true) {i:Nat} (hi:i<n.domains.length):1≤n.domains[i].vlan∧n.domains[i].vlan≤4094:=by
 simp only[Ac,Bool.and_eq_true]at h
 have hb:Cg (E5 n) n.domains=true:=h.1.1.1.1.1.1.1.2
 have:=allB_iff.1 hb i hi
 simp only[E5,Bool.and_eq_true,decide_eq_true_eq]at this
 omega
theorem Ali (n:Net) (hn:n.Fin) (port dom:Int) (f:FrameM) (h:FrameOK f) :
  Sy.Spec Tryz.prog 236 [Al n,Aa port,Aa dom,B4 f] [] (.tup [.sl 1 Ae (leaveT n port dom f).1,Aa (leaveT n port dom f).2]) []:=cT F236 Tryz.ntmps236 fun F hF=>by
 have hres:=leaveT.eq_1 n port dom f
 generalize leaveT n port dom f=res at *
 have hr:=A9 n hn
 have hpS:=I0 port n.ports.length
 have hdS:=I0 dom n.domains.length
 conv=>whnf
 refine c0 hpS F300 ?_
 cases hpl:Ag port n.ports.length
 ·rw[if_pos (.inl hpl)]at hres
  subst hres
  (refine oT ?_;refine bT ?_;refine bT ?_)
  refine Ak 8 1 Ae E ?_
  exact dN
 refine oF ?_
 refine c0 hdS F300 ?_
 cases hdl:Ag dom n.domains.length
 ·rw[if_pos (.inr (.inl hdl))]at hres
  subst hres
  (refine oT ?_;refine bT ?_)
  refine Ak 8 1 Ae E ?_
  exact dN
 refine oF ?_
 refine c0 hr F23 ?_
 cases hbn:Ac n
 ·rw[if_pos (.inr (.inr hbn))]at hres
  subst hres
  refine oT ?_
  refine Ak 8 1 Ae E ?_
  exact dN
 rw[if_neg (by simp[hbn,hpl,hdl])]at hres
 have hpi:=By hpl
 have hdi:=By hdl
 have hp0:0≤port:=hpi.1
 have hd0:0≤dom:=hdi.1
 have hk:port.toNat<n.ports.length:=by omega
 have hkd:dom.toNat<n.domains.length:=by omega
 have e1:nth n.ports port=n.ports[port.toNat]:=Ai hk
 have e2:nth n.domains dom=n.domains[dom.toNat]:=Ai hkd
 have hsh:=hn.tagged _ (List.getElem_mem hk)
 have hv:=O6 hbn hkd
 obtain ⟨p,hp⟩:∃ p,n.ports[port.toNat]'hk=p:=⟨_,rfl⟩
 obtain ⟨d,hd⟩:∃ d,n.domains[dom.toNat]'hkd=d:=⟨_,rfl⟩
 rw[hp]at e1 hsh
 rw[hd]at e2 hv
 rw[e1,e2]at hres
 have qm:=U4 p d.vlan hsh
 refine oF ?_
 refine⟨E,hp0,hk,E,hd0,hkd,?_⟩
 rw[hp,hd]
 conv=>whnf
 refine kW ?_
 refine⟨fun h1=>?_,fun h1=>?_⟩
 ·rw[if_pos (.inl (by simpa using h1))]at hres
  subst hres
  refine oT ?_
  refine Ak 8 1 Ae E ?_
  exact dN
 refine Ba 10 7 (A2 p) E E E ?_
 refine oO ?_
 refine c0 qm F93 ?_
 cases hm1:Dk p d.vlan
 ·rw[if_pos (.inr hm1)]at hres
  subst hres
  refine oT ?_
  refine Ak 8 1 Ae E ?_
  exact dN
 rw[if_neg (by simp at h1;simp[hm1,h1])]at hres
 have qt:=Mg f
 by_cases ht:f.typ=33024
 ·rw[if_pos ht]at hres
  subst hres
  rw[decide_eq_true ht]at qt
  refine oF ?_
  refine c0 qt F182 ?_
  refine oT ?_
  refine Ak 8 1 Ae E ?_
  exact dN
 rw[if_neg ht]at hres
 rw[decide_eq_false ht]at qt
 refine oF ?_
 refine c0 qt F182 ?_
 refine oF ?_
 refine⟨fun h2=>?_,fun h2=>?_⟩
 ·rw[if_pos (by simpa using h2)]at hres
  subst hres
  refine oO ?_
  refine Dp ⟨⟨_,_,F302⟩,Ae6 n f h d.vlan⟩ E E E E E E ?_
  refine oO ?_
  exact dN
 rw[if_neg (by simpa using h2)]at hres
 refine oO ?_
 have hv0:(d.vlan.toNat:Int)=d.vlan:=by omega
 have qg:=Z4 n f h d.vlan.toNat qn
 rw[hv0]at qg
 refine Dp ⟨⟨_,_,F301⟩,qg⟩ E E E E E E ?_
 refine oO ?_
 by_cases he:(tagT f d.vlan).2=0
 ·rw[if_neg (by simpa using he)]at hres
  subst hres
  rw[if_neg (by simpa using he),if_neg (by simpa using he)]
  exact dN
 ·rw[if_pos he]at hres
  subst hres
  rw[if_pos he,if_pos he]
  exact dN
theorem inB_mem {l:List Int} {x:Int}:inB l x=true↔x∈l:=by
 simp[inB]
theorem Ae4 (n:Net) (hn:n.Fin) (port:Int) (b:List UInt8) (hb:b.length<100000) :
  Sy.Spec Tryz.prog 241 [Al n,Aa port,.sl 1 Ae b] [] (.tup [Aa (linkT n port b).1,Aa (linkT n port b).2.1,B4 (linkT n port b).2.2.1,Aa (linkT n port b).2.2.2]) []:=cT F241 Tryz.ntmps241 fun F hF=>by
 have hres:=linkT.eq_1 n port b
 generalize linkT n port b=res at *
 have qo:=Q5 n hn port
 have qe:=Ac6 n hn (Cv n port) b hb
 generalize Cv n port=o at *
 conv=>whnf
 refine c0 qo F268 ?_
 refine oO ?_
 refine⟨fun h1=>?_,fun h1=>?_⟩
 ·rw[if_pos (by simpa using h1)]at hres
  subst hres
  refine oO ?_
  refine A8 8 zF E (.cons (.refl _) (.cons (.refl _) (.cons (.refl _) (.cons .nil .nil)))) ?_
  exact dN
 rw[if_neg (by simpa using h1)]at hres
 refine oO ?_
 refine c0 qe F172 ?_
 generalize enterT n o b=en at *
 obtain ⟨x1,g,x2⟩:=en
 subst hres
 refine oO ?_
 refine kW ?_
 exact dN
end Go.Sy.YteinjapglfkamaaGreat
namespace Go.Sy.YteinjapglfkamaaGreat
open Go.Proofs
theorem I7 (l:List Nat):(Bu l).length=2 * l.length:=by
 induction l with
 | nil=>rfl
 | cons a l ih=>simp only[Bu,List.flatMap_cons,List.length_append,List.length_cons,List.length_nil]at ih ⊢;omega
theorem Hf (l:List Nat) (n:Nat):Bu (l++[n])=Bu l++[UInt8.ofNat (n / 256),UInt8.ofNat n]:=by simp[Bu]
theorem Jv (b:List UInt8) (k m:Nat):numAt b k m<256 ^ m:=by
 have h:=Kd _ ((b.drop k).take m) rfl
 have h2:((b.drop k).take m).length≤m:=by rw[List.length_take];omega
 exact Nat.lt_of_lt_of_le h (Nat.pow_le_pow_right qx h2)
theorem Oz {b:List UInt8} {k:Nat} (h:k+2≤b.length):numAt b k 2=(b[k]'qn).toNat * 256+(b[k+1]'qn).toNat:=by
 rw[numAt,Qg h,Af9]
theorem Aat {b:List UInt8} {k:Nat} (h:k<b.length):bAt b k=b[k]:=Ws h
theorem Aj5 {b:List UInt8} {k:Nat} (h:k+3≤b.length):(b.drop k).take 3=[b[k]'qn,b[k+1]'qn,b[k+2]'qn]:=by
 rw[List.drop_eq_getElem_cons qn,List.drop_eq_getElem_cons (i:=k+1) qn,List.drop_eq_getElem_cons (i:=k+2) qn]
 rfl
theorem Aj4 {b:List UInt8} {k:Nat} (h:k+4≤b.length):(b.drop k).take 4=[b[k]'qn,b[k+1]'qn,b[k+2]'qn,b[k+3]'qn]:=by
 rw[List.drop_eq_getElem_cons qn,List.drop_eq_getElem_cons (i:=k+1) qn,List.drop_eq_getElem_cons (i:=k+2) qn,List.drop_eq_getElem_cons (i:=k+3) qn]
 rfl
theorem numAt3 {b:List UInt8} {k:Nat} (h:k+3≤b.length):numAt b k 3=((b[k]'qn).toNat * 256+(b[k+1]'qn).toNat) * 256+(b[k+2]'qn).toNat:=by
 rw[numAt,Aj5 h]
 simp[Hw]
theorem numAt4 {b:List UInt8} {k:Nat} (h:k+4≤b.length):numAt b k 4=numAt b k 2 * 65536+numAt b (k+2) 2:=by
 have e:b[k+2+1]'qn=b[k+3]'qn:=rfl
 rw[numAt,Aj4 h,Oz qn,Oz qn,e]
 simp[Hw]
 omega
theorem Et (f:FrameM):(Mz f).length=14+f.body.length:=by
 simp[Mz,frame,As]
 omega
theorem Jg (p:PacketM) (s:Nat):(D9 p s).length=20:=by rw[D9,I7];rfl
theorem Lw (p:PacketM):(Q8 p).length=20+p.body.length:=by rw[Q8,List.length_append,Jg]
theorem Aa7 (s d:Nat) (b:List UInt8):(Ajz s d b).length=8+b.length:=by rw[Ajz,List.length_append,I7];rfl
theorem H5 (v:Nat):(K6 v).length=8:=rfl
theorem Ct:FrameOK noF:=⟨by decide,by decide,by decide,by decide⟩
theorem Wn (ip:Nat) (h:ip<4294967296):E2 ip<281474976710656:=by rw[E2,Int.toNat_natCast];omega
theorem Xx (n:Net) (port dom:Int) (f:FrameM) (hf:FrameOK f):(leaveT n port dom f).1.length≤1518:=by
 have h4:=hf.body
 unfold leaveT
 split
 ·simp
 split
 ·simp
 split
 ·simp
 split
 ·rw[Et];omega
 split
 ·simp
 ·rw[Et]
  rename_i h
  have h2:(tagT f (nth n.domains dom).vlan).2=0:=Classical.byContradiction h
  unfold tagT at h2 ⊢
  split
  ·rw[if_pos (by assumption)]at h2;cases h2
  rw[if_neg (by assumption)]at h2
  split
  ·rw[if_pos (by assumption)]at h2;cases h2
  ·dsimp only
   simp
   omega
theorem Wi {b:List UInt8} (h:(ipTakeT b).2=0):PacketOK (ipTakeT b).1∧(ipTakeT b).1.body.length+20≤b.length:=by
 unfold ipTakeT at h ⊢
 split
 ·rw[if_pos (by assumption)]at h;cases h
 rw[if_neg (by assumption)]at h
 split
 ·rw[if_pos (by assumption)]at h;cases h
 rw[if_neg (by assumption)]at h
 split
 ·rw[if_pos (by assumption)]at h;cases h
 rw[if_neg (by assumption)]at h
 split
 ·rw[if_pos (by assumption)]at h;cases h
 rw[if_neg (by assumption)]at h
 split
 ·rw[if_pos (by assumption)]at h;cases h
 have l1:=(bAt b 1).toNat_lt
 have l8:=(bAt b 8).toNat_lt
 have l9:=(bAt b 9).toNat_lt
 have n4:=Jv b 4 2
 have n12:=Jv b 12 4
 have n16:=Jv b 16 4
 refine⟨⟨?_,?_,?_,?_,?_,?_⟩,?_⟩
 ·show (bAt b 1).toNat≤255;omega
 ·show numAt b 4 2≤65535;omega
 ·show (bAt b 8).toNat≤255;omega
 ·show (bAt b 9).toNat≤255;omega
 ·exact n12
 ·exact n16
 ·show ((b.take (numAt b 2 2)).drop 20).length+20≤b.length
  rw[List.length_drop,List.length_take]
  omega
theorem Aok {b:List UInt8} (h:(ipTakeT b).2≠0):(ipTakeT b).1=noP:=by
 unfold ipTakeT at h ⊢
 split
 ·rfl
 rw[if_neg (by assumption)]at h
 split
 ·rfl
 rw[if_neg (by assumption)]at h
 split
 ·rfl
 rw[if_neg (by assumption)]at h
 split
 ·rfl
 rw[if_neg (by assumption)]at h
 split
 ·rfl
 rw[if_neg (by assumption)]at h
 exact absurd E h
theorem Ae0:PacketOK noP:=⟨by decide,by decide,by decide,by decide,by decide,by decide⟩
theorem Oo:∀ (l:List Nat) (j:Nat),j≤l.length→(∀ n∈l,n<4294967296)→He (Bu l) j=((l.take j).map (· % 65536)).sum
 | l,0,_,_=>by simp[He]
 | l,j+1,h,hl=>by
  have ih:=Oo l j qn hl
  have hj:j<l.length:=by omega
  have e1:(Bu l).getD (2 * j) 0=UInt8.ofNat (l[j] / 256)∧(Bu l).getD (2 * j+1) 0=UInt8.ofNat l[j]:=by
   clear ih hl
   induction l generalizing j with
   | nil=>simp at hj
   | cons a l ih2 =>
    cases j with
    | zero=>simp[Bu]
    | succ j =>
     have:=ih2 j (by simpa using h) (by simpa using hj)
     rw[Bu,List.flatMap_cons,show 2 * (j+1)+1=(2 * j+1)+1+1 by omega,show 2 * (j+1)=2 * j+1+1 by omega]
     simpa [Bu] using this
  rw[He,ih,e1.1,e1.2,List.take_succ_eq_append_getElem hj,List.map_append,List.sum_append]
  have hx:=hl l[j] (List.getElem_mem hj)
  generalize l[j]=x at *
  simp only[List.map_cons,List.map_nil,List.sum_cons,List.sum_nil,Ab6]
  omega
def Mn (p:PacketM):List UInt8:=[69,UInt8.ofNat p.tos]++be 2 (20+p.body.length)++be 2 p.id++[0,0,UInt8.ofNat p.ttl,UInt8.ofNat p.proto]++(be 4 p.src++be 4 p.dst)
theorem Lv (p:PacketM):(Mn p).length=18:=by simp[Mn,As]
theorem be2 (m:Nat):be 2 m=Bu [m]:=by simp[be,Bu]
theorem be4 (m:Nat):be 4 m=Bu [m / 65536,m]:=by simp[be,Bu,Nat.div_div_eq_div_mul]
theorem Xz {p:PacketM} (hp:PacketOK p):Mn p=Bu [17664+p.tos,20+p.body.length,p.id,0,p.ttl * 256+p.proto,p.src / 65536,p.src,p.dst / 65536,p.dst]:=by
 have h1:=hp.tos
 have h2:=hp.proto
 have h3:=hp.ttl
 have e1:(17664+p.tos) / 256=69:=by omega
 have e2:UInt8.ofNat (17664+p.tos)=UInt8.ofNat p.tos:=by apply UInt8.toNat_inj.1;simp
 have e3:(p.ttl * 256+p.proto) / 256=p.ttl:=by omega
 have e4:UInt8.ofNat (p.ttl * 256+p.proto)=UInt8.ofNat p.proto:=by apply UInt8.toNat_inj.1;simp
 rw[Mn,be2,be2,be4,be4]
 simp only[Bu,List.flatMap_cons,List.flatMap_nil,List.cons_append,List.nil_append,List.append_nil,e1,e2,e3,e4]
 rfl
theorem Abc {p:PacketM} (hp:PacketOK p) (hb:p.body.length≤1480) (s:Nat) (hs:s≤65535):∀ n∈[17664+p.tos,20+p.body.length,p.id,0,p.ttl * 256+p.proto,s,p.src / 65536,p.src,p.dst / 65536,p.dst],n<4294967296:=by
 have h1:=hp.tos
 have h2:=hp.proto
 have h3:=hp.ttl
 have h4:=hp.id
 have h5:=hp.src
 have h6:=hp.dst
 intro n hn
 simp only[List.mem_cons,List.not_mem_nil,or_false]at hn
 rcases hn with rfl | rfl | rfl | rfl | rfl | rfl | rfl | rfl | rfl | rfl<;>omega
theorem Acp {p:PacketM} (hp:PacketOK p) (hb:p.body.length≤1480):Qh (Mn p)=J1 p:=by
 have hw:=Abc hp hb 0 qx
 rw[J1,Qh,Qh,Lv,Jg,Xz hp,D9]
 rw[show 18 / 2=9 from rfl,show 20 / 2=10 from rfl,Oo _ 9 qy (fun n hn=>hw n (by
  simp only[List.mem_cons,List.not_mem_nil,or_false]at hn ⊢
  rcases hn with h | h | h | h | h | h | h | h | h<;>simp[h])),Oo _ 10 qy hw]
 simp
theorem Acq {p:PacketM} (hp:PacketOK p):[69,UInt8.ofNat p.tos]++be 2 (20+p.body.length)++be 2 p.id++[0,0,UInt8.ofNat p.ttl,UInt8.ofNat p.proto]++be 2 (J1 p)++(be 4 p.src++be 4 p.dst)=D9 p (J1 p):=by
 have h1:=hp.tos
 have h2:=hp.proto
 have h3:=hp.ttl
 have e1:(17664+p.tos) / 256=69:=by omega
 have e2:UInt8.ofNat (17664+p.tos)=UInt8.ofNat p.tos:=by apply UInt8.toNat_inj.1;simp
 have e3:(p.ttl * 256+p.proto) / 256=p.ttl:=by omega
 have e4:UInt8.ofNat (p.ttl * 256+p.proto)=UInt8.ofNat p.proto:=by apply UInt8.toNat_inj.1;simp
 rw[D9,be2,be2,be2,be4,be4]
 simp only[Bu,List.flatMap_cons,List.flatMap_nil,List.cons_append,List.nil_append,List.append_nil,e1,e2,e3,e4]
 rfl
theorem Afb (p:PacketM) (s:Nat):((D9 p 0).set 10 (UInt8.ofNat (s / 256))).set 11 (UInt8.ofNat s)=D9 p s:=by
 simp only[D9,Bu,List.flatMap_cons,List.flatMap_nil,List.cons_append,List.nil_append,List.set_cons_succ,List.set_cons_zero]
theorem Ajr (a b v:Nat) (f:FrameM) (ha:a<4294967296) (hb:b<4294967296):PacketOK (M3 a b v f):=⟨Nat.zero_le _,Nat.zero_le _,by show (64:Nat)≤255;decide,by show (17:Nat)≤255;decide,ha,hb⟩
theorem Hv (a b v:Nat) (f:FrameM):(M3 a b v f).body.length=30+f.body.length:=by
 simp only[M3,Aa7,List.length_append,H5,Et];omega
theorem Zc (a b:Nat) (v:Int) (f:FrameM):(wrapT a b v f).1.length≤1514:=by
 unfold wrapT
 split
 ·simp
 split
 ·simp
 split
 ·simp
 ·simp only[frame,List.length_append,As,Lw,Hv,List.length_cons,List.length_nil];omega
theorem Zz (n:Net) (dom peer:Int) (f:FrameM):(meshT n dom peer f).1.length≤1514:=by
 unfold meshT
 split
 ·simp
 split
 ·simp
 ·exact Zc _ _ _ _
theorem Amt {b:List UInt8}:(udpTakeT b).2.2.1.length≤b.length:=by
 unfold udpTakeT
 repeat' split
 all_goals first | (simp;done) | (simp only[List.length_drop,List.length_take];omega)
theorem vniT_body {b:List UInt8}:(vniT b).2.1.length≤b.length:=by
 unfold vniT
 repeat' split
 all_goals first | (simp;done) | (simp only[List.length_drop];omega)
theorem Tk (b:List UInt8):PacketOK (outerT b).1∧(outerT b).1.body.length≤b.length:=by
 unfold outerT
 split
 ·exact⟨Ae0,by simp[noP]⟩
 split
 ·exact⟨Ae0,by simp[noP]⟩
 split
 ·exact⟨Ae0,by simp[noP]⟩
 ·rename_i h1 h2 h3
  have h4:(takeF b).2=0:=Classical.byContradiction h1
  have h5:(ipTakeT (takeF b).1.body).2=0:=Classical.byContradiction h3
  obtain ⟨h6,h7⟩:=Wi h5
  refine⟨h6,?_⟩
  have h8:(takeF b).1.body.length≤b.length:=by
   unfold takeF
   repeat' split
   all_goals simp[noF]
  dsimp only
  omega
theorem Yt (b:List UInt8):FrameOK (Jh b).2.1∧0≤(Jh b).1:=by
 unfold Jh
 repeat' split
 all_goals first | exact⟨Ct,Int.le_refl _⟩ | skip
 rename_i h1 h2 h3 h4 h5
 refine⟨Vm (Classical.byContradiction h4),?_⟩
 show 0≤(vniT (udpTakeT b).2.2.1).1
 unfold vniT
 repeat' split
 all_goals omega
theorem Vj (b:List UInt8):(Br b).1<4294967296∧(Br b).2.1<4294967296∧0≤(Br b).2.2.1∧FrameOK (Br b).2.2.2.1:=by
 unfold Br
 split
 ·exact⟨Nat.zero_lt_succ _,Nat.zero_lt_succ _,Int.le_refl _,Ct⟩
 split
 ·exact⟨Nat.zero_lt_succ _,Nat.zero_lt_succ _,Int.le_refl _,Ct⟩
 ·exact⟨(Tk b).1.src,(Tk b).1.dst,(Yt _).2,(Yt _).1⟩
theorem Y3 (n:Net) (port:Int) (f:FrameM) (hf:FrameOK f) (tg:Bool) (vid:Int):FrameOK (Iq n port f tg vid).2.1:=by
 unfold Iq
 split
 ·exact Ct
 split
 ·exact Ct
 ·exact hf
theorem Tv (n:Net) (port:Int) (b:List UInt8):FrameOK (enterT n port b).2.1:=by
 unfold enterT
 split
 ·exact Ct
 split
 ·exact Ct
 rename_i h1 h2
 have h3:=Vm (Classical.byContradiction h2)
 split
 ·split
  ·exact Ct
  ·rename_i h5
   exact Y3 _ _ _ (Aj9 h3 (Classical.byContradiction h5)) _ _
 ·exact Y3 _ _ _ h3 _ _
theorem Ach (n:Net) (port:Int) (b:List UInt8):FrameOK (linkT n port b).2.2.1:=by
 unfold linkT
 split
 ·exact Ct
 ·exact Tv _ _ _
theorem Adf (n:Net) (b:List UInt8):FrameOK (comeT n b).2.2.1:=by
 unfold comeT
 split
 ·exact Ct
 split
 ·exact Ct
 split
 ·exact Ct
 split
 ·exact Ct
 ·exact(Vj b).2.2.2
theorem Ant (n:Net) (hm:n.Num) (irb:Int) (f:FrameM) (hin:∀ (d:Int),(lookT n irb d).2=true→0≤(lookT n irb d).1∧(lookT n irb d).1.toNat<n.irbs.length):FrameOK (hopT n irb f).2.1:=by
 unfold hopT
 split
 ·exact Ct
 split
 ·exact Ct
 split
 ·exact Ct
 split
 ·exact Ct
 split
 ·exact Ct
 split
 ·exact Ct
 rename_i h1 h2 h3 h4 h5 h6
 have hp:=(Wi (Classical.byContradiction h3)).1
 have hl:=hin ((ipTakeT f.body).1.dst:Int) (by simpa using h5)
 have ha:=hm.addr _ (List.getElem_mem hl.2)
 rw[← Ai hl.2]at ha
 refine⟨Wn _ hp.dst,?_,?_,?_⟩
 ·show E2 (nth n.irbs _).addr<_
  rw[E2];omega
 ·show (2048:Nat)≤65535;decide
 ·show (Q8 (Afe (ipTakeT f.body).1)).length≤1504
  rw[Lw]
  show 20+(ipTakeT f.body).1.body.length≤1504
  omega
end Go.Sy.YteinjapglfkamaaGreat
namespace Go.Sy.YteinjapglfkamaaGreat
open Go.Proofs
attribute [local irreducible] Go.Sy.G Go.Sy.DR
set_option maxRecDepth 100000
set_option maxHeartbeats 4000000
theorem U1 (a b:Nat) (ha:a<4294967296) (hb:b<4294967296):bits .or .u32 (a:Int) (b:Int)=((a ||| b:Nat):Int):=by
 have hx:a ||| b<2 ^ 32:=Nat.or_lt_two_pow qn qn
 have h1:(BitVec.ofInt 32 (a:Int)).toNat=a:=by
  rw[BitVec.ofInt_natCast,BitVec.toNat_ofNat];exact Nat.mod_eq_of_lt qn
 have h2:(BitVec.ofInt 32 (b:Int)).toNat=b:=by
  rw[BitVec.ofInt_natCast,BitVec.toNat_ofNat];exact Nat.mod_eq_of_lt qn
 show IntKind.u32.wrap ((BitVec.ofInt 32 (a:Int) ||| BitVec.ofInt 32 (b:Int)).toNat:Int)=_
 rw[BitVec.toNat_or,h1,h2,IntKind.wrap_u32]
 omega
theorem Ag2 (x:UInt8) (k:UInt8):((x.toNat:Int) != (k.toNat:Int))=decide (x≠k):=by
 rw[Bool.eq_iff_iff]
 simp only[bne_iff_ne,decide_eq_true_eq,ne_eq,← UInt8.toNat_inj]
 omega
theorem Q7 (b:List UInt8) (k:Nat) (h:k+2≤b.length) (hb:b.length<100000):Sy.Spec Tryz.prog 345 [.sl 1 Ae b,Aa k] [] (Aa (numAt b k 2)) []:=cT F345 Tryz.ntmps345 fun F hF=>by
 have i0:((k:Nat):Int).toNat<b.length:=by simpa using (by omega:k<b.length)
 have i1:((k:Int)+1).toNat<b.length:=by omega
 have e0:b[((k:Nat):Int).toNat]'i0=b[k]'qn:=rfl
 have e1:b[((k:Int)+1).toNat]'i1=b[k+1]'qn:=rfl
 have hp:=D6 (b[k]'qn) (b[k+1]'qn)
 have hn:=Oz h
 rw[← hn]at hp
 conv=>whnf
 refine⟨E,by omega,i0,?_⟩
 rw[e0]
 conv=>whnf
 refine⟨by decide,?_⟩
 conv=>whnf
 refine iW ?_
 refine⟨E,by omega,i1,?_⟩
 rw[e1]
 conv=>whnf
 refine⟨qq,?_⟩
 rw[hp]
 conv=>whnf
 exact dN
theorem Aj1 (x y:Nat) (hx:x<65536) (hy:y<65536):bits .or .u32 (IntKind.u32.wrap ((IntKind.u32.wrap (x:Int)) * 2 ^ min (Int.toNat 16) IntKind.u32.bits)) (IntKind.u32.wrap (y:Int))=((x * 65536+y:Nat):Int):=by
 have e1:IntKind.u32.wrap (x:Int)=(x:Int):=by rw[IntKind.wrap_u32];omega
 have e2:IntKind.u32.wrap (y:Int)=(y:Int):=by rw[IntKind.wrap_u32];omega
 rw[e1,e2]
 have e3:IntKind.u32.wrap ((x:Int) * 2 ^ min (Int.toNat 16) IntKind.u32.bits)=((x * 65536:Nat):Int):=by
  show IntKind.u32.wrap ((x:Int) * 65536)=_
  rw[IntKind.wrap_u32]
  omega
 rw[e3,U1 _ _ qn qn]
 congr 1
 have h:=Nat.two_pow_add_eq_or_of_lt (i:=16) (b:=y) qn x
 rw[Nat.mul_comm x 65536]
 exact h.symm
theorem Agt (b:List UInt8) (k:Nat) (h:k+4≤b.length) (hb:b.length<100000):Sy.Spec Tryz.prog 347 [.sl 1 Ae b,Aa k] [] (Bi (numAt b k 4)) []:=cT F347 Tryz.ntmps347 fun F hF=>by
 have q1:=Q7 b k qn hb
 have q2:=Q7 b (k+2) qn hb
 rw[show ((k+2:Nat):Int)=(k:Int)+2 by omega]at q2
 have hf:=Aj1 (numAt b k 2) (numAt b (k+2) 2) (by have:=Jv b k 2;omega) (by have:=Jv b (k+2) 2;omega)
 rw[← numAt4 h]at hf
 conv=>whnf
 refine c0 q1 F345 ?_
 refine oO ?_
 refine⟨by decide,?_⟩
 conv=>whnf
 refine iW ?_
 refine c0 q2 F345 ?_
 refine oO ?_
 rw[hf]
 exact dN
theorem Ahh (l:List UInt8) (hl:l.length<100000) (h2:l.length % 2=0):Sy.Spec Tryz.prog 346 [.sl 1 Ae l] [] (Ab (decide (C2 (He l (l.length / 2))=65535))) []:=cT F346 Tryz.ntmps346 fun F hF=>by
 have ha:=Aga l hl h2
 conv=>whnf
 refine c0 ha F156 ?_
 refine oO ?_
 refine Am E (.cons .tmp .nil) (congrArg Ab ?_) E
 rw[Bool.eq_iff_iff]
 simp only[beq_iff_eq,decide_eq_true_eq]
 omega
abbrev zP:List SV:=[Aa 0,Aa 0,Aa 0,Aa 0,Bi 0,Bi 0,.sl 1 Ae []]
theorem Ags (b:List UInt8) (hb:b.length<100000):Sy.Spec Tryz.prog 297 [.sl 1 Ae b] [] (.tup [Lr (ipTakeT b).1,Aa (ipTakeT b).2]) []:=cT F297 Tryz.ntmps297 fun F hF=>by
 have hres:=ipTakeT.eq_1 b
 generalize ipTakeT b=res at *
 conv=>whnf
 refine⟨fun h=>?_,fun h=>?_⟩
 ·rw[if_pos (qA h)]at hres
  subst hres
  refine oO ?_
  refine A8 2 zP E (.cons (.refl _) (.cons (.refl _) (.cons (.refl _) (.cons (.refl _) (.cons (.refl _) (.cons (.refl _) (.cons .nil .nil))))))) ?_
  exact dN
 have h20:20≤b.length:=qB h
 rw[if_neg qn]at hres
 clear h
 have i0:(0:Int).toNat<b.length:=by show 0<_;omega
 have i1:(1:Int).toNat<b.length:=by show 1<_;omega
 have i8:(8:Int).toNat<b.length:=by show 8<_;omega
 have i9:(9:Int).toNat<b.length:=by show 9<_;omega
 have e0:b[(0:Int).toNat]'i0=bAt b 0:=(Aat qn).symm
 have q2:=Q7 b 2 qn hb
 have q4:=Q7 b 4 qn hb
 have q6:=Q7 b 6 qn hb
 have q12:=Agt b 12 qn hb
 have q16:=Agt b 16 qn hb
 have hl20:(b.take 20).length=20:=by rw[List.length_take];omega
 have hdiv:(b.take 20).length / 2=10:=by rw[hl20]
 have qs:=Ahh (b.take 20) qn (by rw[hl20])
 rw[hdiv]at qs
 refine oO ?_
 refine⟨E,by decide,i0,?_⟩
 rw[e0]
 conv=>whnf
 refine⟨fun h=>?_,fun h=>?_⟩
 ·rw[if_pos (.inl (by rw[show ((69:Int))=((69:UInt8).toNat:Int) from rfl,Ag2]at h;exact of_decide_eq_true h))]at hres
  subst hres
  refine oT ?_
  refine A8 2 zP E (.cons (.refl _) (.cons (.refl _) (.cons (.refl _) (.cons (.refl _) (.cons (.refl _) (.cons (.refl _) (.cons .nil .nil))))))) ?_
  exact dN
 have h69:¬ bAt b 0≠69:=by rw[show ((69:Int))=((69:UInt8).toNat:Int) from rfl,Ag2]at h;exact of_decide_eq_false h
 clear h
 refine oO ?_
 refine c0 q2 F345 ?_
 refine oO ?_
 refine⟨fun h=>?_,fun h=>?_⟩
 ·rw[if_pos (.inr (qA h))]at hres
  subst hres
  refine oO ?_
  refine A8 2 zP E (.cons (.refl _) (.cons (.refl _) (.cons (.refl _) (.cons (.refl _) (.cons (.refl _) (.cons (.refl _) (.cons .nil .nil))))))) ?_
  exact dN
 have hs20:20≤numAt b 2 2:=qB h
 rw[if_neg (fun h=>h.elim h69 qn)]at hres
 clear h
 refine oO ?_
 refine c0 q2 F345 ?_
 refine oO ?_
 refine⟨fun h=>?_,fun h=>?_⟩
 ·rw[if_pos (qA h)]at hres
  subst hres
  refine oO ?_
  refine A8 2 zP E (.cons (.refl _) (.cons (.refl _) (.cons (.refl _) (.cons (.refl _) (.cons (.refl _) (.cons (.refl _) (.cons .nil .nil))))))) ?_
  exact dN
 have hsl:numAt b 2 2≤b.length:=qB h
 rw[if_neg qn]at hres
 clear h
 refine oO ?_
 refine c0 q6 F345 ?_
 refine oO ?_
 refine⟨fun h=>?_,fun h=>?_⟩
 ·rw[if_pos (by have:(numAt b 6 2:Int)≠0:=(by simpa using h);omega)]at hres
  subst hres
  refine oO ?_
  refine A8 2 zP E (.cons (.refl _) (.cons (.refl _) (.cons (.refl _) (.cons (.refl _) (.cons (.refl _) (.cons (.refl _) (.cons .nil .nil))))))) ?_
  exact dN
 rw[if_neg (by have:(numAt b 6 2:Int)=0:=(by simpa using h);omega)]at hres
 clear h
 refine oO ?_
 refine Ad (Cf (lo:=0) (hi:=20) Γ.toTy E E E E (.inl ⟨E,E⟩) (.inr ⟨_,_,E,E⟩) qn h20) E E ?_
 refine oO ?_
 refine c0 qs F346 ?_
 by_cases hsum:C2 (He (b.take 20) 10)=65535
 rotate_left
 ·rw[if_pos hsum]at hres
  subst hres
  rw[decide_eq_false hsum]
  refine oT ?_
  refine A8 2 zP E (.cons (.refl _) (.cons (.refl _) (.cons (.refl _) (.cons (.refl _) (.cons (.refl _) (.cons (.refl _) (.cons .nil .nil))))))) ?_
  exact dN
 rw[if_neg (fun h=>h hsum)]at hres
 subst hres
 rw[decide_eq_true hsum]
 have qc:=Ky ((b.take (numAt b 2 2)).drop 20) (by rw[List.length_drop,List.length_take];omega)
 have w1:IntKind.i64.wrap ((b[(1:Int).toNat]'i1).toNat:Int)=((bAt b 1).toNat:Int):=by
  rw[Aat (show 1<b.length by omega)]
  have:=(b[1]'qn).toNat_lt
  show IntKind.i64.wrap ((b[1]'qn).toNat:Int)=_
  rw[IntKind.wrap_i64];omega
 have w8:IntKind.i64.wrap ((b[(8:Int).toNat]'i8).toNat:Int)=((bAt b 8).toNat:Int):=by
  rw[Aat (show 8<b.length by omega)]
  have:=(b[8]'qn).toNat_lt
  show IntKind.i64.wrap ((b[8]'qn).toNat:Int)=_
  rw[IntKind.wrap_i64];omega
 have w9:IntKind.i64.wrap ((b[(9:Int).toNat]'i9).toNat:Int)=((bAt b 9).toNat:Int):=by
  rw[Aat (show 9<b.length by omega)]
  have:=(b[9]'qn).toNat_lt
  show IntKind.i64.wrap ((b[9]'qn).toNat:Int)=_
  rw[IntKind.wrap_i64];omega
 refine oF ?_
 refine⟨E,by decide,i1,?_⟩
 conv=>whnf
 refine cD q4 F345 ?_
 refine oD ?_
 refine⟨E,by decide,i8,?_⟩
 conv=>whnf
 refine⟨E,by decide,i9,?_⟩
 conv=>whnf
 refine cD q12 F347 ?_
 refine oD ?_
 refine cD q16 F347 ?_
 refine oD ?_
 refine cD q2 F345 ?_
 refine oD ?_
 refine Bk (Cf (lo:=20) (hi:=numAt b 2 2) Γ.toTy E E E E (.inr ⟨_,_,E,E⟩) (.inr ⟨_,_,E,E⟩) hs20 hsl) qq E ?_
 refine oD ?_
 refine cD qc F290 ?_
 refine oD ?_
 refine kW ?_
 refine Am E (.cons (.cell E E E E) (.cons .tmp .nil)) ?_ E
 show SV.tup [.agg [Aa (bAt b 1).toNat,_,Aa (bAt b 8).toNat,Aa (bAt b 9).toNat,_,_,_],_]=SV.tup [.agg [Aa (IntKind.i64.wrap ((b[(1:Int).toNat]'i1).toNat:Int)),_,Aa (IntKind.i64.wrap ((b[(8:Int).toNat]'i8).toNat:Int)),Aa (IntKind.i64.wrap ((b[(9:Int).toNat]'i9).toNat:Int)),_,_,_],_]
 rw[w1,w8,w9]
 rfl
theorem Ak2 (t:Nat) (h:t≤255):bits .or .i64 17664 (t:Int)=((17664+t:Nat):Int):=by
 have h1:=Cz 17664 t qx qn
 rw[show ((17664:Nat):Int)=17664 from rfl]at h1
 rw[h1]
 congr 1
 have h2:=Nat.two_pow_add_eq_or_of_lt (i:=8) (b:=t) qn 69
 rw[show 2 ^ 8 * 69=17664 from rfl]at h2
 rw[← h2]
theorem Anc (x y:Nat) (hx:x≤255) (hy:y≤255):bits .or .i64 (IntKind.i64.wrap ((x:Int) * 2 ^ min (Int.toNat 8) IntKind.i64.bits)) (y:Int)=((x * 256+y:Nat):Int):=by
 have h3:IntKind.i64.wrap ((x:Int) * 2 ^ min (Int.toNat 8) IntKind.i64.bits)=((x * 256:Nat):Int):=by
  show IntKind.i64.wrap ((x:Int) * 256)=_
  rw[IntKind.wrap_i64]
  omega
 rw[h3,Cz _ _ qn qn]
 congr 1
 have h:=Nat.two_pow_add_eq_or_of_lt (i:=8) (b:=y) qn x
 rw[Nat.mul_comm x 256]
 exact h.symm
theorem Acx (x:Nat) (h:x<4294967296):IntKind.i64.wrap ((x:Int).fdiv (2 ^ (min (Int.toNat 16) IntKind.u32.bits)))=((x / 65536:Nat):Int):=by
 show IntKind.i64.wrap ((x:Int).fdiv 65536)=_
 rw[Int.fdiv_eq_ediv_of_nonneg _ qx,IntKind.wrap_i64]
 omega
theorem U5 (x:Nat) (h:x<4294967296):IntKind.i64.wrap (x:Int)=(x:Int):=by rw[IntKind.wrap_i64];omega
theorem Z6 (p:PacketM) (hp:PacketOK p) (hb:p.body.length<100000):Sy.Spec Tryz.prog 43 [Lr p] [] (.tup [.sl 1 Ae (ipPutT p).1,Aa (ipPutT p).2]) []:=cT F43 Tryz.ntmps43 fun F hF=>by
 have hres:=ipPutT.eq_1 p
 generalize ipPutT p=res at *
 have h1:=hp.tos
 have h2:=hp.id
 have h3:=hp.ttl
 have h4:=hp.proto
 have h5:=hp.src
 have h6:=hp.dst
 conv=>whnf
 refine Dp ⟨⟨_,_,F103⟩,Zi p.tos 255 qn⟩ E E E E E E ?_
 refine oF ?_
 refine Dp ⟨⟨_,_,F103⟩,Zi p.ttl 255 qn⟩ E E E E E E ?_
 refine oF ?_
 refine Dp ⟨⟨_,_,F103⟩,Zi p.proto 255 qn⟩ E E E E E E ?_
 refine oF ?_
 refine Dp ⟨⟨_,_,F103⟩,Zi p.id 65535 qn⟩ E E E E E E ?_
 refine oF ?_
 refine⟨fun h=>?_,fun h=>?_⟩
 ·rw[if_pos (qA h)]at hres
  subst hres
  refine oO ?_
  refine Ak 2 1 Ae E ?_
  exact dN
 have hl:p.body.length≤1480:=qB h
 rw[if_neg qn]at hres
 subst hres
 clear h
 have hsz:Q8 p=((D9 p 0).set 10 (UInt8.ofNat (J1 p / 256))).set 11 (UInt8.ofNat (J1 p))++p.body:=by rw[Afb,Q8]
 rw[hsz]
 have hil:=Jg p 0
 have hs:=sumOfS (D9 p 0) (by rw[hil];decide) (by rw[hil])
 have hput:=Alj [17664+p.tos,20+p.body.length,p.id,0,p.ttl * 256+p.proto,0,p.src / 65536,p.src,p.dst / 65536,p.dst] qy
 rw[show Ii [17664+p.tos,20+p.body.length,p.id,0,p.ttl * 256+p.proto,0,p.src / 65536,p.src,p.dst / 65536,p.dst]=D9 p 0 from rfl]at hput
 have hss:Qh (D9 p 0)=J1 p:=rfl
 rw[hss]at hs
 have hsl:J1 p≤65535:=Nat.sub_le _ _
 generalize J1 p=s at *
 have htb:=D1 s
 have o1:=Ak2 p.tos h1
 have o2:=Anc p.ttl p.proto h3 h4
 have g1:=Acx p.src h5
 have g2:=U5 p.src h5
 have g3:=Acx p.dst h6
 have g4:=U5 p.dst h6
 generalize D9 p 0=b at *
 refine oO ?_
 refine iW ?_
 refine⟨by decide,?_⟩
 conv=>whnf
 refine⟨by decide,?_⟩
 conv=>whnf
 refine⟨by decide,?_⟩
 conv=>whnf
 refine Ady 68 (e:=Ak9) (l:=[17664+p.tos,20+p.body.length,p.id,0,p.ttl * 256+p.proto,0,p.src / 65536,p.src,p.dst / 65536,p.dst]) E ?_ ?_
 ·show _=[SV.val (.int .i64 (bits .or .i64 17664 (p.tos:Int))),SV.val _,SV.val _,SV.val _,SV.val (.int .i64 (bits .or .i64 (IntKind.i64.wrap ((p.ttl:Int) * 2 ^ min (Int.toNat 8) IntKind.i64.bits)) (p.proto:Int))),SV.val _,
   SV.val (.int .i64 (IntKind.i64.wrap ((p.src:Int).fdiv (2 ^ (min (Int.toNat 16) IntKind.u32.bits))))),SV.val (.int .i64 (IntKind.i64.wrap (p.src:Int))),SV.val (.int .i64 (IntKind.i64.wrap ((p.dst:Int).fdiv (2 ^ (min (Int.toNat 16) IntKind.u32.bits))))),SV.val (.int .i64 (IntKind.i64.wrap (p.dst:Int)))]
  rw[o1,o2,g1,g2,g3,g4]
  rfl
 refine Aq 68 E ?_
 refine Ad (Af [(0,69)] E F104 hput E Y E ⟨.inr E,Y⟩) E E ?_
 refine oO ?_
 refine Adj [69] hs F105 E (.cons (.row E E) .nil) E E E ?_
 refine oO ?_
 have hb1:=(List.cons.inj htb).1
 have hb2:=(List.cons.inj (List.cons.inj htb).2).1
 refine⟨by omega,?_⟩
 conv=>whnf
 refine⟨by decide,by rw[hil];decide,?_⟩
 conv=>whnf
 refine⟨E,by rw[hil];decide,UInt8.ofNat (s / 256),congrArg (fun z=>[z]) hb1,E,?_⟩
 conv=>whnf
 refine⟨by decide,by simp[hil],?_⟩
 conv=>whnf
 refine⟨E,by simp[hil],UInt8.ofNat s,congrArg (fun z=>[z]) hb2,E,?_⟩
 conv=>whnf
 refine Ad (Ah Γ.toTy 84 E E E E E (.row E) .sl qx (by simp[hil];omega) (by simp[hil];omega)) E E ?_
 refine Aq 84 E ?_
 refine oO ?_
 exact dN
theorem Vk (n:Nat):IntKind.u8.wrap (n:Int)=((UInt8.ofNat n).toNat:Int):=Aoi n
theorem Ah5 (p:PacketM) (hp:PacketOK p) (hb:p.body.length<100000):Sy.Spec Tryz.prog 48 [Lr p] [] (.tup [.sl 1 Ae (ipPutT p).1,Aa (ipPutT p).2]) []:=cT F48 Tryz.ntmps48 fun F hF=>by
 have hres:=ipPutT.eq_1 p
 generalize ipPutT p=res at *
 have h1:=hp.tos
 have h2:=hp.id
 have h3:=hp.ttl
 have h4:=hp.proto
 have h5:=hp.src
 have h6:=hp.dst
 conv=>whnf
 refine c0 (Ana p.tos 255 qn) F107 ?_
 refine oF ?_
 refine c0 (Ana p.ttl 255 qn) F107 ?_
 refine oF ?_
 refine c0 (Ana p.proto 255 qn) F107 ?_
 refine oF ?_
 refine c0 (Ana p.id 65535 qn) F107 ?_
 refine oF ?_
 refine⟨fun h=>?_,fun h=>?_⟩
 ·rw[if_pos (qA h)]at hres
  subst hres
  refine oO ?_
  refine Ak 2 1 Ae E ?_
  exact dN
 have hl:p.body.length≤1480:=qB h
 rw[if_neg qn]at hres
 subst hres
 clear h
 have hall:=Acq hp
 have hsum:=Acp hp hl
 have h2l:=Lv p
 have hs:=Ah3 (Mn p) (by rw[h2l];decide) (by rw[h2l])
 rw[hsum]at hs
 have hsl:J1 p≤65535:=Nat.sub_le _ _
 have hby:Q8 p=[69,UInt8.ofNat p.tos]++be 2 (20+p.body.length)++be 2 p.id++[0,0,UInt8.ofNat p.ttl,UInt8.ofNat p.proto]++be 2 (J1 p)++(be 4 p.src++be 4 p.dst)++p.body:=by rw[hall,Q8]
 rw[hby]
 clear hby hall
 generalize J1 p=s at *
 have g2:=U5 p.src h5
 have g4:=U5 p.dst h6
 have b2:=Ju p.src 4 qn qx
 have b4:=Ju p.dst 4 qn qx
 rw[← g2]at b2
 rw[← g4]at b4
 have hu1:=Vk p.tos
 have hu3:=Vk p.ttl
 have hu4:=Vk p.proto
 have hm1:[69,UInt8.ofNat p.tos].map Ae=[SV.val (.int .u8 69),SV.val (.int .u8 (IntKind.u8.wrap (p.tos:Int)))]:=by rw[hu1];rfl
 have hm2:[0,0,UInt8.ofNat p.ttl,UInt8.ofNat p.proto].map Ae=[SV.val (.int .u8 0),SV.val (.int .u8 0),SV.val (.int .u8 (IntKind.u8.wrap (p.ttl:Int))),SV.val (.int .u8 (IntKind.u8.wrap (p.proto:Int)))]:=by rw[hu3,hu4];rfl
 refine oO ?_
 refine iW ?_
 refine Ad (Af [(0,39)] E F108 (Ju (20+p.body.length) 2 qn qx) E Y E ⟨.inr E,Y⟩) E E ?_
 refine oO ?_
 refine Ad (Ah Γ.toTy 40 E E E E E (.lit (e:=Ae) (l:=[69,UInt8.ofNat p.tos]) E hm1) (.row E) qx (by simp[As]) (by simp[As])) E E ?_
 refine oO ?_
 refine Ad (Af [(0,44)] E F108 (Ju p.id 2 qn qx) E Y E ⟨.inr E,Y⟩) E E ?_
 refine oO ?_
 refine Ad (Ah Γ.toTy 45 E E E E E (.row E) (.row E) qx (by simp[As]) (by simp[As])) E E ?_
 refine oO ?_
 refine Ad (Ah Γ.toTy 54 E E E E E (.row E) (.lit (e:=Ae) (l:=[0,0,UInt8.ofNat p.ttl,UInt8.ofNat p.proto]) E hm2) qx (by simp[As]) (by simp[As])) E E ?_
 refine oO ?_
 refine Bk (Af [(0,58)] E F108 b2 E Y E ⟨.inr E,Y⟩) qq E ?_
 refine oD ?_
 refine Bk (Af [(0,62)] E F108 b4 E Y E ⟨.inr E,Y⟩) qq E ?_
 refine oD ?_
 refine Bk (Ah Γ.toTy 63 E E E E E (.row E) (.row E) qx (by simp[As]) (by simp[As])) qq E ?_
 refine oD ?_
 refine kW ?_
 refine Ad (Ah Γ.toTy 66 E E E E E (.lit (e:=Ae) (l:=[]) E E) (.row E) qx (by simp[As]) (by simp[As])) E E ?_
 refine oO ?_
 refine Ad (Ah Γ.toTy 68 E E E E E (.row E) (.row E) qx (by simp[As]) (by simp[As])) E E ?_
 refine oO ?_
 refine Adj [68] hs F109 E (.cons (.row ?_ E) .nil) E E E ?_
 ·rfl
 refine oO ?_
 refine Ad (Af [(0,72)] E F108 (Ju s 2 qn qx) E Y E ⟨.inr E,Y⟩) E E ?_
 refine oO ?_
 refine Ad (Ah Γ.toTy 73 E E E E E (.row E) (.row E) qx (by simp[As]) (by simp[As])) E E ?_
 refine oO ?_
 refine Ad (Ah Γ.toTy 75 E E E E E (.row E) (.row E) qx (by simp[As]) (by simp[As])) E E ?_
 refine oO ?_
 refine Ad (Ah Γ.toTy 79 E E E E E (.row E) .sl qx (by simp[As];omega) (by simp[As];omega)) E E ?_
 refine Aq 79 E ?_
 refine oO ?_
 exact dN
def hop1 (p:PacketM):PacketM × Int:=if p.ttl≤1 then (noP,13) else (Afe p,0)
theorem ipHopS (p:PacketM) (hb:p.body.length<100000) (ht:p.ttl≤255):Sy.Spec Tryz.prog 298 [Lr p] [] (.tup [Lr (hop1 p).1,Aa (hop1 p).2]) []:=cT F298 Tryz.ntmps298 fun F hF=>by
 have hres:=hop1.eq_1 p
 generalize hop1 p=res at *
 have qc:=Ky p.body qn
 conv=>whnf
 refine⟨fun h=>?_,fun h=>?_⟩
 ·rw[if_pos (qA h)]at hres
  subst hres
  refine oO ?_
  refine A8 2 zP E (.cons (.refl _) (.cons (.refl _) (.cons (.refl _) (.cons (.refl _) (.cons (.refl _) (.cons (.refl _) (.cons .nil .nil))))))) ?_
  exact dN
 have h2:¬ p.ttl≤1:=qB h
 rw[if_neg h2]at hres
 subst hres
 have e:((p.ttl-1:Nat):Int)=(p.ttl:Int)-1:=by omega
 refine oO ?_
 refine iW ?_
 refine c0 qc F290 ?_
 refine oO ?_
 refine Am E (.cons (.cell E E E E) (.cons .tmp .nil)) ?_ E
 show SV.tup [.agg [_,_,Aa ((p.ttl-1:Nat):Int),_,_,_,_],_]=SV.tup [.agg [_,_,Aa ((p.ttl:Int)-1),_,_,_,_],_]
 rw[e]
 rfl
end Go.Sy.YteinjapglfkamaaGreat
