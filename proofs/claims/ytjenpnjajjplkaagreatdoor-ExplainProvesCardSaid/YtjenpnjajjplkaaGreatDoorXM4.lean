/-
  Sy29 B0 D1 E36 E37 E5 E6 M12 M13 M14 V2 V3 V4 V5 X1 D2 M1 M2 M15 A1 A3 Sy20 Sy21 A4 R1 R2 A5 R3 R5 R6 A6 R7 R8 K0 E7 E8 E9 E10 E11 E12 E13 E14 E15 A7: parts of a proof, joined by program.
-/
import Derived.Test.YtjenpnjajjplkaaGreatDoorXM3
import Derived.RangeFuncNested
import Derived.RangeFuncCalls
import Derived.RangeFuncLeaves
import Derived.Shelf.Abstract
import Derived.Shelf.RegionOpen
import Derived.WalkKit
import Derived.OwnWalkIn
import Derived.TacticsInMore
import Derived.LoopNIn
import Derived.LoopIn
import Derived.Test.YtjenpnjajjplkaaGreatDoorProg
import Derived.Test.YtjenpnjajjplkaaGreatDoorXM2
import Derived.ProofKit
import Derived.OpenShut
import Derived.Scope
import Derived.Laws.Bits64b
set_option linter.all false
set_option linter.unusedVariables false
set_option linter.unusedSimpArgs false
set_option linter.deprecated false
namespace Go.Sy
def Aaz (C:Cx) {β:Type} (I:β→Prop) (L:β→List (Nat × SV)) (O:β→Obs) (μ:β→Nat) (x:β) (a:Act) (w:World):Prop :=
 ∃ x':{y:β // I y},∃ κ,μ x'.1<μ x∧St C.F C.n (mkS (L x'.1) (O x'.1)) κ a w
theorem Cc {C:Cx} {k:List KI} {s:SS} {body:Code} {β:Type} (I:β→Prop) (L:β→List (Nat × SV)) (O:β→Obs) (μ:β→Nat) (x₀:β) (ρ:List (Nat × Nat)) (h0:I x₀) (hsub:Sub C s ρ (L x₀) (O x₀))
  (h:∀ x,I x→G C (.code body::.inv (Aaz C I L O μ x)::k) (mkS (L x) (O x))):G C (.code (.loop body)::k) s :=
 Ac1 (α:={y:β // I y}) (fun x=>L x.1) (fun x=>O x.1) (fun x=>μ x.1) ⟨x₀,h0⟩ ρ hsub (fun x=>h x.1 x.2)
theorem A8 {C:Cx} {k:List KI} {s:SS} {β:Type} {I:β→Prop} {L:β→List (Nat × SV)} {O:β→Obs} {μ:β→Nat} {x:β} (x':β) (ρ:List (Nat × Nat)) (h':I x') (hμ:μ x'<μ x) (hsub:Sub C s ρ (L x') (O x')) :
  G C (.inv (Aaz C I L O μ x)::k) s:=fun _ _ _ hs=>⟨⟨x',h'⟩,_,hμ,hsub.st hs⟩
theorem Ql {C:Cx} {kk:List KI} {s:SS} (k d:Nat) {sz:Nat} {α:Type} {e:α→SV} {l:List α} (h:s.h k=.row sz e l) (hd:s.h d=.fresh) (hkd:k≠d)
  (hg:G C kk ⟨fun i=>frz k (.osl d) (s.σ i),upd (fun j=>bif Nat.beq j k then .non else Ae6 k (.osl d) (s.h j)) d (.row sz e l)⟩):G C kk s:=fun κ a w hs=>by
 have hob:=hs.obj k
 rw[h]at hob
 have hnew:κ d=.new:=by have:=hs.obj d;rwa [hd]at this
 have fin:∀ κ':Ka,(∀ j,j≠k→j≠d→κ' j=κ j)→Step (fun j=>j=k∨j=d) κ w κ' w→Inv κ' w→(∀ v,Rd κ w (.osl k) v→Rd κ' w (.osl d) v)→ObOK κ' w d (.row sz e l)→den C.P C.B kk .normal a w:=by
  intro κ' hne st inv hv ho
  refine hg κ' a w ⟨hs.defers,hs.size,inv,hs.ctx.step inv st,fun j=>Xw st hv _ _ (hs.slot j),fun j=>?_⟩
  show ObOK κ' w j (upd (fun j=>bif Nat.beq j k then .non else Ae6 k (.osl d) (s.h j)) d (.row sz e l) j)
  by_cases hj:j=d
  ·subst hj;rw[Bm];exact ho
  ·rw[Ca _ _ hj]
   by_cases hj2:j=k
   ·subst hj2;rw[show Nat.beq j j=true from Nat.beq_refl j];trivial
   ·rw[show Nat.beq j k=false from by cases hb:Nat.beq j k with | false=>rfl | true=>exact absurd (Nat.eq_of_beq_eq_true hb) hj2]
    have hb:=ObOK.step st (fun e=>e.elim hj2 hj) _ (hs.obj j)
    have h0:=hs.obj j
    show ObOK κ' w j (Ae6 k (.osl d) (s.h j))
    cases hh:s.h j with
    | box m =>
     rw[hh]at h0 hb
     obtain ⟨b,cs,T,fr,e1,e2,e3,e4,e5⟩:=h0
     exact⟨b,cs,T,fr,(hne j hj2 hj).trans e1,e2,e3,e4,Hr st hv m cs e5⟩
    | fresh=>rw[hh]at hb;exact hb
    | non=>rw[hh]at hb;exact hb
    | row sz' e' l'=>rw[hh]at hb;exact hb
    | lit sz' svs=>rw[hh]at hb;exact hb
    | glob sz' x' g'=>rw[hh]at hb;exact hb
    | pin b' n' cap' sz' e' l'=>rw[hh]at hb;exact hb
    | dat v' sz' e' l'=>rw[hh]at hb;exact hb
    | rown sz' e' l' i' cl' =>
     rw[hh]at h0
     obtain ⟨b2,cap2,cs2,T2,fr2,f1,f2,f3,f4,f5,f6,f7,us2,v1,v2,v3,v4⟩:=h0
     refine⟨b2,cap2,cs2,T2,fr2,(hne j hj2 hj).trans f1,f2,f3,f4,f5,fun m y hm hy=>?_,f7,us2,v1,v2,Hr st hv cl' us2 v3,v4⟩
     obtain ⟨g0,u,g1,g2⟩:=f6 m y hm hy
     exact⟨g0,u,RdD.keep st.keeps _ _ g1,g2⟩
 rcases hob with ⟨h1,rfl⟩ | ⟨b,cap,cs,T,fr,e1,e2,e3,e4,e5,e6⟩
 ·have st:=Ey (H9 hs.inv (some k)) (by show C8 κ k .dead d=.new;rw[Bk _ _ (Ne.symm hkd)];exact hnew) (e:=.nil) (Grew.refl w) (fun b hb=>by cases hb)
  refine fin _ (fun j h1 h2=>by rw[Bk _ _ h2];exact Bk _ _ h1) (((Ek (some k)).weaken (fun j hj=>.inl (Option.some.inj hj).symm)).trans (st.1.weaken (fun j hj=>.inr hj))) st.2 (fun v hv=>?_) (.inl ⟨Aq _ _ _,E⟩)
  simp only[Rd,h1]at hv
  simp[Rd,Aq,hv]
 ·obtain ⟨st,inv⟩:=Qq (n':=l.length) (w':=w) hs.inv e1 hnew rfl rfl rfl rfl (fun _ _=>rfl)
  refine fin _ (fun j h1 h2=>by rw[Bk _ _ h2];exact Bk _ _ h1) st inv (fun v hv=>?_) (.inr ⟨b,cap,cs,T,fr,Aq _ _ _,e2,e3,e4,e5,fun i x hx=>?_⟩)
  ·simp only[Rd,e1]at hv
   simp[Rd,Aq,hv]
  ·obtain ⟨q1,u,q2,q3⟩:=e6 i x hx
   exact⟨q1,u,RdD.keep st.keeps _ _ q2,q3⟩
theorem Aid {C:Cx} {k:List KI} {s:SS} (d:Nat) {sz:Nat} {α:Type} (e:α→SV) (l:List α) {svs:List SV} (h:s.h d=.lit sz svs) (hl:l.map e=svs) (hg:G C k ⟨s.σ,upd s.h d (.row sz e l)⟩):G C k s:=fun κ a w hs=>by
 refine hg κ a w ⟨hs.defers,hs.size,hs.inv,hs.ctx,hs.slot,fun j=>?_⟩
 show ObOK κ w j (upd s.h d (.row sz e l) j)
 by_cases hj:j=d
 ·subst hj
  rw[Bm]
  have hob:=hs.obj j
  rw[h]at hob
  have hlen:l.length=svs.length:=by rw[← hl,List.length_map]
  obtain ⟨b,cap,cs,T,fr,e1,e2,e3,e4,e5,e6⟩:=hob
  exact .inr ⟨b,cap,cs,T,fr,by rw[hlen];exact e1,e2,e3,e4,by omega,fun i x hx=>by rw[hlen];exact e6 i x (Ke hl i x hx)⟩
 ·rw[Ca _ _ hj];exact hs.obj j
end Go.Sy
namespace Go.Sy.YtjenpnjajjplkaaGreatDoor
open Go.Proofs
theorem tdiv10 (n:Nat) (h:n<1000000000000000000):IntKind.i64.wrap ((n:Int).tdiv 10)=((n / 10:Nat):Int):=by
 rw[Int.tdiv_eq_ediv_of_nonneg q_,IntKind.wrap_i64];omega
theorem Afw (n:Nat):(n:Int).tmod 10=((n % 10:Nat):Int):=by
 rw[Int.tmod_eq_emod_of_nonneg q_];omega
theorem dig8 (n:Nat):IntKind.u8.wrap (48+((n % 10:Nat):Int))=((UInt8.ofNat (48+n % 10)).toNat:Int):=by
 rw[IntKind.wrap_u8]
 simp
theorem Sm (n:Nat):(revDigs n).reverse=(if n<10 then [] else (revDigs (n / 10)).reverse)++[UInt8.ofNat (48+n % 10)]:=by
 rw[revDigs.eq_1 n]
 split
 ·rw[Nat.mod_eq_of_lt (by assumption)];rfl
 ·rw[List.reverse_cons]
theorem Jo (l:List ByteArray) (sep:ByteArray):(Ct l sep).size≤Lz l+sep.size * l.length:=by
 have:=Adi (l.map (·.data.toList)) sep.data.toList
 have e:(l.map (·.data.toList)).map (·.length)=l.map (·.size):=by
  rw[List.map_map]
  apply List.map_congr_left
  intro a _
  rfl
 rw[e,List.length_map]at this
 have e2:(Ct l sep).size=(Lib.join (l.map (·.data.toList)) sep.data.toList).length:=by simp[Ct,ByteArray.size]
 rw[e2]
 exact this
theorem Qx {n:Int} (h:0≤n∧n<1000000000000000000):(Dx n).size≤19:=by
 obtain ⟨m,rfl⟩:=Int.eq_ofNat_of_zero_le h.1
 rw[Dx,Df]
 exact Uj m q_
theorem Q9 {n:Net} (hnm:Hc n) (i:Int):(Cj n i).size≤400:=by
 rw[Cj]
 split
 ·rename_i hc
  have hk:i.toNat<n.domains.length:=by omega
  have hf:=Ce hc.2 hk
  rw[O7,Ad hk,Ad hf.1.2]
  have h1:=hnm.1 _ (List.getElem_mem hf.1.2)
  have h2:=Qx (n:=(n.domains[i.toNat]'hk).vlan) q_
  refine Nat.le_trans (Jo _ _) ?_
  have e:Lz [(n.devices[(n.domains[i.toNat]'hk).dev.toNat]'hf.1.2).name,⟨#[47]⟩,Dx (n.domains[i.toNat]'hk).vlan]=(n.devices[(n.domains[i.toNat]'hk).dev.toNat]'hf.1.2).name.size+(1+((Dx (n.domains[i.toNat]'hk).vlan).size+0)):=rfl
  have e2:(⟨#[]⟩:ByteArray).size=0:=rfl
  rw[e,e2]
  omega
 ·exact Nat.zero_le _
theorem H5 {n:Net} (hnm:Hc n) (i:Int):(Bj n i).size≤700:=by
 rw[Bj]
 split
 ·rename_i hc
  have hk:i.toNat<n.ports.length:=by omega
  have hd:=Js hc.2 hk
  rw[D5,Ad hk,Ad hd.2]
  have h1:=hnm.1 _ (List.getElem_mem hd.2)
  have h2:=hnm.2 _ (List.getElem_mem hk)
  rw[ByteArray.size_append,ByteArray.size_append]
  show _+1+_≤700
  omega
 ·exact Nat.zero_le _
end Go.Sy.YtjenpnjajjplkaaGreatDoor
namespace Go.Sy.YtjenpnjajjplkaaGreatDoor
open Go.Proofs
attribute [local irreducible] Go.Sy.G Go.Sy.DR
set_option maxRecDepth 20000
set_option maxHeartbeats 4000000
theorem Ug (m:Nat):Dx m=mkT (revDigs m).reverse:=by rw[Dx,Uk]
def Db (p:Nat→Bool) (j:Nat):List Int:=((List.range j).filter p).map Int.ofNat
theorem Mr (p:Nat→Bool) (j:Nat):Db p (j+1)=if p j=true then Db p j++[(j:Int)] else Db p j:=by
 rw[Db,List.range_succ,List.filter_append,List.map_append]
 split
 ·rename_i h
  rw[List.filter_cons_of_pos (by exact h),List.filter_nil];rfl
 ·rename_i h
  rw[List.filter_cons_of_neg (by exact h),List.filter_nil,List.map_nil,List.append_nil];rfl
theorem Hs (p:Nat→Bool) (j:Nat):(Db p j).length≤j:=by
 have:=List.length_filter_le p (List.range j)
 simpa [Db] using this
theorem filtI_mem {p:Nat→Bool} {j:Nat} {x:Int}:x∈Db p j↔0≤x∧x<j∧p x.toNat=true:=by
 simp only[Db,List.mem_map,List.mem_filter,List.mem_range]
 constructor
 ·rintro ⟨i,h1,rfl⟩
  exact⟨Int.natCast_nonneg i,by simp;omega,h1.2⟩
 ·rintro ⟨h1,h2,h3⟩
  exact⟨x.toNat,⟨by omega,h3⟩,Int.toNat_of_nonneg h1⟩
def Mb (n:Net) (d:Domain) (i:Nat):Bool:=(nth n.ports i).dev == d.dev && B5 (nth n.ports i) d.vlan
def Om (n:Net) (i:Int):List Int:=Db (Mb n (nth n.domains i)) n.ports.length
def Ao (n:Net) (i:Int):List Int:=if (0≤i∧i<n.domains.length)∧Ac n=true then Om n i else []
theorem D8 (n:Net) (hn:n.Fin) (i:Int):Ag (Ao n i):=by
 have:=hn.ports
 unfold Ag at this ⊢
 unfold Ao
 split
 ·have:=Hs (Mb n (nth n.domains i)) n.ports.length
  unfold Om
  omega
 ·simp
theorem Is (n:Net) (hn:n.Fin) (i:Int):Sy.Spec Tryz.prog 101 [Ae n,Aa i] [] (.sl 1 Aa (Ao n i)) []:=cT F101 Tryz.ntmps101 fun F hF=>by
 have hr:=Aw n hn
 have hpl:=Ew 6 Af n.domains i
 have hsp:=hn.ports
 unfold Ag at hsp
 conv=>whnf
 refine c0 hr F25 ?_
 cases hb:Ac n
 ·rw[Ao,if_neg (by simp[hb])]
  (refine oT ?_;refine bT ?_)
  refine Ci 4 1 Aa E ?_
  refine oO ?_
  exact dN
 refine oF ?_
 refine c0 hpl F178 ?_
 by_cases hi:0≤i∧i<n.domains.length
 rotate_left
 ·have h0:Ar i n.domains.length=false:=by simp only[Ar,Bool.and_eq_false_iff,decide_eq_false_iff_not];omega
  rw[Ao,if_neg (by simp[hb,hi]),h0]
  refine oT ?_
  refine Ci 4 1 Aa E ?_
  refine oO ?_
  exact dN
 have h0:Ar i n.domains.length=true:=by simp only[Ar,Bool.and_eq_true,decide_eq_true_eq];exact hi
 rw[Ao,if_pos ⟨hi,hb⟩,h0]
 have hk:i.toNat<n.domains.length:=by omega
 have hf:=Ce hb hk
 have e1:nth n.domains i=n.domains[i.toNat]:=Ad hk
 rw[Om,e1]
 obtain ⟨d,hd⟩:∃ d,n.domains[i.toNat]=d:=⟨_,rfl⟩
 rw[hd]at hf ⊢
 refine A1 2 8 (Ae n) E E E ?_
 refine oF ?_
 refine Cq 5 1000 1 Aa E E ?_
 refine By n.ports.length (fun j=>[(1,Aa i),(2,.ref 8 (Ae n) 0),(5,.osl 1000),(19,.sl 7 As n.ports),(20,Aa n.ports.length),(21,Aa j)]) (fun j=>[(1000,.row 1 Aa (Db (Mb n d) j))]) []
  ⟨⟨rfl,rfl,rfl,rfl,rfl,rfl,rfl,rfl,rfl,rfl,rfl,rfl,trivial⟩,⟨.inl rfl,rfl,trivial⟩,rfl,rfl⟩ ?_
 intro j hj
 refine oO ?_
 refine⟨fun h=>?_,fun h=>?_⟩
 ·have hlt:j<n.ports.length:=by simpa using h
  have hsucc:=Mr (Mb n d) j
  have hfl:=Hs (Mb n d) j
  have hin:Mb n d j=((n.ports[j]).dev == d.dev && B5 n.ports[j] d.vlan):=by
   rw[Mb,Ad (l:=n.ports) (i:=(j:Int)) (by simpa using hlt)];rfl
  rw[hin]at hsucc
  have e1:n.ports[(j:Int).toNat]'q_=n.ports[j]:=rfl
  have hms:=Ts n.ports[j] d.vlan (hn.tagged _ (List.getElem_mem _))
  obtain ⟨p,hp⟩:∃ p,n.ports[j]=p:=⟨_,rfl⟩
  rw[hp]at e1 hsucc hms
  obtain ⟨u,hu⟩:∃ u,Db (Mb n d) j=u:=⟨_,rfl⟩
  rw[hu]at hsucc hfl ⊢
  refine oO ?_
  refine⟨E,by omega,by omega,?_⟩
  rw[e1]
  conv=>whnf
  refine⟨E,hi.1,hk,?_⟩
  rw[hd]
  conv=>whnf
  refine⟨fun h2=>?_,fun h2=>?_⟩
  ·have h3:∃ k:Nat,(k:Int)=i:=⟨i.toNat,by omega⟩
   rw[h2,Bool.true_and]at hsucc
   refine oD ?_
   refine⟨E,hi.1,hk,?_⟩
   rw[hd]
   conv=>whnf
   refine cD hms F179 ?_
   refine oD ?_
   refine kW ?_
   refine⟨fun h4=>?_,fun h4=>?_⟩
   ·rw[if_pos h4]at hsucc
    refine oO ?_
    refine A2 (Ai Γ.toTy 48 E E E E E (.row E) (.lit (e:=Aa) (l:=[(j:Int)]) E E) y_ (by simp;omega) (by simp;omega)) E E ?_
    refine oO ?_
    refine iW ?_
    exact Bs [(1000,48)] hlt ⟨⟨E,E,E,E,E,E,E,E,E,E,E,E,Y⟩,⟨.inl (congrArg (Ob.row 1 Aa) hsucc),E,Y⟩,E,E⟩
   ·rw[if_neg (by simp[h4])]at hsucc
    refine oO ?_
    refine iW ?_
    exact Bs [] hlt ⟨⟨E,E,E,E,E,E,E,E,E,E,E,E,Y⟩,⟨.inl (congrArg (Ob.row 1 Aa) hsucc),E,Y⟩,E,E⟩
  ·rw[if_neg (by simp[h2])]at hsucc
   refine oD ?_
   refine⟨z_,?_⟩
   ((conv=>whnf);refine aF ?_;refine rg ?_;conv=>whnf)
   refine iW ?_
   exact Bs [] hlt ⟨⟨E,E,E,E,E,E,E,E,E,E,E,E,Y⟩,⟨.inl (congrArg (Ob.row 1 Aa) hsucc),E,Y⟩,E,E⟩
 ·have:j=n.ports.length:=qB h
  subst this
  refine Ah 1000 E ?_
  refine oO ?_
  exact dN
theorem Xy (n:Net) (hn:n.Fin) (l:List Domain) (p:Domain→Bool) (f:FuncId) (first cap:List SV) (hc:(SV.clo (.func f) first cap).inn []=true) (hf:∀ x∈l,Eu Tryz.prog f (first++[Af x]++cap) (Ab (p x))) (hl:Ag l) :
  Sy.Spec Tryz.prog 251 [Ae n,.sl 6 Af l,.clo (.func f) first cap] [] (Aa (if Ac n=true then Bd p l else -1)) []:=cT F251 Tryz.ntmps251 fun F hF=>by
 have hr:=Aw n hn
 have q:=Da l p f first cap hc hf hl
 conv=>whnf
 refine c0 hr F25 ?_
 cases hb:Ac n
 ·rw[if_neg y_]
  refine oT ?_
  exact dN
 rw[if_pos rfl]
 refine oF ?_
 refine I9 q F163 E E (by simp only[Bn,hc,Bool.and_true];rfl) E E ?_
 refine oO ?_
 exact dN
theorem Xp (dev vlan:Int) (d:Domain):Sy.Spec Tryz.prog 252 [Af d,.ref 1 (Aa dev) 0,.ref 1 (Aa vlan) 0] [] (Ab (d.dev == dev && d.vlan == vlan)) []:=cT F252 Tryz.ntmps252 fun F hF=>by
 conv=>whnf
 (repeat' (first | (refine⟨fun h=>?_,fun h=>?_⟩<;>(repeat (first | simp only[beq_iff_eq]at h | simp only[beq_eq_false_iff_ne]at h))<;>((refine oO ?_))) | (refine At rfl (.cons .tmp .nil) ?_ rfl)))
 all_goals (refine congrArg Ab ?_)
 all_goals simp_all
def Bl (n:Net) (dev vlan:Int):Int:=if Ac n=true then Dn n dev vlan else -1
theorem Je (n:Net) (hn:n.Fin) (dev vlan:Int):Sy.Spec Tryz.prog 168 [Ae n,Aa dev,Aa vlan] [] (Aa (Bl n dev vlan)) []:=cT F168 Tryz.ntmps168 fun F hF=>by
 have q:=Xy n hn n.domains (fun d=>d.dev == dev && d.vlan == vlan) 252 [] [.ref 1 (Aa dev) 0,.ref 1 (Aa vlan) 0] rfl (fun d _=>⟨⟨_,_,F252⟩,Xp dev vlan d⟩) hn.domains
 conv=>whnf
 refine A1 4 1 (Aa dev) E E E ?_
 refine A1 5 1 (Aa vlan) E E E ?_
 refine c0 q F251 ?_
 refine oO ?_
 exact dN
def Bu (n:Net) (i:Int):Int :=
 if (0≤i∧i<n.ports.length)∧0≤(nth n.ports i).link∧Ac n=true then
  (if (nth n.links (nth n.ports i).link).a=i then (nth n.links (nth n.ports i).link).b else (nth n.links (nth n.ports i).link).a) else -1
theorem S4 {n:Net} (h:Ac n=true) {i:Nat} (hi:i<n.ports.length) (hl:0≤n.ports[i].link) :
  n.ports[i].link.toNat<n.links.length∧((nth n.links n.ports[i].link).a=i∨(nth n.links n.ports[i].link).b=i):=by
 have:=Acf h hi
 simp only[Ki,Ar,Bool.and_eq_true,Bool.or_eq_true,decide_eq_true_eq,beq_iff_eq]at this
 rcases this.2 with h1 | h1
 ·omega
 ·exact⟨by omega,h1.2⟩
theorem Ji (n:Net) (hn:n.Fin) (i:Int):Sy.Spec Tryz.prog 184 [Ae n,Aa i] [] (Aa (Bu n i)) []:=cT F184 Tryz.ntmps184 fun F hF=>by
 have hr:=Aw n hn
 conv=>whnf
 refine⟨fun h=>?_,fun h=>?_⟩
 ·have h1:i<0:=of_decide_eq_true h
  rw[Bu,if_neg q_]
  (refine oT ?_;refine bT ?_;refine bT ?_)
  exact dN
 have h1:0≤i:=qB h
 refine oO ?_
 refine⟨fun h=>?_,fun h=>?_⟩
 ·have h2:n.ports.length≤i:=of_decide_eq_true h
  rw[Bu,if_neg q_]
  (refine oT ?_;refine bT ?_)
  exact dN
 have h2:i<n.ports.length:=qB h
 have hk:i.toNat<n.ports.length:=by omega
 have e1:nth n.ports i=n.ports[i.toNat]:=Ad hk
 have hlk:=fun (hb:Ac n=true)=>S4 hb hk
 rw[Bu,e1]
 obtain ⟨p,hp⟩:∃ p,n.ports[i.toNat]=p:=⟨_,rfl⟩
 rw[hp]at hlk ⊢
 refine oO ?_
 refine⟨E,h1,hk,?_⟩
 rw[hp]
 conv=>whnf
 refine⟨fun h=>?_,fun h=>?_⟩
 ·have h3:p.link<0:=of_decide_eq_true h
  rw[if_neg q_]
  refine oT ?_
  exact dN
 have h3:0≤p.link:=qB h
 refine oO ?_
 refine c0 hr F25 ?_
 cases hb:Ac n
 ·rw[if_neg y_]
  refine oT ?_
  exact dN
 rw[if_pos ⟨⟨h1,h2⟩,h3,rfl⟩]
 have hq:=hlk hb h3
 have e2:nth n.links p.link=n.links[p.link.toNat]:=Ad hq.1
 rw[e2]
 obtain ⟨l,hl⟩:∃ l,n.links[p.link.toNat]'hq.1=l:=⟨_,rfl⟩
 rw[hl]
 refine oF ?_
 refine⟨E,h1,hk,?_⟩
 rw[hp]
 conv=>whnf
 refine⟨E,h3,hq.1,?_⟩
 rw[hl]
 conv=>whnf
 refine kW ?_
 refine⟨fun h=>?_,fun h=>?_⟩
 ·have h4:l.a=i:=by simpa using h
  rw[if_pos h4]
  refine oO ?_
  exact dN
 ·have h4:¬ l.a=i:=by simpa using h
  rw[if_neg h4]
  refine oO ?_
  exact dN
end Go.Sy.YtjenpnjajjplkaaGreatDoor
namespace Go.Sy.YtjenpnjajjplkaaGreatDoor
open Go.Proofs
attribute [local irreducible] Go.Sy.G Go.Sy.DR
set_option maxRecDepth 100000
set_option maxHeartbeats 4000000
def Aht (c:UInt8) (s:ByteArray):ByteArray × ByteArray × Bool :=
 if 0≤Lib.indexByte s.data.toList c then (s.extract 0 (Jq c s.data.toList),s.extract (Jq c s.data.toList+1) s.size,true) else (s,⟨#[]⟩,false)
def X8 (l:List UInt8):Int:=l.foldl (fun n c=>10 * n+((c.toNat:Int)-48)) 0
def Aiw (s:ByteArray):Bool:=s.data.toList.head? == some 45
def S7 (s:ByteArray):List UInt8:=if Aiw s=true then s.data.toList.drop 1 else s.data.toList
def Aep (s:ByteArray):Int:=if Aiw s=true then 0-X8 (S7 s) else X8 (S7 s)
def Ui (s:ByteArray) (lo hi:Int):Int × Bool :=
 if (S7 s).length<1∨10<(S7 s).length then (0,false) else if (S7 s).all Hu=false then (0,false)
 else if Aep s<lo∨hi<Aep s then (0,false) else if (Dx (Aep s) == s)=true then (Aep s,true) else (0,false)
theorem Sb (l:List UInt8) (c:UInt8):X8 (l++[c])=10 * X8 l+((c.toNat:Int)-48):=by
 rw[X8,List.foldl_append];rfl
theorem Tx {s:ByteArray} {i:Nat} (h:i<s.data.toList.length):Bt s i=s.data.toList[i]:=by
 rw[Bt,List.getD_eq_getElem?_getD,List.getElem?_eq_getElem h];rfl
end Go.Sy.YtjenpnjajjplkaaGreatDoor
namespace Go.Sy.YtjenpnjajjplkaaGreatDoor
theorem Aib {C:Cx} {k:List KI} {s:SS} (d:Nat) (x:SV) (h:Vw s [] (s.σ d) x) (hg:G C k ⟨upd s.σ d x,s.h⟩):G C k s:=fun κ a w hs =>
 hg κ a w ⟨hs.defers,hs.size,hs.inv,hs.ctx,fun i=>by
  show Rd κ w (upd s.σ d x i) _
  by_cases hi:i=d
  ·subst hi;rw[Bm];exact Vw.rd hs.inv (fun _ hn=>by cases hn) h (hs.slot i)
  ·rw[Ca _ _ hi];exact hs.slot i,hs.obj⟩
end Go.Sy.YtjenpnjajjplkaaGreatDoor
namespace Go.Sy.YtjenpnjajjplkaaGreatDoor
open Go.Proofs
attribute [local irreducible] Go.Sy.G Go.Sy.DR
set_option maxRecDepth 20000
set_option maxHeartbeats 4000000
def Dy (n:Net):Bool :=
 decide (200<n.devices.length) || decide (200<n.ports.length) || decide (200<n.links.length) || decide (200<n.domains.length) || decide (200<n.statics.length) || decide (200<n.floods.length) || decide (200<n.vrfs.length) || decide (200<n.irbs.length) ||
  n.ports.any (fun p=>decide (100<p.tagged.length)) || n.domains.any (fun d=>decide (100<d.peers.length)) || n.floods.any (fun f=>decide (100<f.addrs.length)) || n.vrfs.any (fun v=>decide (100<v.imports.length) || decide (100<v.exports.length))
theorem O3 {n:Net} (h:Dy n=false):n.Fin:=by
 simp only[Dy,Bool.or_eq_false_iff,decide_eq_false_iff_not,List.any_eq_false,decide_eq_true_eq,Bool.or_eq_true,not_or]at h
 obtain ⟨⟨⟨⟨⟨⟨⟨⟨⟨⟨⟨h1,h2⟩,h3⟩,h4⟩,h5⟩,h6⟩,h7⟩,h8⟩,h9⟩,h10⟩,h11⟩,h12⟩:=h
 exact⟨by unfold Ag;omega,by unfold Ag;omega,by unfold Ag;omega,by unfold Ag;omega,by unfold Ag;omega,by unfold Ag;omega,by unfold Ag;omega,by unfold Ag;omega,
  fun p hp=>by have:=h9 p hp;unfold Ag;omega,fun p hp=>by have:=h10 p hp;unfold Ag;omega,fun p hp=>by have:=h11 p hp;unfold Ag;omega,fun p hp=>by have:=h12 p hp;unfold Ag;omega,fun p hp=>by have:=h12 p hp;unfold Ag;omega⟩
end Go.Sy.YtjenpnjajjplkaaGreatDoor
namespace Go.Sy.YtjenpnjajjplkaaGreatDoor
open Go.Proofs
attribute [local irreducible] Go.Sy.G Go.Sy.DR
set_option maxRecDepth 100000
set_option maxHeartbeats 4000000
def Tp (p:Port):SV:=.agg [Aa p.row,Aa p.dev,Aa p.native,Aa p.cost,Aa p.link,Ak p.name,.val (.slice none 0 0)]
def X5 (d:Domain):SV:=.agg [Aa d.dev,Aa d.vlan,Aa d.vni,Aa d.irb,Aa d.row,.val (.slice none 0 0)]
theorem Abu {M:Nat→Prop} {w:World} (p:Port) (hp:p.tagged=[]) {v:Value} (h:RdD M w (Tp p) v):RdD M w (As p) v:=by
 simp only[Tp,As,RdD,RdDL,hp]at h ⊢
 obtain ⟨cs,h1,h2,v0,r0,h3,h4,v1,r1,h5,h6,v2,r2,h7,h8,v3,r3,h9,h10,v4,r4,h11,h12,v5,r5,h13,h14,v6,r6,h15,h16,h17⟩:=h
 exact⟨cs,h1,h2,v0,r0,h3,h4,v1,r1,h5,h6,v2,r2,h7,h8,v3,r3,h9,h10,v4,r4,h11,h12,v5,r5,h13,h14,v6,r6,h15,.inl ⟨Y,none,0,h16⟩,h17⟩
theorem W4 {M:Nat→Prop} {w:World} (p:Domain) (hp:p.peers=[]) {v:Value} (h:RdD M w (X5 p) v):RdD M w (Af p) v:=by
 simp only[X5,Af,RdD,RdDL,hp]at h ⊢
 obtain ⟨cs,h1,h2,v0,r0,h3,h4,v1,r1,h5,h6,v2,r2,h7,h8,v3,r3,h9,h10,v4,r4,h11,h12,v5,r5,h13,h14,h15⟩:=h
 exact⟨cs,h1,h2,v0,r0,h3,h4,v1,r1,h5,h6,v2,r2,h7,h8,v3,r3,h9,h10,v4,r4,h11,h12,v5,r5,h13,.inl ⟨Y,none,0,h14⟩,h15⟩
def Cn (d:UInt8):List UInt8→List UInt8→List ByteArray
 | cur,[]=>[mkT cur]
 | cur,c::r=>if c=d then mkT cur::Cn d [] r else Cn d (cur++[c]) r
theorem Hk (d:UInt8):∀ (l cur:List UInt8),d∉l→Cn d cur l=[mkT (cur++l)]
 | [],cur,_=>by rw[Cn,List.append_nil]
 | c::l,cur,h=>by
  simp only[List.mem_cons,not_or]at h
  rw[Cn,if_neg (Ne.symm h.1),Hk d l _ h.2]
  simp
theorem M5 (d:UInt8):∀ (l cur:List UInt8),d∈l→Cn d cur l=mkT (cur++l.take (Jq d l))::Cn d [] (l.drop (Jq d l+1))
 | [],cur,h=>by simp at h
 | c::l,cur,h=>by
  by_cases hc:c=d
  ·subst hc
   rw[Cn,if_pos rfl,Jq]
   simp[Lib.indexByte]
  ·have h2:d∈l:=by
    simp only[List.mem_cons]at h
    exact h.resolve_left (Ne.symm hc)
   have h3:=(D1 h2).1
   have e:Jq d (c::l)=Jq d l+1:=by
    have e1:Lib.indexByte (c::l) d=Lib.indexByte l d+1:=by
     rw[Lib.indexByte.eq_def]
     dsimp only
     rw[if_neg (by simpa using hc),if_neg (by simp;omega)]
    rw[Jq,Jq,e1]
    omega
   rw[Cn,if_neg hc,M5 d l _ h2,e]
   simp
theorem Kg (d:UInt8) (l:List UInt8):∀ j,Bi d l (j+1)=Bi d (l.drop (Jq d l+1)) j
 | 0=>rfl
 | j+1=>by
  rw[Bi,Kg d l j]
  rfl
theorem Wg (d:UInt8):∀ (k:Nat) (l:List UInt8),l.length≤k→An d (mkT l)=Cn d [] l
 | 0,l,h=>by
  rw[List.length_eq_zero_iff.1 (by omega:l.length=0)]
  simp[An,Cn,Bi,mkT]
 | k+1,l,h=>by
  by_cases hd:d∈l
  ·have h1:=Ju hd
   have h2:=(D1 hd).2
   have h3:(l.drop (Jq d l+1)).length≤k:=by rw[List.length_drop];omega
   rw[M5 d l [] hd,← Wg d k _ h3]
   simp only[An,Cf]
   rw[← h1,List.range_succ_eq_map,List.map_cons,List.map_map,List.cons_append,List.nil_append,Kg]
   congr 2
   apply List.map_congr_left
   intro j _
   show mkT (D6 d l (j+1))=_
   rw[D6,D6,Kg]
  ·have h1:l.count d=0:=List.count_eq_zero.2 hd
   rw[Hk d l [] hd]
   simp[An,Cf,h1,Bi]
theorem Wf (d:UInt8) (s:ByteArray):An d s=Cn d [] s.data.toList:=by
 rw[← Wg d _ _ (Nat.le_refl _),H6]
def Aje (c:UInt8):Int:=if 48≤c.toNat∧c.toNat≤57 then (c.toNat:Int)-48 else if 97≤c.toNat∧c.toNat≤102 then (c.toNat:Int)-87 else 16
end Go.Sy.YtjenpnjajjplkaaGreatDoor
namespace Go.Sy
open Go.RowKit
def Ady {β:Type} (T:Nat→Prop) (J:β→World→Prop):Prop :=
 ∀ s W W' row,J s W→W.grownBy W' row→(∀ r,row=some r→T r)→J s W'
def OwnT {β:Type} (B:Nat) (T:Nat→Prop) (I:β→World→Prop):Prop :=
 ∀ s W W' row,I s W→W.grownBy W' row→(∀ r,row=some r→T r∨(B≤r∧∃ o:Obj,W.heap[r]? = some o∧o.isCells=false))→I s W'
theorem OwnT.putObj {β:Type} {B:Nat} {T:Nat→Prop} {I:β→World→Prop} (h:OwnT B T I) {s:β} {W:World} {l:Nat} {o:Obj} (o':Obj) (hs:I s W) (hB:B≤l) (hl:W.heap[l]? = some o) (ho:o.isCells=false):I s (W.putObj l o') :=
 h s W _ _ hs (grownBy_putObj' W l o') (fun r e=>by cases e;exact .inr ⟨hB,o,hl,ho⟩)
theorem OwnT.alloc {β:Type} {B:Nat} {T:Nat→Prop} {I:β→World→Prop} (h:OwnT B T I) {s:β} {W:World} (o:Obj) (hs:I s W):I s (W.alloc o) :=
 h s W _ none hs ⟨rfl,rfl,rfl,by simp,fun k hk _=>Below.heap_alloc _ _ _ hk⟩ (fun r e=>by cases e)
def Xb {α:Type} (F:Fence) (n:Nat) (P:Program) (g:Nat) (lb:Array Value) (encs:α→Array Value) (T:Nat→Prop) (Kp:World→World→Prop) (S Sp:List α→Prop) (N:Nat) (w:World):Prop :=
 ∀ (l:Nat) (J Jx:List α→World→Prop) (W:World),Below w.heap.size w W→Ady T J→Ady T Jx →
  (∀ pre x W1,J pre W1→pre.length<N→YieldAt F (n-1) P l (encs x) W1 fun e W' =>
   (e=.returned (.bool true)∧J (pre++[x]) W'∧Kp W1 W')∨(e=.returned (.bool false)∧Jx (pre++[x]) W')) →
  J [] W →
  CallsIn F n P g (#[.func (.yield l) #[] #[]]++lb) W fun e W'=>(∃ v,e=.returned v)∧((∃ xs,S xs∧J xs W')∨(∃ pre,Sp pre∧Jx pre W'))
theorem Ik {A B:World} {T:Nat→Prop} {row:Option Nat} {k:Nat} {o:Obj} (hg:A.grownBy B row) (hr:∀ r,row=some r→T r) (hk:¬ T k) (h:A.heap[k]? = some o):B.heap[k]? = some o:=by
 obtain ⟨_,_,_,_,h5⟩:=hg
 exact(h5 k (Array.getElem?_eq_some_iff.1 h).1 (fun e=>hk (hr k e.symm))).trans h
variable {F:Fence} {n:Nat} {P:Program}
theorem Lm {α:Type} {g:Operand} {ps:Array Tmp} {assign body:Code} {Q:Exit→Act→World→Prop} {a:Act} {w:World}
  (hro:F.round=none) (h1:1≤n) {gf:Nat} {lb:Array Value} (hg:a.eval g=.func (.func gf) #[] lb) (hFg:F.fn gf) (eg:∀ args w,(callFunc gf args).run P w=.ok (.enter gf args) w)
  {encs:α→Array Value} {T:Nat→Prop} {Kp:World→World→Prop} {S Sp:List α→Prop} {N:Nat} {w0:World} (hseq:Xb F (n-1) P gf lb encs T Kp S Sp N w0) (hT:∀ b,T b→b<w.heap.size)
  (hKt:∀ {A B C:World},Kp A B→Kp B C→Kp A C) (hKb:∀ (W:World) (l:Nat) (o o':Obj),w.heap.size≤l→W.heap[l]? = some o→o.isCells=false→o.isWalk=false→Kp W (W.putObj l o')) (hb0:Below w0.heap.size w0 w) (hps:∀ x,(encs x).size=ps.size)
  (I:List α→World→Prop) (Ix:Code→List α→World→Prop) (hI:OwnT w.heap.size T I) (hIx:∀ c,OwnT w.heap.size T (Ix c)) (h0:I [] w) (a₁:α→Act)
  (hassign:∀ (l:Nat) (x:α) (W:World) (K:Act→World→Prop),K (a₁ x) W →
   assign.wpIn (F.inRound l) (n-1-1) P (Exit.then K (fun _ _ _=>False)) { tmps:=(ps.zip (encs x)).foldl (fun t (p,v)=>t.setIfInBounds p v) a.tmps,defers:=[] } W)
  (hbody:∀ (l:Nat) (pre:List α) (x:α) (W:World),I pre W→pre.length<N→body.wpIn (F.inRound l) (n-1-1) P (ownPostK Kp I Ix (pre++[x]) W) (a₁ x) W)
  (hdone:∀ (D:Nat) (xs:List α) (W:World),w.heap.size≤D→S xs→I xs W→W.heap[D]? = some (.deferred (some []))→Q .normal { a with defers:={ target:=.collected D,args:=#[] }::a.defers } W)
  (hstop:∀ (D:Nat) (c:Code) (pre:List α) (W:World),w.heap.size≤D→Sp pre→Ix c pre W→W.heap[D]? = some (.deferred (some []))→c.wpIn F n P Q { a with defers:={ target:=.collected D,args:=#[] }::a.defers } W) :
  (Code.rangeFunc g ps assign body).wpIn F n P Q a w:=by
 refine wpIn_rangeFunc ?_
 intro fn hfn
 rw[hro]
 obtain ⟨rec,hrec⟩:∃ rec:LoopState→Option Code→Loop,rec=fun st pe=>{ state:=st,pending:=pe,fn,tmps:=a.tmps,params:=ps,assign,body,defers:=w.heap.size }:=⟨_,rfl⟩
 obtain ⟨W1,hW1⟩:∃ W1,(w.alloc (.deferred (some []))).alloc (.loop (rec .ready none))=W1:=⟨_,rfl⟩
 have hL1:W1.heap[w.heap.size+1]? = some (.loop (rec .ready none)):=by
  rw[← hW1];have:=World.alloc_heap_new (w.alloc (.deferred (some []))) (.loop (rec .ready none));rwa [World.size_alloc]at this
 have hK1:W1.heap[w.heap.size]? = some (.deferred (some [])):=by
  rw[← hW1];exact(Below.heap_alloc _ _ _ y_).trans (World.alloc_heap_new w _)
 have hI1:I [] W1:=by rw[← hW1];exact hI.alloc _ (hI.alloc _ h0)
 have hb1:Below w0.heap.size w0 W1:=by
  rw[← hW1];exact hb0.trans ((((Below.refl _ w).alloc (Nat.le_refl _) _).alloc y_ _).mono hb0.size)
 have nT:∀ k,w.heap.size≤k→¬ T k:=fun k hk h=>Nat.lt_irrefl _ (Nat.lt_of_lt_of_le (hT k h) hk)
 refine⟨w.heap.size+1,[{ target:=.collected w.heap.size,args:=#[] }],W1,{ target:=.fn (.func gf) lb,args:=#[.func (.yield (w.heap.size+1)) #[] #[]] },W1,gf,
  #[.func (.yield (w.heap.size+1)) #[] #[]]++lb,W1,?_,?_,?_,?_,fun _=>h1,?_⟩
 ·rw[← hW1,hrec];exact run_enterLoop_outer _ _ _ _ _
 ·simp only[resolve,hg]
  simp[go_sem]
 ·intro f' hf';simp[Target.leads]at hf';subst hf';exact hFg
 ·simp[invoke,go_sem,eg]
 ·refine(hseq (w.heap.size+1)
   (fun pre W=>I pre W∧W.heap[w.heap.size+1]? = some (.loop (rec .ready none))∧W.heap[w.heap.size]? = some (.deferred (some [])))
   (fun pre W=>∃ c,Ix c pre W∧W.heap[w.heap.size+1]? = some (.loop (rec .done (some c)))∧W.heap[w.heap.size]? = some (.deferred (some [])))
   W1 hb1
   (fun s A B row hs hg' hr=>⟨hI s A B row hs.1 hg' (fun r e=>.inl (hr r e)),Ik hg' hr (nT _ q_) hs.2.1,Ik hg' hr (nT _ q_) hs.2.2⟩)
   (fun s A B row hs hg' hr=>by
    obtain ⟨c,hc,hl,hk⟩:=hs
    exact⟨c,hIx c s A B row hc hg' (fun r e=>.inl (hr r e)),Ik hg' hr (nT _ q_) hl,Ik hg' hr (nT _ q_) hk⟩)
   ?_ ⟨hI1,hL1,hK1⟩).mono ?_
  ·rintro pre x W ⟨hi,hl,hk⟩ hlen
   have hlt:w.heap.size+1<W.heap.size:=(Array.getElem?_eq_some_iff.1 hl).1
   have hy:=run_yield (P:=P) (args:=encs x) hl (by rw[hrec];exact hps x)
   rw[hrec]at hy
   refine⟨fn,_,assign,body,hy,roundIn_of_wpIn hfn (hassign _ x W _ ⟨_,run_beginRound hl (by rw[hrec]),?_⟩)⟩
   have hl2:(W.putObj (w.heap.size+1) (.loop { rec .ready none with state:=.busy })).heap[w.heap.size+1]? = some (.loop { rec .ready none with state:=.busy }):=World.putObj_heap_same hlt
   have hk2:(W.putObj (w.heap.size+1) (.loop { rec .ready none with state:=.busy })).heap[w.heap.size]? = some (.deferred (some [])):=(World.putObj_heap_other q_).trans hk
   have hw2:Kp W (W.putObj (w.heap.size+1) (.loop { rec .ready none with state:=.busy })):=hKb _ _ _ _ q_ hl rfl rfl
   refine wpIn_mono (hbody _ pre x _ (hI.putObj _ hi (Nat.le_succ _) hl E) hlen) ?_
   have fin:∀ (jump:Option Code) (W3:World),KeepsOthers (W.putObj (w.heap.size+1) (.loop { rec .ready none with state:=.busy })) W3 →
     (Instr.endRound (w.heap.size+1) jump).run P W3=.ok (.bool jump.isNone) (W3.putObj (w.heap.size+1) (.loop (rec (if jump.isNone then .ready else .done) jump))) ∧
     W3.heap[w.heap.size+1]? = some (.loop { rec .ready none with state:=.busy }) ∧
     (W3.putObj (w.heap.size+1) (.loop (rec (if jump.isNone then .ready else .done) jump))).heap[w.heap.size+1]? = some (.loop (rec (if jump.isNone then .ready else .done) jump)) ∧
     (W3.putObj (w.heap.size+1) (.loop (rec (if jump.isNone then .ready else .done) jump))).heap[w.heap.size]? = some (.deferred (some [])):=fun jump W3 hk3=>by
    have hl3:=hk3.same _ _ hl2 rfl
    have:=run_endRound (P:=P) jump hl3
    rw[hrec]at this ⊢
    exact⟨this,by rw[hrec]at hl3;exact hl3,World.putObj_heap_same (Array.getElem?_eq_some_iff.1 hl3).1,(World.putObj_heap_other q_).trans (hk3.same _ _ hk2 E)⟩
   rintro e a3 W3 hp
   cases e with
   | normal =>
    obtain ⟨hk3,hkp3,hi3⟩:=hp
    obtain ⟨hr,hl3,hl4,hk4⟩:=fin none W3 hk3
    exact⟨_,_,hr,.inl ⟨E,⟨hI.putObj _ hi3 (Nat.le_succ _) hl3 E,hl4,hk4⟩,hKt (hKt hw2 hkp3) (hKb _ _ _ _ q_ hl3 E E)⟩⟩
   | ret =>
    obtain ⟨hk3,hi3⟩:=hp
    obtain ⟨hr,hl3,hl4,hk4⟩:=fin (some .ret) W3 hk3
    exact⟨_,_,hr,.inr ⟨E,.ret,(hIx _).putObj _ hi3 (Nat.le_succ _) hl3 E,hl4,hk4⟩⟩
   | exit id =>
    obtain ⟨hk3,hi3⟩:=hp
    obtain ⟨hr,hl3,hl4,hk4⟩:=fin (some (.exit id)) W3 hk3
    exact⟨_,_,hr,.inr ⟨E,.exit id,(hIx _).putObj _ hi3 (Nat.le_succ _) hl3 E,hl4,hk4⟩⟩
   | goto t =>
    obtain ⟨hk3,hi3⟩:=hp
    obtain ⟨hr,hl3,hl4,hk4⟩:=fin (some (.goto t)) W3 hk3
    exact⟨_,_,hr,.inr ⟨E,.goto t,(hIx _).putObj _ hi3 (Nat.le_succ _) hl3 E,hl4,hk4⟩⟩
   | panic ch=>exact hp.elim
   | outgrown=>exact hp.elim
  ·rintro e W2 ⟨⟨v,rfl⟩,(⟨xs,hS,hi,hl,hk⟩ | ⟨pre,hSp,c,hi,hl,hk⟩)⟩
   ·exact⟨none,_,by have:=run_endLoop (P:=P) hl (by rw[hrec];simp);rw[hrec]at this;exact this,hdone _ xs _ (Nat.le_refl _) hS (hI.putObj _ hi (Nat.le_succ _) hl E) ((World.putObj_heap_other q_).trans hk)⟩
   ·exact⟨some c,_,by have:=run_endLoop (P:=P) hl (by rw[hrec];simp);rw[hrec]at this;exact this,hstop _ c pre _ (Nat.le_refl _) hSp ((hIx c).putObj _ hi (Nat.le_succ _) hl E) ((World.putObj_heap_other q_).trans hk)⟩
end Go.Sy
namespace Go.Proofs
open Go.RowKit Go.Shelf Go.Sy Go.Sy.YtjenpnjajjplkaaGreatDoor
attribute [local go_sem] Oper.semAt_some
structure SeqBox (W:World) (bp bs bv:Nat) (t:ByteArray):Prop where
 p:W.cell? ⟨bp,0,none⟩=some (.string ⟨#[46]⟩)
 s:W.cell? ⟨bs,0,none⟩=some (.string t)
 v:W.cell? ⟨bv,0,none⟩=some (.int .i64 0)
 f:W.frozen? ⟨bs,0,none⟩=false
def Ah9 (bp bs bv:Nat) (W W':World):Prop:=W'.heap[bp]? = W.heap[bp]? ∧ W'.heap[bs]? = W.heap[bs]? ∧ W'.heap[bv]? = W.heap[bv]?
theorem SeqBox.keep {W W':World} {bp bs bv:Nat} {t:ByteArray} (h:SeqBox W bp bs bv t) (k:Ah9 bp bs bv W W'):SeqBox W' bp bs bv t :=
 ⟨(World.cell?_of_block k.1).trans h.p,(World.cell?_of_block k.2.1).trans h.s,(World.cell?_of_block k.2.2).trans h.v,by
  have:W'.frozen? ⟨bs,0,none⟩=W.frozen? ⟨bs,0,none⟩:=by unfold World.frozen?;rw[k.2.1]
  rw[this];exact h.f⟩
theorem Zz:∀ {l:List UInt8} {c:UInt8},c∉l→Lib.indexByte l c=-1
 | [],_,_=>rfl
 | b::l,c,h=>by
  simp only[List.mem_cons,not_or]at h
  rw[Lib.indexByte,if_neg (by simpa using Ne.symm h.1),Zz h.2]
  rfl
def Ag4 (bs:Nat) (W:World):Nat:=match W.cell? ⟨bs,0,none⟩ with | some (.string t)=>t.size | _=>0
set_option maxRecDepth 100000 in
set_option maxHeartbeats 4000000 in
theorem Tryz.split_stops (s:ByteArray) (hs:s.size<100000) (n:Nat) (hn:1≤n) (bp bs bv:Nat) (hd:bp≠bs∧bv≠bs) (w:World) (hw:SeqBox w bp bs bv s) (hlt:bp<w.heap.size∧bs<w.heap.size∧bv<w.heap.size) :
  Xb Fence.wide n Tryz.prog 423 #[.pointer (some ⟨bp,0,none⟩),.pointer (some ⟨bs,0,none⟩),.pointer (some ⟨bv,0,none⟩)] (fun x:ByteArray=>#[.string x]) (fun b=>b=bs) (Ah9 bp bs bv)
   (fun xs=>xs=An 46 s) (fun pre=>pre <+: An 46 s) (An 46 s).length w:=fun l J Jx W hW hJ hJx hY h0=>by
 refine callsIn_of_wp Tryz.func423 E Y ?_ E
 simp only[Tryz.ntmps423,List.size_toArray,List.length_cons,List.length_nil,Nat.reduceAdd,Nat.reduceSub,Array.replicate_succ,Array.replicate_zero,List.push_toArray,List.append_toArray,List.nil_append,List.cons_append]
 have hW0:SeqBox W bp bs bv s:=hw.keep ⟨hW.block _ hlt.1,hW.block _ hlt.2.1,hW.block _ hlt.2.2⟩
 have c1:=hW0.p
 have c2:=hW0.s
 have c3:=hW0.v
 gi_wp2
 gi_loopw [] (fun wr=>∃ j:Nat,j≤Ha 46 s∧SeqBox wr bp bs bv (mkT (Bi 46 s.data.toList j))∧J ((An 46 s).take j) wr) (fun wr=>Ag4 bs wr)
 case atStart =>
  exact⟨0,Nat.zero_le _,by rw[Bi,H6];exact hW0,h0⟩
 case round =>
  obtain ⟨j,hj,hb,hJj⟩:=hrel
  have d1:=hb.p
  have d2:=hb.s
  have d3:=hb.v
  have hlr:=Kh 46 s.data.toList j
  have hsz:s.data.toList.length=s.size:=rfl
  have hwl:=Ds 46 s
  have hsm:=Df (Bi 46 s.data.toList j)
  by_cases hlt:j<Ha 46 s
  ·have hi:=D1 (Ub hlt)
   obtain ⟨m,hm'⟩:∃ m:Nat,Lib.indexByte (Bi 46 s.data.toList j) 46=m:=⟨(Lib.indexByte (Bi 46 s.data.toList j) 46).toNat,by omega⟩
   have q:=Tryz.strings_Index_one (mkT (Bi 46 s.data.toList j)) 46 wr
   rw[Cf,hm']at q
   rw[hm',Int.toNat_natCast]at hi
   have hpm:=Zg (c:=46) (s:=s) (j:=j) hm'
   have hqm:=Ac6 (c:=46) (s:=s) (j:=j) hm'
   have hget:(An 46 s)[j]? = some (mkT (D6 46 s.data.toList j)):=by
    have hlt':j<s.data.toList.count 46:=hlt
    rw[An,List.getElem?_append_left (by rw[List.length_map,List.length_range];exact hlt'),List.getElem?_map,List.getElem?_range hlt']
    rfl
   have hx:(mkT (Bi 46 s.data.toList j)).extract 0 m=mkT (D6 46 s.data.toList j):=by
    rw[Ii,hpm];simp
   have hx2:(mkT (Bi 46 s.data.toList j)).extract (m+1) (mkT (Bi 46 s.data.toList j)).size=mkT (Bi 46 s.data.toList (j+1)):=by
    rw[Ii,hqm,hsm,List.take_length]
   have htk:(An 46 s).take j++[mkT ((Bi 46 s.data.toList j).take m)]=(An 46 s).take (j+1):=by
    rw[List.take_add_one,hget,hpm];rfl
   obtain ⟨fn,tmps,assign,body,hy,hR⟩:=hY _ (mkT ((Bi 46 s.data.toList j).take m)) wr hJj (by rw[List.length_take];omega)
   rw[htk]at hR
   gi_wp2
   refine⟨Y,?_⟩
   refine(callsIn_wide.2 q).mono ?_
   rintro e w' ⟨rfl,rfl⟩
   gi_wp2
   refine hR.mono ?_
   rintro e W' (⟨rfl,hJ',hk⟩ | ⟨rfl,hJx'⟩)
   ·have hb':=hb.keep hk
    have d1:=hb'.p
    have d2:=hb'.s
    have d3:=hb'.v
    have d4:=hb'.f
    have hsm1:(mkT (Bi 46 s.data.toList (j+1))).size+(m+1)=(mkT (Bi 46 s.data.toList j)).size:=by
     rw[hsm,Df,hqm,List.length_drop];omega
    rw[hsm]at hx2
    gi_wp2
    rw[← hqm]
    have e2:(W'.setCell ⟨bs,0,none⟩ (.string (mkT (Bi 46 s.data.toList (j+1))))).cell? ⟨bs,0,none⟩=some (.string (mkT (Bi 46 s.data.toList (j+1)))):=World.cell?_setCell_same' _ _ _ (by rw[d2];rfl)
    refine⟨⟨j+1,hlt,⟨?_,e2,?_,?_⟩,hJ _ _ _ (some bs) hJ' (grownBy_setCell' _ _ _) (fun r e=>by cases e;rfl)⟩,?_⟩
    ·rw[World.cell?_setCell_other _ _ _ _ (by intro e;cases e;exact hd.1 rfl)];exact d1
    ·rw[World.cell?_setCell_other _ _ _ _ (by intro e;cases e;exact hd.2 rfl)];exact d3
    ·rw[World.frozen?_setCell];exact d4
    ·unfold Ag4
     rw[e2,hb.s]
     simp only
     omega
   ·gi_wp2
    refine bodyPost_ret (results_none E _ _ _) E ?_
    exact⟨⟨_,E⟩,.inr ⟨_,List.take_prefix _ _,hJx'⟩⟩
  ·have hje:j=Ha 46 s:=by omega
   have hno:(46:UInt8)∉Bi 46 s.data.toList j:=by
    have:=Mv 46 s.data.toList j hj
    have e:Ha 46 s=s.data.toList.count 46:=rfl
    exact List.count_eq_zero.1 Go.Sy.q_
   have q:=Tryz.strings_Index_one (mkT (Bi 46 s.data.toList j)) 46 wr
   rw[Cf,Zz hno]at q
   have hget:(An 46 s)[j]? = some (mkT (Bi 46 s.data.toList j)):=by
    rw[hje,An,List.getElem?_append_right (by simp[Ha])]
    simp[Ha]
   have htk:(An 46 s).take j++[mkT (Bi 46 s.data.toList j)]=An 46 s:=by
    have:(An 46 s).take (j+1)=An 46 s:=List.take_of_length_le Go.Sy.q_
    rw[List.take_add_one,hget]at this
    exact this
   have hlen:((An 46 s).take j).length<(An 46 s).length:=by rw[List.length_take];omega
   clear hje
   obtain ⟨fn,tmps,assign,body,hy,hR⟩:=hY _ (mkT (Bi 46 s.data.toList j)) wr hJj hlen
   rw[htk]at hR
   gi_wp2
   refine⟨Y,?_⟩
   refine(callsIn_wide.2 q).mono ?_
   rintro e w' ⟨rfl,rfl⟩
   gi_wp2
   refine hR.mono ?_
   rintro e W' (⟨rfl,hJ',hk⟩ | ⟨rfl,hJx'⟩)
   ·gi_wp2
    go_end0
    exact⟨⟨_,E⟩,.inl ⟨_,E,hJ'⟩⟩
   ·gi_wp2
    go_end0
    exact⟨⟨_,E⟩,.inr ⟨_,List.prefix_rfl,hJx'⟩⟩
end Go.Proofs
namespace Go.Sy
open Go.ChangeShapes Go.WideShapes Go.ChangeAt Go.RowKit
def κ0:Ka:=⟨fun _=>.new,fun _=>False⟩
theorem inv0 (w:World):Inv κ0 w :=
 ⟨fun i j b h=>(by cases h),fun k b h=>(by cases h),fun k b h=>(by cases h),fun b h=>False.elim h⟩
theorem Qe {w w':World} {κ':Ka} (c:Ctx ⟨w,κ0,[]⟩ κ' w'):Below w.heap.size w w' :=
 ⟨c.os,c.tape,c.output,c.size,fun k hk=>c.old k hk (fun j h=>by cases h)⟩
section
variable {H:Type} {enc:TypeId × Value→H} {P:Program}
theorem Ly {W W':World} (hl:laidOutB P=true) (hb:Below W.heap.size W W'):∀ {ts:List TypeId} {vs:List Value} {ds:List (DataW H)} {ps:List MemPlace},(∀ t∈ts,P.readableRec t=true∧t<P.types.size) →
  (∀ x∈ps,x.block<W.heap.size)→DataW.TrodAll enc P W 0 (fun _=>true) true ts vs ds ps→DataW.TrodAll enc P W' 0 (fun b=>decide (b<W.heap.size)) true ts vs ds ps
 | [],_,_,_,_,_,h=>by
  obtain ⟨rfl,rfl,rfl⟩:=trodAll_nil h
  rfl
 | t::ts,_,_,_,ht,hp,h=>by
  obtain ⟨v,vs,d,ds,p,q,rfl,rfl,rfl,h1,h2⟩:=trodAll_cons h
  have:=ht t y_
  exact⟨p,q,Below.trod hl this.1 this.2 h1 hb (fun x hx=>hp x (by simp[hx])),Ly hl hb (fun t h=>ht t (by simp[h])) (fun x hx=>hp x (by simp[hx])) h2,E⟩
theorem Ae0 {f:FuncId} {fn:Func} {s:ChangeSpec} {W:World} {args:Array Value} {ds gs:List (DataW H)} {before:List MemPlace} {tb:TypeId} {A:List SV} (hv:s.vars=[]) (hl:laidOutB P=true)
  (hW:DataW.Whole enc P fn.params.toList s.vars false W args.toList ds gs before) (hts:∀ t∈fn.params.toList,P.readableRec t=true∧t<P.types.size) (hrt:fn.resultTypes=#[tb]) (hbt:P.underlying tb=some .bool)
  (hfn:∀ gs:List (DataW H),gs=[]→s.fn H (ds++gs)={ results:=[.lit (.bool true)],args:=ds }) (hA:RdL κ0 W A args.toList) (hs:Sy.Spec P f A [] (Ab true) []) :
  Calls P f args W fun e W'=>∃ v,e=.returned v∧s.post enc P fn false true false false W args v W':=by
 have hc:=hs κ0 W args.toList (inv0 W) (fun k hk=>absurd rfl hk) hA (fun p hp=>by cases hp)
 simp only[Array.toArray_toList]at hc
 refine hc.mono ?_
 rintro e W' ⟨v,κ',rfl,ctx,inv,hR,_⟩
 have hvv:v=.bool true:=by simpa [Ab,Rd] using hR
 subst hvv
 have hb:=Qe ctx
 have hW':=hW
 obtain ⟨p,q,h1,h2,h3,h4,h5⟩:=hW
 have hgs:gs=[]∧q=[]:=by
  rw[hv]at h2
  exact trodVars_none h2
 obtain ⟨rfl,rfl⟩:=hgs
 rw[List.append_nil]at h3
 subst h3
 have hlt:∀ x∈before,x.block<W.heap.size:=fun x hx=>by simpa using hW'.lt x hx
 refine⟨_,rfl,ds,[],before,[],before,[],hW',?_,?_,?_,?_,fun h=>by cases h⟩
 ·rw[hfn [] rfl,hrt]
  exact trodAll_mk1 (shut_bool hbt true)
 ·rw[hfn [] rfl]
  exact Ly hl hb hts hlt h1
 ·rw[hv,hfn [] rfl]
  rfl
 ·exact hb.frame _
end
end Go.Sy
namespace Go.Sy
open Go.RowKit
theorem Spec.calls {P:Program} {f:FuncId} {A:List SV} {R:SV} (h:Sy.Spec P f A [] R []) {w:World} {vs:List Value} (hA:RdL κ0 w A vs) :
  Calls P f vs.toArray w fun e w'=>∃ v κ',e=.returned v∧Rd κ' w' R v∧Below w.heap.size w w':=by
 refine(h κ0 w vs (inv0 w) (fun k hk=>absurd rfl hk) hA (fun p hp=>by cases hp)).mono ?_
 rintro e w' ⟨v,κ',rfl,ctx,inv,hR,_⟩
 exact⟨v,κ',E,hR,Qe ctx⟩
theorem Spec.calls_tup2 {P:Program} {f:FuncId} {A:List SV} {a b:Value} (h:Sy.Spec P f A [] (.tup [.val a,.val b]) []) {w:World} {vs:List Value} (hA:RdL κ0 w A vs) :
  Calls P f vs.toArray w fun e w'=>e=.returned (.tuple #[a,b])∧Below w.heap.size w w' :=
 (h.calls hA).mono fun e w' ⟨v,κ',he,hv,hb⟩=>by
  simp only[Rd,RdL]at hv
  obtain ⟨cs,rfl,_,_,rfl,rfl,_,_,rfl,rfl,rfl⟩:=hv
  exact⟨he,hb⟩
theorem Spec.of_calls2 {P:Program} {f:FuncId} {A:List SV} {H:Obs} {a b:Value}
  (h:∀ (κ:Ka) (w:World) (vs:List Value),Inv κ w→RdL κ w A vs→H.ok κ w→Calls P f vs.toArray w fun e w'=>e=.returned (.tuple #[a,b])∧Below w.heap.size w w'):Spec P f A H (.tup [.val a,.val b]) H:=by
 intro κ w vs hi _ hr ho
 refine(h κ w vs hi hr ho).mono fun e w' hw=>?_
 obtain ⟨he,hw⟩:=hw
 have g:Grew w w':=⟨hw.os,hw.tape,hw.output,hw.size,hw.block⟩
 have st:=We hi g
 exact⟨.tuple #[a,b],κ,he,(Ctx.refl κ w).step st.2 st.1,st.2,by simp[Rd,RdL],fun p hp=>ObOK.step st.1 y_ p.2 (ho p hp)⟩
theorem Ut {w w':World} (h:Below w.heap.size w w'):KeepsOthers w w':=⟨h.size,fun k o hk _=>(h.block k (Array.getElem?_eq_some_iff.1 hk).1).trans hk⟩
theorem Vb {A B:World} {row:Option Nat} {k:Nat} {v:Value} (h:A.cell? ⟨k,0,none⟩=some v) (hg:A.grownBy B row) (hr:row≠some k):B.cell? ⟨k,0,none⟩=some v∧B.frozen? ⟨k,0,none⟩=A.frozen? ⟨k,0,none⟩:=by
 obtain ⟨o,ho,_⟩:=cells_of_cell h
 obtain ⟨_,_,_,_,h5⟩:=hg
 have e:B.heap[k]? = A.heap[k]?:=h5 k (Array.getElem?_eq_some_iff.1 ho).1 (fun e=>hr e.symm)
 refine⟨(World.cell?_of_block e).trans h,?_⟩
 unfold World.frozen?
 rw[e]
def Var1 (W:World) (k:Nat) (v:Value):Prop:=W.cell? ⟨k,0,none⟩=some v∧W.frozen? ⟨k,0,none⟩=false
theorem Var1.at {W:World} {B:Nat} {v:Value} {t:TypeId} (h:W.heap[B]? = some (.cells #[v] t (0,0))):Var1 W B v:=by
 constructor<;>simp[World.cell?,World.frozen?,h]
theorem Var1.below {A B:World} {k:Nat} {v:Value} (h:Var1 A k v) (hb:Below A.heap.size A B):Var1 B k v:=by
 obtain ⟨o,ho,_⟩:=cells_of_cell h.1
 have e:B.heap[k]? = A.heap[k]?:=hb.block k (Array.getElem?_eq_some_iff.1 ho).1
 refine⟨(World.cell?_of_block e).trans h.1,?_⟩
 rw[← h.2]
 unfold World.frozen?
 rw[e]
theorem Var1.new (W:World) (v:Value) (t:TypeId) {k:Nat} (hk:k=W.heap.size):Var1 (W.alloc (.cells #[v] t)) k v:=by
 subst hk
 exact Var1.at (World.alloc_heap_new W _)
theorem Var1.grown {A B:World} {row:Option Nat} {k:Nat} {v:Value} (h:Var1 A k v) (hg:A.grownBy B row) (hr:row≠some k):Var1 B k v :=
 ⟨(Vb h.1 hg hr).1,(Vb h.1 hg hr).2.trans h.2⟩
theorem Var1.alloc {A:World} {k:Nat} {v:Value} (h:Var1 A k v) (o:Obj):Var1 (A.alloc o) k v:=h.grown (World.grownBy_alloc A o none) y_
theorem Var1.set {A:World} {k:Nat} {v:Value} (h:Var1 A k v) (u:Value):Var1 (A.setCell ⟨k,0,none⟩ u) k u :=
 ⟨World.cell?_setCell_same' _ _ _ (by rw[h.1];rfl),by rw[World.frozen?_setCell];exact h.2⟩
theorem Var1.other {A:World} {k b:Nat} {v:Value} (h:Var1 A k v) (hb:b≠k) (u:Value):Var1 (A.setCell ⟨b,0,none⟩ u) k v :=
 ⟨(World.cell?_setCell_other _ _ _ _ (by intro e;cases e;exact hb rfl)).trans h.1,by rw[World.frozen?_setCell];exact h.2⟩
end Go.Sy
namespace Go.Proofs
open Go.RowKit Go.Shelf Go.Sy Go.Sy.YtjenpnjajjplkaaGreatDoor
attribute [local go_sem] Oper.semAt_some
theorem Tryz.splitSeq_calls (s:ByteArray) (w:World):Calls Tryz.prog 303 #[.string s,.string ⟨#[46]⟩] w fun e w' =>
  e=.returned (.func (.func 423) #[] #[.pointer (some ⟨w.heap.size+1,0,none⟩),.pointer (some ⟨w.heap.size,0,none⟩),.pointer (some ⟨w.heap.size+2,0,none⟩)]) ∧
   w'=((w.alloc (.cells #[.string s] 9)).alloc (.cells #[.string ⟨#[46]⟩] 9)).alloc (.cells #[.int .i64 0] 3):=by
 have q:Calls Tryz.prog 367 #[.string s,.string ⟨#[46]⟩,.int .i64 0] w fun e w' =>
  e=.returned (.func (.func 423) #[] #[.pointer (some ⟨w.heap.size+1,0,none⟩),.pointer (some ⟨w.heap.size,0,none⟩),.pointer (some ⟨w.heap.size+2,0,none⟩)]) ∧
   w'=((w.alloc (.cells #[.string s] 9)).alloc (.cells #[.string ⟨#[46]⟩] 9)).alloc (.cells #[.int .i64 0] 3):=by
  refine(callsIn_wide (n:=3)).1 ?_
  refine callsIn_of_wp Tryz.func367 E Y ?_ E
  simp only[Tryz.ntmps367,List.size_toArray,List.length_cons,List.length_nil,Nat.reduceAdd,Nat.reduceSub,Array.replicate_succ,Array.replicate_zero,List.push_toArray,List.append_toArray,List.nil_append,List.cons_append]
  gi_wp2
  go_ret
  exact⟨E,E⟩
 refine(callsIn_wide (n:=3)).1 ?_
 refine callsIn_of_wp Tryz.func303 E Y ?_ E
 simp only[Tryz.ntmps303,List.size_toArray,List.length_cons,List.length_nil,Nat.reduceAdd,Nat.reduceSub,Array.replicate_succ,Array.replicate_zero,List.push_toArray,List.append_toArray,List.nil_append,List.cons_append]
 gi_wp2
 refine⟨Y,?_⟩
 refine(callsIn_wide.2 q).mono ?_
 rintro e w' ⟨rfl,rfl⟩
 gi_wp2
 go_ret
 exact⟨E,E⟩
def Mi:List ByteArray→Int
 | []=>0
 | l=>l.foldl (fun a x=>bits .or .u32 (IntKind.u32.wrap (a * 2 ^ 8)) (IntKind.u32.wrap (smallT x 255).1)) 0
def Zi (x:ByteArray):Bool:=(smallT x 255).2
def Bv (s:ByteArray):Int × Bool:=if (An 46 s).length=4∧(An 46 s).all Zi=true then (Mi (An 46 s),true) else (0,false)
theorem My (l:List ByteArray) (x:ByteArray):Mi (l++[x])=bits .or .u32 (IntKind.u32.wrap (Mi l * 2 ^ 8)) (IntKind.u32.wrap (smallT x 255).1):=by
 cases l with
 | nil=>rfl
 | cons y l=>simp[Mi]
set_option maxRecDepth 100000 in
set_option maxHeartbeats 4000000 in
theorem Tryz.addrRead_calls (s:ByteArray) (hs:s.size<100000) (w:World):Calls Tryz.prog 237 #[.string s] w fun e w'=>e=.returned (.tuple #[.int .u32 (Bv s).1,.bool (Bv s).2])∧Below w.heap.size w w':=by
 refine(callsIn_wide (n:=5)).1 ?_
 refine callsIn_of_wp_marks Tryz.func237 E Y ?_ E
 simp only[Tryz.ntmps237,List.size_toArray,List.length_cons,List.length_nil,Nat.reduceAdd,Nat.reduceSub,Array.replicate_succ,Array.replicate_zero,List.push_toArray,List.append_toArray,List.nil_append,List.cons_append]
 gi_wp2
 refine wpIn_wide.2 (wp_scope_straight ((wpIn_wide (n:=5)).1 ?_))
 gi_wp2
 refine wpIn_label ?_
 gi_wp2
 refine⟨Y,?_⟩
 refine(callsIn_wide.2 (Tryz.splitSeq_calls s _)).mono ?_
 rintro e w' ⟨rfl,rfl⟩
 gi_wp2
 obtain ⟨W0,hW0⟩:∃ W0,((((w.alloc (.cells #[.int .u32 0] 62)).alloc (.cells #[.int .i64 0] 3)).alloc (.cells #[.string s] 9)).alloc (.cells #[.string ⟨#[46]⟩] 9)).alloc (.cells #[.int .i64 0] 3)=W0:=⟨_,rfl⟩
 have hsz:W0.heap.size=w.heap.size+5:=by rw[← hW0];simp
 have hB0:Below w.heap.size w W0:=by
  rw[← hW0]
  exact(((((Below.refl _ w).alloc (Nat.le_refl _) _).alloc Go.Sy.y_ _).alloc (by simp;omega) _).alloc (by simp;omega) _).alloc (by simp;omega) _
 have ca:Var1 W0 w.heap.size (.int .u32 0):=by rw[← hW0];exact((((Var1.new _ _ _ rfl).alloc _).alloc _).alloc _).alloc _
 have ci:Var1 W0 (w.heap.size+1) (.int .i64 0):=by rw[← hW0];exact(((Var1.new (w.alloc _) _ _ Go.Sy.y_).alloc _).alloc _).alloc _
 have cs:Var1 W0 (w.heap.size+2) (.string s):=by rw[← hW0];exact((Var1.new ((w.alloc _).alloc _) _ _ Go.Sy.y_).alloc _).alloc _
 have cp:Var1 W0 (w.heap.size+3) (.string ⟨#[46]⟩):=by rw[← hW0];exact(Var1.new (((w.alloc _).alloc _).alloc _) _ _ Go.Sy.y_).alloc _
 have cv:Var1 W0 (w.heap.size+4) (.int .i64 0):=by rw[← hW0];exact Var1.new ((((w.alloc _).alloc _).alloc _).alloc _) _ _ Go.Sy.y_
 have cb:SeqBox W0 (w.heap.size+3) (w.heap.size+2) (w.heap.size+4) s:=⟨cp.1,cs.1,cv.1,cs.2⟩
 rw[hW0]
 clear hW0
 have hrow:∀ {k:Nat} {W:World} {row:Option Nat},k≤w.heap.size+1→(∀ r,row=some r→r=w.heap.size+2∨(W0.heap.size≤r∧∃ o:Obj,W.heap[r]? = some o∧o.isCells=false))→row≠some k:=fun hk hr e=>by
  rcases hr _ e with h | ⟨h,_⟩<;>omega
 have hge:∀ {W:World} {row:Option Nat},(∀ r,row=some r→r=w.heap.size+2∨(W0.heap.size≤r∧∃ o:Obj,W.heap[r]? = some o∧o.isCells=false))→∀ r,row=some r→w.heap.size≤r:=fun hr r e=>by
  rcases hr _ e with h | ⟨h,_⟩<;>omega
 refine Lm E Go.Sy.q_ (gf:=423) (lb:=#[.pointer (some ⟨w.heap.size+3,0,none⟩),.pointer (some ⟨w.heap.size+2,0,none⟩),.pointer (some ⟨w.heap.size+4,0,none⟩)]) E Y (enters_of Tryz.func423 Go.Sy.z_ E)
  (Tryz.split_stops s hs 4 Go.Sy.q_ (w.heap.size+3) (w.heap.size+2) (w.heap.size+4) ⟨by omega,by omega⟩ W0 cb Go.Sy.q_) (fun b hb=>by omega)
  (fun h k=>⟨k.1.trans h.1,k.2.1.trans h.2.1,k.2.2.trans h.2.2⟩)
  (fun W l o o' hl _ _ _=>⟨World.putObj_heap_other Go.Sy.q_,World.putObj_heap_other Go.Sy.q_,World.putObj_heap_other Go.Sy.q_⟩) (Below.refl _ _) (fun _=>rfl)
  (fun pre W=>Var1 W w.heap.size (.int .u32 (Mi pre))∧Var1 W (w.heap.size+1) (.int .i64 pre.length)∧(pre.length≤4∧pre.all Zi=true)∧Below w.heap.size w W∧w.heap.size+5≤W.heap.size)
  (fun c pre W=>c=.exit 0∧Var1 W (w.heap.size+1) (.int .i64 0)∧¬ (pre.length≤4∧pre.all Zi=true)∧Below w.heap.size w W)
  (fun pre A B row hs hg hr=>⟨hs.1.grown hg (hrow Go.Sy.q_ hr),hs.2.1.grown hg (hrow Go.Sy.q_ hr),hs.2.2.1,hs.2.2.2.1.grown hg hs.2.2.2.1.size (hge hr),Nat.le_trans hs.2.2.2.2 hg.size⟩)
  (fun c pre A B row hs hg hr=>⟨hs.1,hs.2.1.grown hg (hrow Go.Sy.q_ hr),hs.2.2.1,hs.2.2.2.grown hg hs.2.2.2.size (hge hr)⟩)
  ⟨ca,ci,⟨by simp,rfl⟩,hB0,by omega⟩
  (fun x=>{ tmps:=#[.string s,undef,.int .u32 0,.bool false,.pointer (some ⟨w.heap.size,0,none⟩),.pointer (some ⟨w.heap.size+1,0,none⟩),.string x,undef,undef,.string s,
   .func (.func 423) #[] #[.pointer (some ⟨w.heap.size+3,0,none⟩),.pointer (some ⟨w.heap.size+2,0,none⟩),.pointer (some ⟨w.heap.size+4,0,none⟩)],.string x,
   undef,undef,undef,undef,undef,undef,undef,undef,undef,undef,undef,undef,undef,undef,undef,undef,undef,undef,undef,undef,undef],defers:=[] }) ?assign ?body ?done ?stop
 case assign =>
  intro l x W K hK
  gi_wp2
  exact hK
 case body =>
  rintro l pre x W ⟨ha,hi,⟨hp1,hp2⟩,hB,hB5⟩ _
  have q:=(Acz x 255).calls_tup2 (w:=W) (vs:=[.string x,.int .i64 255]) (by simp only[RdL];exact⟨_,_,rfl,by simp[Rd,Ak],_,_,rfl,by simp[Rd,Aa],rfl⟩)
  have hsn:=My pre x
  have hal:((pre++[x]).all Zi)=Zi x:=by rw[List.all_append,hp2];simp
  have hll:(pre++[x]).length=pre.length+1:=by simp
  have hox:Zi x=(smallT x 255).2:=rfl
  generalize smallT x 255=sm at *
  obtain ⟨v,ok⟩:=sm
  dsimp only at hsn hox q
  gi_wp2
  refine⟨Y,?_⟩
  refine(CallsIn.inRound l (callsIn_wide.2 q)).mono ?_
  rintro e w' ⟨rfl,hb⟩
  have ha':=ha.below hb
  have hi':=hi.below hb
  have hB':Below w.heap.size w w':=hB.trans (hb.mono hB.size)
  have hk1:=Ut hb
  have a1:=ha'.1
  have a2:=ha'.2
  have b1:=hi'.1
  have b2:=hi'.2
  have s1:∀ (u v:Value),Below w.heap.size w ((w'.setCell ⟨w.heap.size+1,0,none⟩ u).setCell ⟨w.heap.size+1,0,none⟩ v):=fun u v =>
   (hB'.setCell (p:=⟨w.heap.size+1,0,none⟩) (Nat.le_succ _) u).setCell (p:=⟨w.heap.size+1,0,none⟩) (Nat.le_succ _) v
  cases ok
  ·gi_wp2
   exact⟨hk1.trans ((KeepsOthers.setCell _ _ _).trans (KeepsOthers.setCell _ _ _)),rfl,(hi'.set _).set _,(fun e=>by rw[hal,hox]at e;cases e.2),s1 _ _⟩
  ·by_cases h4:pre.length+1≤4
   ·have hsn':Mi (pre++[x])=bits .or .u32 (Mi pre * 256 % 4294967296) (v % 4294967296):=by rw[hsn,IntKind.wrap_u32,IntKind.wrap_u32];rfl
    gi_wp2
    refine⟨hk1.trans ((KeepsOthers.setCell _ _ _).trans (KeepsOthers.setCell _ _ _)),⟨?_,?_,?_⟩,?_,?_,⟨by omega,by rw[hal,hox]⟩,?_,?_⟩
    ·rw[Below.heap_setCell _ _ _ _ Go.Sy.y_,Below.heap_setCell _ _ _ _ Go.Sy.y_]
     exact hb.block _ Go.Sy.q_
    ·rw[Below.heap_setCell _ _ _ _ Go.Sy.y_,Below.heap_setCell _ _ _ _ Go.Sy.y_]
     exact hb.block _ Go.Sy.q_
    ·rw[Below.heap_setCell _ _ _ _ Go.Sy.y_,Below.heap_setCell _ _ _ _ Go.Sy.y_]
     exact hb.block _ Go.Sy.q_
    ·rw[hsn']
     exact(ha'.other Go.Sy.y_ _).set _
    ·rw[hll]
     exact(hi'.set _).other Go.Sy.y_ _
    ·exact(hB'.setCell (p:=⟨w.heap.size+1,0,none⟩) (Nat.le_succ _) _).setCell (p:=⟨w.heap.size,0,none⟩) (Nat.le_refl _) _
    ·have:=hb.size
     simp
     omega
   ·gi_wp2
    exact⟨hk1.trans ((KeepsOthers.setCell _ _ _).trans (KeepsOthers.setCell _ _ _)),E,(hi'.set _).set _,fun e=>by omega,s1 _ _⟩
 case done =>
  rintro D xs W hD rfl ⟨ha,hi,⟨hp1,hp2⟩,hB,_⟩ hK
  have a1:=ha.1
  have a2:=ha.2
  have b1:=hi.1
  have b2:=hi.2
  by_cases h4:(An 46 s).length=4
  ·have hr:Bv s=(Mi (An 46 s),true):=by rw[Bv,if_pos ⟨h4,hp2⟩]
   gi_wp2
   refine⟨by simp,.inl ⟨_,_,E,run_takeDeferred hK,?_⟩⟩
   exact⟨_,results_tmp2 E _ _ _,by rw[hr];rfl,hB.trans (belowK_b (w:=w) (Nat.le_refl _) W D _ _ Go.Sy.q_ hK E E)⟩
  ·have hr:Bv s=(0,false):=by rw[Bv,if_neg (fun e=>h4 e.1)]
   gi_wp2
   refine⟨by simp,.inl ⟨_,_,E,run_takeDeferred hK,?_⟩⟩
   exact⟨_,results_tmp2 E _ _ _,by rw[hr];rfl,hB.trans (belowK_b (w:=w) (Nat.le_refl _) W D _ _ Go.Sy.q_ hK E E)⟩
 case stop =>
  rintro D c pre W hD hpre ⟨rfl,hi,hbad,hB⟩ hK
  have b1:=hi.1
  have b2:=hi.2
  have hr:Bv s=(0,false):=by
   rw[Bv,if_neg]
   intro e
   refine hbad ⟨by have:=hpre.length_le;omega,?_⟩
   rw[List.all_eq_true]at e ⊢
   exact fun x hx=>e.2 x (hpre.subset hx)
  gi_wp2
  refine⟨by simp,.inl ⟨_,_,E,run_takeDeferred hK,?_⟩⟩
  exact⟨_,results_tmp2 E _ _ _,by rw[hr];rfl,hB.trans (belowK_b (w:=w) (Nat.le_refl _) W D _ _ Go.Sy.q_ hK E E)⟩
end Go.Proofs
namespace Go.Sy.YtjenpnjajjplkaaGreatDoor
open Go.Proofs
theorem Lk (s:ByteArray) (hs:s.size<100000):Sy.Spec Tryz.prog 237 [Ak s] [] (.tup [A5 (Bv s).1,Ab (Bv s).2]) [] :=
 Spec.of_calls2 fun κ w vs _ hr _=>by
  simp only[RdL]at hr
  obtain ⟨v,r,rfl,hv,rfl⟩:=hr
  simp only[Ak,Rd]at hv
  subst hv
  exact Tryz.addrRead_calls s hs w
end Go.Sy.YtjenpnjajjplkaaGreatDoor
namespace Go.Sy.YtjenpnjajjplkaaGreatDoor
def B2 (a bits:Int):Int:=if 0≤bits∧bits≤32 then a-a % 2 ^ (32-bits).toNat else 0
end Go.Sy.YtjenpnjajjplkaaGreatDoor
namespace Go.Sy.YtjenpnjajjplkaaGreatDoor
open Go.Proofs
attribute [local irreducible] Go.Sy.G Go.Sy.DR
set_option maxRecDepth 100000
set_option maxHeartbeats 4000000
def I4 (a bits:Int):SV:=.agg [A5 a,Aa bits]
theorem Vg (a bits:Int):Sy.Spec Tryz.prog 370 [I4 a bits] [] (Ab (decide (0≤bits∧bits≤32))) []:=cT F370 Tryz.ntmps370 fun F hF=>by
 conv=>whnf
 (repeat' (first | (refine⟨fun h=>?_,fun h=>?_⟩<;>(repeat (first | simp only[decide_eq_true_eq]at h | simp only[decide_eq_false_iff_not]at h))<;>((refine oO ?_))) | (refine At rfl (.cons .tmp .nil) ?_ rfl)))
 all_goals (refine congrArg Ab ?_;clear hF;grind)
theorem Xa (a bits:Int) (h:0≤bits∧bits≤32):Sy.Spec Tryz.prog 371 [I4 a bits] [] (A5 (2 ^ (32-bits).toNat-1)) []:=cT F371 Tryz.ntmps371 fun F hF=>by
 conv=>whnf
 refine iW ?_
 refine⟨by omega,?_⟩
 conv=>whnf
 refine At E (.cons .tmp .nil) ?_ E
 refine congrArg (fun z=>SV.val (.int .u32 z)) ?_
 obtain ⟨k,hk,hk2⟩:∃ k:Nat,(32-bits).toNat=k∧k≤32:=⟨_,rfl,by omega⟩
 have h1:min (32-bits).toNat IntKind.u32.bits=k:=by show min (32-bits).toNat 32=k;omega
 rw[h1,hk,IntKind.wrap_u32,IntKind.wrap_u32]
 have h2:(2:Int) ^ k≤4294967296:=by
  have:=Nat.pow_le_pow_right (n:=2) j_ hk2
  rw[show (2:Int) ^ k=((2 ^ k:Nat):Int) by rw[Int.natCast_pow];rfl]
  have e:(2:Nat) ^ 32=4294967296:=rfl
  rw[e]at this
  omega
 have h0:(1:Int)≤2 ^ k:=by
  have:=Nat.one_le_two_pow (n:=k)
  rw[show (2:Int) ^ k=((2 ^ k:Nat):Int) by rw[Int.natCast_pow];rfl]
  omega
 generalize (2:Int) ^ k=q at *
 omega
theorem Vf (a k:Nat) (ha:a<4294967296) (hk:k≤32):bits .andNot .u32 (a:Int) ((2 ^ k-1:Nat):Int)=((a-a % 2 ^ k:Nat):Int):=by
 have hp:=Nat.pow_le_pow_right (n:=2) j_ hk
 have e32:(2:Nat) ^ 32=4294967296:=rfl
 rw[e32]at hp
 have h1:=Nat.one_le_two_pow (n:=k)
 have x1:(BitVec.ofInt 32 (a:Int)).toNat=a:=by rw[BitVec.ofInt_natCast,BitVec.toNat_ofNat];exact Nat.mod_eq_of_lt q_
 have x2:(BitVec.ofInt 32 ((2 ^ k-1:Nat):Int)).toNat=2 ^ k-1:=by rw[BitVec.ofInt_natCast,BitVec.toNat_ofNat];exact Nat.mod_eq_of_lt q_
 have key:(BitVec.ofInt 32 (a:Int) &&& ~~~ BitVec.ofInt 32 ((2 ^ k-1:Nat):Int)).toNat=a-a % 2 ^ k:=by
  have hd:a-a % 2 ^ k=2 ^ k * (a / 2 ^ k):=by have:=Nat.div_add_mod a (2 ^ k);omega
  rw[hd]
  refine Nat.eq_of_testBit_eq fun i=>?_
  rw[BitVec.testBit_toNat,BitVec.getLsbD_and,BitVec.getLsbD_not,← BitVec.testBit_toNat,← BitVec.testBit_toNat,x1,x2,Nat.testBit_two_pow_sub_one,Nat.testBit_two_pow_mul,Nat.testBit_div_two_pow]
  by_cases hi:i<k
  ·have:¬ i≥k:=by omega
   simp[hi,this]
  ·have h2:i≥k:=by omega
   have h3:i-k+k=i:=by omega
   by_cases h4:i<32
   ·simp[hi,h2,h4,h3]
   ·have h5:a.testBit i=false:=Nat.testBit_lt_two_pow (Nat.lt_of_lt_of_le (by rw[← e32]at ha;exact ha) (Nat.pow_le_pow_right j_ q_))
    rw[h3,h5]
    simp
 show IntKind.u32.wrap (((BitVec.ofInt 32 (a:Int) &&& ~~~ BitVec.ofInt 32 ((2 ^ k-1:Nat):Int)).toNat:Nat):Int)=_
 rw[key,IntKind.wrap_u32]
 omega
theorem Ep (a k:Nat) (bits:Int) (h:0≤bits∧bits≤32) (hk:(32-bits).toNat=k):B2 a bits=((a-a % 2 ^ k:Nat):Int):=by
 rw[B2,if_pos h,hk]
 have h1:=Nat.mod_le a (2 ^ k)
 rw[show (2:Int) ^ k=((2 ^ k:Nat):Int) by rw[Int.natCast_pow];rfl]
 omega
theorem Vi (a:Nat) (bits:Int) (ha:a<4294967296):Sy.Spec Tryz.prog 307 [I4 a bits] [] (A5 (B2 a bits)) []:=cT F307 Tryz.ntmps307 fun F hF=>by
 have hr:=Vg a bits
 by_cases hb:0≤bits∧bits≤32
 ·have hrest:=Xa a bits hb
  rw[decide_eq_true hb]at hr
  obtain ⟨k,hk,hk2⟩:∃ k:Nat,(32-bits).toNat=k∧k≤32:=⟨_,rfl,by omega⟩
  have hn:=Vf a k ha hk2
  have hf:=Ep a k bits hb hk
  have h1:=Nat.one_le_two_pow (n:=k)
  have e2:(2:Int) ^ k-1=((2 ^ k-1:Nat):Int):=by
   rw[show (2:Int) ^ k=((2 ^ k:Nat):Int) by rw[Int.natCast_pow];rfl]
   omega
  rw[hk,e2]at hrest
  rw[hf,← hn]
  ((conv=>whnf);repeat((first|refine aF ?_|refine aT ?_);(first|refine rG Γ hm ?_|refine rD Γ hm z_ ?_);conv=>whnf))
  refine c0 hr F370 ?_
  ((first|refine rG Γ hm ?_|refine rD Γ hm z_ ?_);(conv=>whnf);repeat((first|refine aF ?_|refine aT ?_);(first|refine rG Γ hm ?_|refine rD Γ hm z_ ?_);conv=>whnf))
  first | refine cD hrest F371 ?_ | refine c0 hrest F371 ?_
  ((first|refine rG Γ hm ?_|refine rD Γ hm z_ ?_);(conv=>whnf);repeat((first|refine aF ?_|refine aT ?_);(first|refine rG Γ hm ?_|refine rD Γ hm z_ ?_);conv=>whnf))
  first | (refine⟨z_,?_⟩;((conv=>whnf);repeat((first|refine aF ?_|refine aT ?_);(first|refine rG Γ hm ?_|refine rD Γ hm z_ ?_);conv=>whnf))) | skip
  exact dN
 ·rw[decide_eq_false hb]at hr
  have hf:B2 a bits=0:=by rw[B2,if_neg hb]
  rw[hf]
  ((conv=>whnf);repeat((first|refine aF ?_|refine aT ?_);(first|refine rG Γ hm ?_|refine rD Γ hm z_ ?_);conv=>whnf))
  refine c0 hr F370 ?_
  ((first|refine rG Γ hm ?_|refine rD Γ hm z_ ?_);(conv=>whnf);repeat((first|refine aF ?_|refine aT ?_);(first|refine rG Γ hm ?_|refine rD Γ hm z_ ?_);conv=>whnf))
  exact dN
def Cy (a bits:Int):Int:=if 0≤bits∧bits≤32 then B2 a bits+2 ^ (32-bits).toNat-1 else 0
theorem or_low (a k:Nat) (ha:a<4294967296) (hk:k≤32):bits .or .u32 (a:Int) ((2 ^ k-1:Nat):Int)=((a-a % 2 ^ k+(2 ^ k-1):Nat):Int):=by
 have hp:=Nat.pow_le_pow_right (n:=2) j_ hk
 have e32:(2:Nat) ^ 32=4294967296:=rfl
 rw[e32]at hp
 have h1:=Nat.one_le_two_pow (n:=k)
 have x1:(BitVec.ofInt 32 (a:Int)).toNat=a:=by rw[BitVec.ofInt_natCast,BitVec.toNat_ofNat];exact Nat.mod_eq_of_lt q_
 have x2:(BitVec.ofInt 32 ((2 ^ k-1:Nat):Int)).toNat=2 ^ k-1:=by rw[BitVec.ofInt_natCast,BitVec.toNat_ofNat];exact Nat.mod_eq_of_lt q_
 have hd:a-a % 2 ^ k=2 ^ k * (a / 2 ^ k):=by have:=Nat.div_add_mod a (2 ^ k);omega
 have hsum:=Nat.two_pow_add_eq_or_of_lt (i:=k) (b:=2 ^ k-1) q_ (a / 2 ^ k)
 have key:(BitVec.ofInt 32 (a:Int) ||| BitVec.ofInt 32 ((2 ^ k-1:Nat):Int)).toNat=a-a % 2 ^ k+(2 ^ k-1):=by
  rw[hd,hsum]
  refine Nat.eq_of_testBit_eq fun i=>?_
  rw[BitVec.testBit_toNat,BitVec.getLsbD_or,← BitVec.testBit_toNat,← BitVec.testBit_toNat,x1,x2,Nat.testBit_or,Nat.testBit_two_pow_sub_one,Nat.testBit_two_pow_mul,Nat.testBit_div_two_pow]
  by_cases hi:i<k
  ·simp[hi]
  ·have h2:i≥k:=by omega
   have h3:i-k+k=i:=by omega
   simp[hi,h2,h3]
 show IntKind.u32.wrap (((BitVec.ofInt 32 (a:Int) ||| BitVec.ofInt 32 ((2 ^ k-1:Nat):Int)).toNat:Nat):Int)=_
 have hlt:(BitVec.ofInt 32 (a:Int) ||| BitVec.ofInt 32 ((2 ^ k-1:Nat):Int)).toNat<4294967296:=BitVec.isLt _
 rw[key]at hlt
 rw[key,IntKind.wrap_u32]
 omega
theorem Q1 (a k:Nat) (bits:Int) (h:0≤bits∧bits≤32) (hk:(32-bits).toNat=k):Cy a bits=((a-a % 2 ^ k+(2 ^ k-1):Nat):Int):=by
 rw[Cy,if_pos h,hk,Ep a k bits h hk]
 have h1:=Nat.one_le_two_pow (n:=k)
 rw[show (2:Int) ^ k=((2 ^ k:Nat):Int) by rw[Int.natCast_pow];rfl]
 omega
theorem Sd (a:Nat) (bits:Int) (ha:a<4294967296):Sy.Spec Tryz.prog 308 [I4 a bits] [] (A5 (Cy a bits)) []:=cT F308 Tryz.ntmps308 fun F hF=>by
 have hr:=Vg a bits
 by_cases hb:0≤bits∧bits≤32
 ·have hrest:=Xa a bits hb
  rw[decide_eq_true hb]at hr
  obtain ⟨k,hk,hk2⟩:∃ k:Nat,(32-bits).toNat=k∧k≤32:=⟨_,rfl,by omega⟩
  have hn:=or_low a k ha hk2
  have hf:=Q1 a k bits hb hk
  have h1:=Nat.one_le_two_pow (n:=k)
  have e2:(2:Int) ^ k-1=((2 ^ k-1:Nat):Int):=by
   rw[show (2:Int) ^ k=((2 ^ k:Nat):Int) by rw[Int.natCast_pow];rfl]
   omega
  rw[hk,e2]at hrest
  rw[hf,← hn]
  ((conv=>whnf);repeat((first|refine aF ?_|refine aT ?_);(first|refine rG Γ hm ?_|refine rD Γ hm z_ ?_);conv=>whnf))
  refine c0 hr F370 ?_
  ((first|refine rG Γ hm ?_|refine rD Γ hm z_ ?_);(conv=>whnf);repeat((first|refine aF ?_|refine aT ?_);(first|refine rG Γ hm ?_|refine rD Γ hm z_ ?_);conv=>whnf))
  first | refine cD hrest F371 ?_ | refine c0 hrest F371 ?_
  ((first|refine rG Γ hm ?_|refine rD Γ hm z_ ?_);(conv=>whnf);repeat((first|refine aF ?_|refine aT ?_);(first|refine rG Γ hm ?_|refine rD Γ hm z_ ?_);conv=>whnf))
  first | (refine⟨z_,?_⟩;((conv=>whnf);repeat((first|refine aF ?_|refine aT ?_);(first|refine rG Γ hm ?_|refine rD Γ hm z_ ?_);conv=>whnf))) | skip
  exact dN
 ·rw[decide_eq_false hb]at hr
  have hf:Cy a bits=0:=by rw[Cy,if_neg hb]
  rw[hf]
  ((conv=>whnf);repeat((first|refine aF ?_|refine aT ?_);(first|refine rG Γ hm ?_|refine rD Γ hm z_ ?_);conv=>whnf))
  refine c0 hr F370 ?_
  ((first|refine rG Γ hm ?_|refine rD Γ hm z_ ?_);(conv=>whnf);repeat((first|refine aF ?_|refine aT ?_);(first|refine rG Γ hm ?_|refine rD Γ hm z_ ?_);conv=>whnf))
  exact dN
theorem Aif (a b:Nat) (ha:a<4294967296) (hb:b<4294967296):bits .xor .u32 (a:Int) (b:Int)=((a ^^^ b:Nat):Int):=by
 have x1:(BitVec.ofInt 32 (a:Int)).toNat=a:=by rw[BitVec.ofInt_natCast,BitVec.toNat_ofNat];exact Nat.mod_eq_of_lt q_
 have x2:(BitVec.ofInt 32 (b:Int)).toNat=b:=by rw[BitVec.ofInt_natCast,BitVec.toNat_ofNat];exact Nat.mod_eq_of_lt q_
 show IntKind.u32.wrap (((BitVec.ofInt 32 (a:Int) ^^^ BitVec.ofInt 32 (b:Int)).toNat:Nat):Int)=_
 have hlt:(BitVec.ofInt 32 (a:Int) ^^^ BitVec.ofInt 32 (b:Int)).toNat<4294967296:=BitVec.isLt _
 rw[BitVec.toNat_xor,x1,x2]at hlt ⊢
 rw[IntKind.wrap_u32]
 omega
theorem Agx (a x k:Nat) (ha:a<4294967296) (hx:x<4294967296) (hk:k≤32):(bits .andNot .u32 (bits .xor .u32 (a:Int) (x:Int)) ((2 ^ k-1:Nat):Int) == 0)=decide (a / 2 ^ k=x / 2 ^ k):=by
 have hxl:a ^^^ x<4294967296:=Nat.xor_lt_two_pow (n:=32) ha hx
 rw[Aif a x ha hx,Vf _ k hxl hk]
 have hd:(a ^^^ x)-(a ^^^ x) % 2 ^ k=2 ^ k * ((a ^^^ x) / 2 ^ k):=by have:=Nat.div_add_mod (a ^^^ x) (2 ^ k);omega
 rw[hd,Nat.xor_div_two_pow]
 have h1:=Nat.one_le_two_pow (n:=k)
 by_cases h:a / 2 ^ k=x / 2 ^ k
 ·rw[h,Nat.xor_self]
  simp
 ·rw[decide_eq_false h]
  have:a / 2 ^ k ^^^ x / 2 ^ k≠0:=fun e=>h (by
   have:=congrArg (fun z=>z ^^^ x / 2 ^ k) e
   simpa [Nat.xor_assoc] using this)
  rw[beq_eq_false_iff_ne]
  intro e
  have e:=Int.natCast_eq_zero.1 e
  rcases Nat.mul_eq_zero.1 e with e | e
  ·omega
  ·exact this e
theorem Aec (a x q:Nat) (hq:0<q):(a / q=x / q)↔(a-a % q≤x∧x≤a-a % q+(q-1)):=by
 have h1:=Nat.div_add_mod a q
 have hd:a-a % q=q * (a / q):=by omega
 rw[hd]
 constructor
 ·intro e
  have h2:=Nat.div_add_mod x q
  have h3:=Nat.mod_lt x hq
  rw[← e]at h2
  omega
 ·rintro ⟨h2,h3⟩
  symm
  rw[Nat.div_eq_iff hq]
  generalize a / q=m at *
  have:q * m=m * q:=Nat.mul_comm ..
  constructor<;>omega
def Bp (n:Net):Prop:=∀ x∈n.irbs,0≤x.addr∧x.addr<4294967296
end Go.Sy.YtjenpnjajjplkaaGreatDoor
namespace Go.Sy.YtjenpnjajjplkaaGreatDoor
open Go.Proofs
def Xu (m:Nat):Bool:=decide (m / 1099511627776 % 2=1)
theorem Ajh (m k:Nat):m &&& 2 ^ k=if m / 2 ^ k % 2=1 then 2 ^ k else 0:=by
 apply Nat.eq_of_testBit_eq
 intro i
 rw[Nat.testBit_and,Nat.testBit_two_pow]
 by_cases hi:k=i
 ·subst hi
  rw[decide_eq_true rfl,Bool.and_true,Nat.testBit_eq_decide_div_mod_eq]
  split
  ·rename_i h;rw[decide_eq_true h,Nat.testBit_two_pow_self]
  ·rename_i h;rw[decide_eq_false h,Nat.zero_testBit]
 ·rw[decide_eq_false hi,Bool.and_false]
  split
  ·rw[Nat.testBit_two_pow,decide_eq_false hi]
  ·rw[Nat.zero_testBit]
theorem Ae3 (m:Nat) (h:m<18446744073709551616):(bits .and .u64 (m:Int) 1099511627776 != 0)=Xu m:=by
 have e:=bits_and_u64_nat m 1099511627776 h j_
 rw[show ((1099511627776:Nat):Int)=1099511627776 from rfl]at e
 rw[e,show (1099511627776:Nat)=2 ^ 40 from rfl,Ajh,Xu,show (1099511627776:Nat)=2 ^ 40 from rfl]
 split
 ·rename_i h;rw[decide_eq_true h];rfl
 ·rename_i h;rw[decide_eq_false h];rfl
end Go.Sy.YtjenpnjajjplkaaGreatDoor
namespace Go.Sy.YtjenpnjajjplkaaGreatDoor
open Go.Proofs
attribute [local irreducible] Go.Sy.G Go.Sy.DR
set_option maxRecDepth 20000
set_option maxHeartbeats 4000000
theorem e_link {n:Net} (h:Ac n=true) {i:Nat} (hi:i<n.links.length):(0≤n.links[i].a∧n.links[i].a.toNat<n.ports.length)∧(0≤n.links[i].b∧n.links[i].b.toNat<n.ports.length):=by
 simp only[Ac,Bool.and_eq_true]at h
 have:=allB_iff.1 h.1.1.1.1.2 i hi
 simp only[Wq,Ar,Bool.and_eq_true,decide_eq_true_eq]at this
 omega
theorem Hp {n:Net} {i:Int} (h:0≤Bu n i):(0≤i∧i.toNat<n.ports.length)∧Ac n=true∧(Bu n i).toNat<n.ports.length:=by
 unfold Bu at h ⊢
 split at h
 ·rename_i hc
  rw[if_pos hc]
  have hk:i.toNat<n.ports.length:=by omega
  have e1:nth n.ports i=n.ports[i.toNat]:=Ad hk
  rw[e1]at hc h ⊢
  have hq:=S4 hc.2.2 hk hc.2.1
  have e2:nth n.links n.ports[i.toNat].link=n.links[n.ports[i.toNat].link.toNat]:=Ad hq.1
  have hl:=e_link hc.2.2 hq.1
  rw[e2]at h ⊢
  refine⟨by omega,hc.2.2,?_⟩
  split
  ·exact hl.2.2
  ·exact hl.1.2
 ·omega
def Tw (n:Net) (i v:Int):Int:=if v=(nth n.ports i).native then (nth n.ports (Bu n i)).native else if inB (nth n.ports (Bu n i)).tagged v=true then v else 0
def crossT (n:Net) (i v:Int):Int × Int × Bool :=
 if 0≤Bu n i∧B5 (nth n.ports i) v=true∧Tw n i v≠0 then (Bu n i,Tw n i v,true) else (0,0,false)
theorem Zq (n:Net) (hn:n.Fin) (i v:Int):Sy.Spec Tryz.prog 250 [Ae n,Aa i,Aa v] [] (.tup [Aa (crossT n i v).1,Aa (crossT n i v).2.1,Ab (crossT n i v).2.2]) []:=cT F250 Tryz.ntmps250 fun F hF=>by
 have q:=Ji n hn i
 have hth:=Hp (n:=n) (i:=i)
 have hc:=crossT.eq_1 n i v
 unfold Tw at hc
 generalize crossT n i v=r at *
 obtain ⟨far,hfar⟩:∃ far,Bu n i=far:=⟨_,rfl⟩
 rw[hfar]at q hth hc
 ((conv=>whnf);repeat((first|refine aF ?_|refine aT ?_);(first|refine rG Γ hm ?_|refine rD Γ hm z_ ?_);conv=>whnf))
 refine c0 q F184 ?_
 ((first|refine rG Γ hm ?_|refine rD Γ hm z_ ?_);(conv=>whnf);repeat((first|refine aF ?_|refine aT ?_);(first|refine rG Γ hm ?_|refine rD Γ hm z_ ?_);conv=>whnf))
 refine⟨fun h=>?_,fun h=>?_⟩
 ·have h1:far<0:=of_decide_eq_true h
  rw[if_neg q_]at hc
  subst hc
  ((first|refine rG Γ hm ?_|refine rD Γ hm z_ ?_);(conv=>whnf);repeat((first|refine aF ?_|refine aT ?_);(first|refine rG Γ hm ?_|refine rD Γ hm z_ ?_);conv=>whnf))
  exact dN
 have h1:0≤far:=qB h
 obtain ⟨⟨hi0,hk⟩,hb,hfk⟩:=hth h1
 have e1:nth n.ports i=n.ports[i.toNat]:=Ad hk
 have e2:nth n.ports far=n.ports[far.toNat]:=Ad hfk
 rw[e1,e2]at hc
 have ht1:=hn.tagged _ (List.getElem_mem hk)
 have ht2:=hn.tagged _ (List.getElem_mem hfk)
 obtain ⟨p,hp⟩:∃ p,n.ports[i.toNat]=p:=⟨_,rfl⟩
 obtain ⟨o,ho⟩:∃ o,n.ports[far.toNat]=o:=⟨_,rfl⟩
 rw[hp]at hc ht1
 rw[ho]at hc ht2
 have hms:=Ts p v ht1
 have hcs:=Dk o.tagged v ht2
 refine A1 3 8 (Ae n) E E E ?_
 ((first|refine rG Γ hm ?_|refine rD Γ hm z_ ?_);(conv=>whnf);repeat((first|refine aF ?_|refine aT ?_);(first|refine rG Γ hm ?_|refine rD Γ hm z_ ?_);conv=>whnf))
 refine⟨E,hi0,hk,?_⟩
 rw[hp]
 ((conv=>whnf);repeat((first|refine aF ?_|refine aT ?_);(first|refine rG Γ hm ?_|refine rD Γ hm z_ ?_);conv=>whnf))
 refine c0 hms F179 ?_
 cases hm2:B5 p v
 ·rw[if_neg (by simp[hm2])]at hc
  subst hc
  ((first|refine rG Γ hm ?_|refine rD Γ hm z_ ?_);(conv=>whnf);repeat((first|refine aF ?_|refine aT ?_);(first|refine rG Γ hm ?_|refine rD Γ hm z_ ?_);conv=>whnf))
  exact dN
 ((first|refine rG Γ hm ?_|refine rD Γ hm z_ ?_);(conv=>whnf);repeat((first|refine aF ?_|refine aT ?_);(first|refine rG Γ hm ?_|refine rD Γ hm z_ ?_);conv=>whnf))
 refine⟨E,h1,hfk,?_⟩
 rw[ho]
 ((conv=>whnf);repeat((first|refine aF ?_|refine aT ?_);(first|refine rG Γ hm ?_|refine rD Γ hm z_ ?_);conv=>whnf))
 refine⟨E,hi0,hk,?_⟩
 rw[hp]
 ((conv=>whnf);repeat((first|refine aF ?_|refine aT ?_);(first|refine rG Γ hm ?_|refine rD Γ hm z_ ?_);conv=>whnf))
 refine⟨fun h=>?_,fun h=>?_⟩
 ·have h2:v=p.native:=by simpa using h
  rw[if_pos h2]at hc
  ((first|refine rG Γ hm ?_|refine rD Γ hm z_ ?_);(conv=>whnf);repeat((first|refine aF ?_|refine aT ?_);(first|refine rG Γ hm ?_|refine rD Γ hm z_ ?_);conv=>whnf))
  refine⟨fun h=>?_,fun h=>?_⟩
  ·have h3:o.native=0:=by simpa using h
   rw[if_neg (fun hh=>hh.2.2 h3)]at hc
   subst hc
   ((first|refine rG Γ hm ?_|refine rD Γ hm z_ ?_);(conv=>whnf);repeat((first|refine aF ?_|refine aT ?_);(first|refine rG Γ hm ?_|refine rD Γ hm z_ ?_);conv=>whnf))
   exact dN
  ·have h3:o.native≠0:=by simpa using h
   rw[if_pos ⟨h1,hm2,h3⟩]at hc
   subst hc
   ((first|refine rG Γ hm ?_|refine rD Γ hm z_ ?_);(conv=>whnf);repeat((first|refine aF ?_|refine aT ?_);(first|refine rG Γ hm ?_|refine rD Γ hm z_ ?_);conv=>whnf))
   exact dN
 have h2:¬ v=p.native:=by simpa using h
 rw[if_neg h2]at hc
 ((first|refine rG Γ hm ?_|refine rD Γ hm z_ ?_);(conv=>whnf);repeat((first|refine aF ?_|refine aT ?_);(first|refine rG Γ hm ?_|refine rD Γ hm z_ ?_);conv=>whnf))
 refine c0 hcs F100 ?_
 cases hin:inB o.tagged v
 ·rw[hin,if_neg y_]at hc
  subst hc
  ((first|refine rG Γ hm ?_|refine rD Γ hm z_ ?_);(conv=>whnf);repeat((first|refine aF ?_|refine aT ?_);(first|refine rG Γ hm ?_|refine rD Γ hm z_ ?_);conv=>whnf))
  exact dN
 rw[hin,if_pos rfl]at hc
 ((first|refine rG Γ hm ?_|refine rD Γ hm z_ ?_);(conv=>whnf);repeat((first|refine aF ?_|refine aT ?_);(first|refine rG Γ hm ?_|refine rD Γ hm z_ ?_);conv=>whnf))
 refine⟨fun h=>?_,fun h=>?_⟩
 ·have h3:v=0:=by simpa using h
  rw[if_neg (fun hh=>hh.2.2 h3)]at hc
  subst hc
  ((first|refine rG Γ hm ?_|refine rD Γ hm z_ ?_);(conv=>whnf);repeat((first|refine aF ?_|refine aT ?_);(first|refine rG Γ hm ?_|refine rD Γ hm z_ ?_);conv=>whnf))
  exact dN
 ·have h3:v≠0:=by simpa using h
  rw[if_pos ⟨h1,hm2,h3⟩]at hc
  subst hc
  ((first|refine rG Γ hm ?_|refine rD Γ hm z_ ?_);(conv=>whnf);repeat((first|refine aF ?_|refine aT ?_);(first|refine rG Γ hm ?_|refine rD Γ hm z_ ?_);conv=>whnf))
  exact dN
def linkDomT (n:Net) (i v:Int):Int × Bool:=if (crossT n i v).2.2=true then (Bl n (nth n.ports (crossT n i v).1).dev (crossT n i v).2.1,true) else (0,false)
theorem Qa {n:Net} {i v:Int} (h:(crossT n i v).2.2=true):0≤(crossT n i v).1∧(crossT n i v).1.toNat<n.ports.length:=by
 unfold crossT at h ⊢
 split at h
 ·rename_i hc
  rw[if_pos hc]
  exact⟨hc.1,(Hp hc.1).2.2⟩
 ·cases h
theorem Jj (n:Net) (hn:n.Fin) (i v:Int):Sy.Spec Tryz.prog 167 [Ae n,Aa i,Aa v] [] (.tup [Aa (linkDomT n i v).1,Ab (linkDomT n i v).2]) []:=cT F167 Tryz.ntmps167 fun F hF=>by
 have q:=Zq n hn i v
 have hth:=Qa (n:=n) (i:=i) (v:=v)
 have hc:=linkDomT.eq_1 n i v
 generalize linkDomT n i v=r at *
 generalize crossT n i v=x at *
 obtain ⟨far,to,ok⟩:=x
 ((conv=>whnf);repeat((first|refine aF ?_|refine aT ?_);(first|refine rG Γ hm ?_|refine rD Γ hm z_ ?_);conv=>whnf))
 refine c0 q F250 ?_
 cases ok
 ·rw[if_neg y_]at hc
  subst hc
  ((first|refine rG Γ hm ?_|refine rD Γ hm z_ ?_);(conv=>whnf);repeat((first|refine aF ?_|refine aT ?_);(first|refine rG Γ hm ?_|refine rD Γ hm z_ ?_);conv=>whnf))
  exact dN
 rw[if_pos rfl]at hc
 have hf:=hth rfl
 dsimp only at hf hc
 have e2:nth n.ports far=n.ports[far.toNat]:=Ad hf.2
 rw[e2]at hc
 obtain ⟨o,ho⟩:∃ o,n.ports[far.toNat]'hf.2=o:=⟨_,rfl⟩
 rw[ho]at hc
 have q2:=Je n hn o.dev to
 subst hc
 refine A1 3 8 (Ae n) E E E ?_
 ((first|refine rG Γ hm ?_|refine rD Γ hm z_ ?_);(conv=>whnf);repeat((first|refine aF ?_|refine aT ?_);(first|refine rG Γ hm ?_|refine rD Γ hm z_ ?_);conv=>whnf))
 refine⟨E,hf.1,hf.2,?_⟩
 rw[ho]
 ((conv=>whnf);repeat((first|refine aF ?_|refine aT ?_);(first|refine rG Γ hm ?_|refine rD Γ hm z_ ?_);conv=>whnf))
 refine cD q2 F168 ?_
 ((first|refine rG Γ hm ?_|refine rD Γ hm z_ ?_);(conv=>whnf);repeat((first|refine aF ?_|refine aT ?_);(first|refine rG Γ hm ?_|refine rD Γ hm z_ ?_);conv=>whnf))
 refine⟨z_,?_⟩
 ((conv=>whnf);repeat((first|refine aF ?_|refine aT ?_);(first|refine rG Γ hm ?_|refine rD Γ hm z_ ?_);conv=>whnf))
 exact dN
abbrev S9 (n:Net) (a:Int) (r:Bool):SV:=.agg [.sl 5 Ap n.devices,.sl 7 As n.ports,.sl 3 Bg n.links,.sl 6 Af n.domains,.sl 4 Av n.statics,.sl 4 Ax n.floods,.sl 5 Bh n.vrfs,.sl 5 Bf n.irbs,Aa a,Ab r]
def Q2 (n:Net) (s:ByteArray) (p:Port):Bool:=(nth n.devices p.dev).name++⟨#[46]⟩++p.name == s
def Bo (n:Net) (s:ByteArray):Int:=Bd (Q2 n s) n.ports
theorem Ai3 (n:Net) (hnm:Hc n) (a:Int) (r:Bool) (s:ByteArray) (p:Port) (hp:p∈n.ports) (hd:0≤p.dev∧p.dev.toNat<n.devices.length) :
  Sy.Spec Tryz.prog 187 [As p,.ref 1 (.ref 10 (S9 n a r) 0) 0,.ref 1 (Ak s) 0] [] (Ab (Q2 n s p)) []:=cT F187 Tryz.ntmps187 fun F hF=>by
 have e2:nth n.devices p.dev=n.devices[p.dev.toNat]:=Ad hd.2
 have hdn:=hnm.1 _ (List.getElem_mem hd.2)
 have hpn:=hnm.2 _ hp
 rw[Q2,e2]
 obtain ⟨x,hx⟩:∃ x,n.devices[p.dev.toNat]'hd.2=x:=⟨_,rfl⟩
 rw[hx]at hdn ⊢
 have hs1:(⟨#[46]⟩:ByteArray).size=1:=rfl
 have hs2:=Yz x.name ⟨#[46]⟩
 ((conv=>whnf);repeat((first|refine aF ?_|refine aT ?_);(first|refine rG Γ hm ?_|refine rD Γ hm z_ ?_);conv=>whnf))
 refine⟨E,hd.1,hd.2,?_⟩
 rw[hx]
 ((conv=>whnf);repeat((first|refine aF ?_|refine aT ?_);(first|refine rG Γ hm ?_|refine rD Γ hm z_ ?_);conv=>whnf))
 refine⟨by omega,?_⟩
 ((conv=>whnf);repeat((first|refine aF ?_|refine aT ?_);(first|refine rG Γ hm ?_|refine rD Γ hm z_ ?_);conv=>whnf))
 refine⟨by omega,?_⟩
 ((conv=>whnf);repeat((first|refine aF ?_|refine aT ?_);(first|refine rG Γ hm ?_|refine rD Γ hm z_ ?_);conv=>whnf))
 refine⟨z_,?_⟩
 ((conv=>whnf);repeat((first|refine aF ?_|refine aT ?_);(first|refine rG Γ hm ?_|refine rD Γ hm z_ ?_);conv=>whnf))
 exact dN
theorem Hv (n:Net) (hn:n.Fin) (hnm:Hc n) (hb:Ac n=true) (a:Int) (r:Bool) (s:ByteArray) :
  Sy.Spec Tryz.prog 93 [.ref 10 (S9 n a r) 0,Ak s] [] (Aa (Bo n s)) []:=cT F93 Tryz.ntmps93 fun F hF=>by
 have hq:∀ p∈n.ports,0≤p.dev∧p.dev.toNat<n.devices.length:=fun p hp=>by
  obtain ⟨i,hi,he⟩:=List.mem_iff_getElem.1 hp
  have:=Js hb hi
  rwa [he]at this
 have q:=J1 n.ports (Q2 n s) 187 [] [.ref 1 (.ref 10 (S9 n a r) 0) 0,.ref 1 (Ak s) 0] rfl (fun p hp=>⟨⟨_,_,F187⟩,Ai3 n hnm a r s p hp (hq p hp)⟩) hn.ports
 ((conv=>whnf);repeat((first|refine aF ?_|refine aT ?_);(first|refine rG Γ hm ?_|refine rD Γ hm z_ ?_);conv=>whnf))
 refine A1 2 1 (.ref 10 (S9 n a r) 0) E E E ?_
 refine A1 3 1 (Ak s) E E E ?_
 refine c0 q F121 ?_
 ((first|refine rG Γ hm ?_|refine rD Γ hm z_ ?_);(conv=>whnf);repeat((first|refine aF ?_|refine aT ?_);(first|refine rG Γ hm ?_|refine rD Γ hm z_ ?_);conv=>whnf))
 exact dN
def H8 (n:Net) (s:ByteArray) (i:Nat):Bool:=Cj n i == s
def Al (n:Net) (s:ByteArray):Int:=match (List.range n.domains.length).find? (H8 n s) with | some i=>i | none=>-1
theorem U8 {n:Net} {s:ByteArray} {j:Nat} (h:∀ i,i<j→H8 n s i=false) (hj:j<n.domains.length) (hjt:H8 n s j=true):Al n s=j:=by
 have:(List.range n.domains.length).find? (H8 n s)=some j:=by
  rw[List.find?_range_eq_some]
  exact⟨hjt,by simpa using hj,fun i hi=>by simp[h i hi]⟩
 rw[Al,this]
theorem V4 {n:Net} {s:ByteArray} (h:∀ i,i<n.domains.length→H8 n s i=false):Al n s=-1:=by
 have:(List.range n.domains.length).find? (H8 n s)=none:=by
  rw[List.find?_eq_none]
  intro x hx
  simp[h x (by simpa using hx)]
 rw[Al,this]
theorem Ef (n:Net) (hn:n.Fin) (hnm:Hc n) (a:Int) (r:Bool) (s:ByteArray) :
  Sy.Spec Tryz.prog 94 [.ref 10 (S9 n a r) 0,Ak s] [] (Aa (Al n s)) []:=cT F94 Tryz.ntmps94 fun F hF=>by
 have hsd:=hn.domains
 unfold Ag at hsd
 ((conv=>whnf);repeat((first|refine aF ?_|refine aT ?_);(first|refine rG Γ hm ?_|refine rD Γ hm z_ ?_);conv=>whnf))
 refine Az n.domains.length (fun j=>∀ i,i<j→H8 n s i=false) (fun j=>[(0,.ref 10 (S9 n a r) 0),(1,Ak s),(11,Aa n.domains.length),(12,Aa j)]) (fun _=>[]) [] (fun i hi=>absurd hi q_)
  ⟨⟨rfl,rfl,rfl,rfl,rfl,rfl,rfl,rfl,trivial⟩,trivial,rfl,rfl⟩ ?_
 intro j hj hI
 have q:=U7 n hn hnm j
 have hjt:H8 n s j=(Cj n j == s):=rfl
 ((first|refine rG Γ hm ?_|refine rD Γ hm z_ ?_);(conv=>whnf);repeat((first|refine aF ?_|refine aT ?_);(first|refine rG Γ hm ?_|refine rD Γ hm z_ ?_);conv=>whnf))
 refine⟨fun h=>?_,fun h=>?_⟩
 ·have hlt:j<n.domains.length:=by simpa using h
  ((first|refine rG Γ hm ?_|refine rD Γ hm z_ ?_);(conv=>whnf);repeat((first|refine aF ?_|refine aT ?_);(first|refine rG Γ hm ?_|refine rD Γ hm z_ ?_);conv=>whnf))
  refine c0 q F90 ?_
  ((first|refine rG Γ hm ?_|refine rD Γ hm z_ ?_);(conv=>whnf);repeat((first|refine aF ?_|refine aT ?_);(first|refine rG Γ hm ?_|refine rD Γ hm z_ ?_);conv=>whnf))
  refine⟨fun h2=>?_,fun h2=>?_⟩
  ·rw[U8 hI hlt (hjt.trans h2)]
   ((first|refine rG Γ hm ?_|refine rD Γ hm z_ ?_);(conv=>whnf);repeat((first|refine aF ?_|refine aT ?_);(first|refine rG Γ hm ?_|refine rD Γ hm z_ ?_);conv=>whnf))
   exact dN
  ·((first|refine rG Γ hm ?_|refine rD Γ hm z_ ?_);(conv=>whnf);repeat((first|refine aF ?_|refine aT ?_);(first|refine rG Γ hm ?_|refine rD Γ hm z_ ?_);conv=>whnf))
   refine iL ?_
   ((conv=>whnf);repeat((first|refine aF ?_|refine aT ?_);(first|refine rG Γ hm ?_|refine rD Γ hm z_ ?_);conv=>whnf))
   refine Ay [] hI q_ (fun i hi=>?_) ⟨⟨E,E,E,E,E,E,E,E,Y⟩,Y,E,E⟩
   by_cases hij:i=j
   ·subst hij;exact hjt.trans h2
   ·exact hI i q_
 ·have:j=n.domains.length:=qB h
  subst this
  rw[V4 hI]
  ((first|refine rG Γ hm ?_|refine rD Γ hm z_ ?_);(conv=>whnf);repeat((first|refine aF ?_|refine aT ?_);(first|refine rG Γ hm ?_|refine rD Γ hm z_ ?_);conv=>whnf))
  exact dN
def I7 (n:Net) (i:Int):Bool:=decide (0≤i) && decide ((nth n.ports i).link<0)
theorem Qc (n:Net) (a:Int) (r:Bool) (i:Int) (hi:i<n.ports.length) :
  Sy.Spec Tryz.prog 95 [.ref 10 (S9 n a r) 0,Aa i] [] (Ab (I7 n i)) []:=cT F95 Tryz.ntmps95 fun F hF=>by
 ((conv=>whnf);repeat((first|refine aF ?_|refine aT ?_);(first|refine rG Γ hm ?_|refine rD Γ hm z_ ?_);conv=>whnf))
 refine⟨fun h=>?_,fun h=>?_⟩
 ·have h0:0≤i:=of_decide_eq_true h
  have hk:i.toNat<n.ports.length:=by omega
  rw[I7,Ad hk,decide_eq_true h0,Bool.true_and]
  obtain ⟨p,hp⟩:∃ p,n.ports[i.toNat]'hk=p:=⟨_,rfl⟩
  rw[hp]
  ((first|refine rG Γ hm ?_|refine rD Γ hm z_ ?_);(conv=>whnf);repeat((first|refine aF ?_|refine aT ?_);(first|refine rG Γ hm ?_|refine rD Γ hm z_ ?_);conv=>whnf))
  refine⟨E,h0,hk,?_⟩
  rw[hp]
  ((conv=>whnf);repeat((first|refine aF ?_|refine aT ?_);(first|refine rG Γ hm ?_|refine rD Γ hm z_ ?_);conv=>whnf))
  exact dN
 ·have h0:¬ 0≤i:=of_decide_eq_false h
  rw[I7,decide_eq_false h0,Bool.false_and]
  ((first|refine rG Γ hm ?_|refine rD Γ hm z_ ?_);(conv=>whnf);repeat((first|refine aF ?_|refine aT ?_);(first|refine rG Γ hm ?_|refine rD Γ hm z_ ?_);conv=>whnf))
  exact dN
theorem Id (n:Net) (hn:n.Fin) (a:Int) (r:Bool) (port d:Int) :
  Sy.Spec Tryz.prog 96 [.ref 10 (S9 n a r) 0,Aa port,Aa d] [] (Ab (inB (Ao n d) port)) []:=cT F96 Tryz.ntmps96 fun F hF=>by
 have q:=Is n hn d
 have q2:=Dk (Ao n d) port (D8 n hn d)
 generalize Ao n d=l at *
 ((conv=>whnf);repeat((first|refine aF ?_|refine aT ?_);(first|refine rG Γ hm ?_|refine rD Γ hm z_ ?_);conv=>whnf))
 refine c0 q F101 ?_
 ((first|refine rG Γ hm ?_|refine rD Γ hm z_ ?_);(conv=>whnf);repeat((first|refine aF ?_|refine aT ?_);(first|refine rG Γ hm ?_|refine rD Γ hm z_ ?_);conv=>whnf))
 refine c0 q2 F100 ?_
 ((first|refine rG Γ hm ?_|refine rD Γ hm z_ ?_);(conv=>whnf);repeat((first|refine aF ?_|refine aT ?_);(first|refine rG Γ hm ?_|refine rD Γ hm z_ ?_);conv=>whnf))
 exact dN
theorem Uy (l:List Int) (p:Int→Bool) (f:FuncId) (first cap:List SV) (hc:(SV.clo (.func f) first cap).inn []=true) (hf:∀ x∈l,Eu Tryz.prog f (first++[Aa x]++cap) (Ab (p x))) (hl:Ag l) :
  Sy.Spec Tryz.prog 448 [.sl 1 Aa l,.clo (.func f) first cap] [] (Aa (Bd p l)) []:=cT F448 Tryz.ntmps448 fun F hF=>by
 unfold Ag at hl
 have hin:∀ x:Int,Bn [] (first++[Aa x]++cap)=true:=fun x=>Cp hc rfl
 conv=>whnf
 refine Az l.length (fun j=>Dp (fun _ x=>!(p x)) l j) (fun j=>[(0,.sl 1 Aa l),(1,.clo (.func f) first cap),(7,Aa l.length),(8,Aa j)]) (fun _=>[]) [] (A7 _ _) ⟨⟨E,E,Ba _,hc,E,E,E,E,Y⟩,Y,E,E⟩ ?_
 intro j hj hI
 refine oO ?_
 refine⟨fun h=>?_,fun h=>?_⟩
 ·have h:=of_decide_eq_true h
  have hj2:j<l.length:=by omega
  refine oO ?_
  refine⟨E,by omega,by omega,?_⟩
  conv=>whnf
  refine Hb (hf l[j] (List.getElem_mem hj2)) E E E (by simp only[hin];rfl) E E ?_
  refine oO ?_
  refine⟨fun h2=>?_,fun h2=>?_⟩
  ·refine oO ?_
   refine At E (.cons .tmp .nil) (congrArg Aa ?_) E
   exact B8 hj2 (fun i hi hij=>by simpa using hI i hi hij) h2
  ·refine oO ?_
   refine iW ?_
   exact Ay [] hI hj2 (A6 hI hj2 (by simp[h2])) ⟨⟨E,E,Ba _,hc,E,E,E,E,Y⟩,Y,E,E⟩
 ·have h:=of_decide_eq_false h
  refine oO ?_
  refine At E (.cons .tmp .nil) (congrArg Aa ?_) E
  exact C7 (fun i hi=>by simpa using hI i hi q_)
theorem Qb (l:List Int) (p:Int→Bool) (f:FuncId) (first cap:List SV) (hc:(SV.clo (.func f) first cap).inn []=true) (hf:∀ x∈l,Eu Tryz.prog f (first++[Aa x]++cap) (Ab (p x))) (hl:Ag l) :
  Sy.Spec Tryz.prog 446 [.sl 1 Aa l,.clo (.func f) first cap] [] (Ab (decide (0≤Bd p l))) []:=cT F446 Tryz.ntmps446 fun F hF=>by
 have h0:Bn [] [.sl 1 Aa l,.clo (.func f) first cap]=true:=by simp only[Bn,hc];rfl
 conv=>whnf
 refine I9 (Uy l p f first cap hc hf hl) F448 E E (by simp only[h0];rfl) E E ?_
 refine oO ?_
 exact dN
theorem Ux (l:List Irb) (p:Irb→Bool) (f:FuncId) (first cap:List SV) (hc:(SV.clo (.func f) first cap).inn []=true) (hf:∀ x∈l,Eu Tryz.prog f (first++[Bf x]++cap) (Ab (p x))) (hl:Ag l) :
  Sy.Spec Tryz.prog 325 [.sl 5 Bf l,.clo (.func f) first cap] [] (Aa (Bd p l)) []:=cT F325 Tryz.ntmps325 fun F hF=>by
 unfold Ag at hl
 have hin:∀ x:Irb,Bn [] (first++[Bf x]++cap)=true:=fun x=>Cp hc rfl
 ((conv=>whnf);repeat((first|refine aF ?_|refine aT ?_);(first|refine rG Γ hm ?_|refine rD Γ hm z_ ?_);conv=>whnf))
 refine Az l.length (fun j=>Dp (fun _ x=>!(p x)) l j) (fun j=>[(0,.sl 5 Bf l),(1,.clo (.func f) first cap),(7,Aa l.length),(8,Aa j)]) (fun _=>[]) [] (A7 _ _) ⟨⟨E,E,Ba _,hc,E,E,E,E,Y⟩,Y,E,E⟩ ?_
 intro j hj hI
 ((first|refine rG Γ hm ?_|refine rD Γ hm z_ ?_);(conv=>whnf);repeat((first|refine aF ?_|refine aT ?_);(first|refine rG Γ hm ?_|refine rD Γ hm z_ ?_);conv=>whnf))
 refine⟨fun h=>?_,fun h=>?_⟩
 ·have h:=of_decide_eq_true h
  have hj2:j<l.length:=by omega
  ((first|refine rG Γ hm ?_|refine rD Γ hm z_ ?_);(conv=>whnf);repeat((first|refine aF ?_|refine aT ?_);(first|refine rG Γ hm ?_|refine rD Γ hm z_ ?_);conv=>whnf))
  refine⟨E,by omega,by omega,?_⟩
  ((conv=>whnf);repeat((first|refine aF ?_|refine aT ?_);(first|refine rG Γ hm ?_|refine rD Γ hm z_ ?_);conv=>whnf))
  refine Hb (hf l[j] (List.getElem_mem hj2)) E E E (by simp only[hin];rfl) E E ?_
  ((first|refine rG Γ hm ?_|refine rD Γ hm z_ ?_);(conv=>whnf);repeat((first|refine aF ?_|refine aT ?_);(first|refine rG Γ hm ?_|refine rD Γ hm z_ ?_);conv=>whnf))
  refine⟨fun h2=>?_,fun h2=>?_⟩
  ·((first|refine rG Γ hm ?_|refine rD Γ hm z_ ?_);(conv=>whnf);repeat((first|refine aF ?_|refine aT ?_);(first|refine rG Γ hm ?_|refine rD Γ hm z_ ?_);conv=>whnf))
   refine At E (.cons .tmp .nil) (congrArg Aa ?_) E
   exact B8 hj2 (fun i hi hij=>by simpa using hI i hi hij) h2
  ·((first|refine rG Γ hm ?_|refine rD Γ hm z_ ?_);(conv=>whnf);repeat((first|refine aF ?_|refine aT ?_);(first|refine rG Γ hm ?_|refine rD Γ hm z_ ?_);conv=>whnf))
   refine iL ?_
   ((conv=>whnf);repeat((first|refine aF ?_|refine aT ?_);(first|refine rG Γ hm ?_|refine rD Γ hm z_ ?_);conv=>whnf))
   exact Ay [] hI hj2 (A6 hI hj2 (by simp[h2])) ⟨⟨E,E,Ba _,hc,E,E,E,E,Y⟩,Y,E,E⟩
 ·have h:=of_decide_eq_false h
  ((first|refine rG Γ hm ?_|refine rD Γ hm z_ ?_);(conv=>whnf);repeat((first|refine aF ?_|refine aT ?_);(first|refine rG Γ hm ?_|refine rD Γ hm z_ ?_);conv=>whnf))
  refine At E (.cons .tmp .nil) (congrArg Aa ?_) E
  exact C7 (fun i hi=>by simpa using hI i hi q_)
theorem Dc (l:List Irb) (p:Irb→Bool) (f:FuncId) (first cap:List SV) (hc:(SV.clo (.func f) first cap).inn []=true) (hf:∀ x∈l,Eu Tryz.prog f (first++[Bf x]++cap) (Ab (p x))) (hl:Ag l) :
  Sy.Spec Tryz.prog 263 [.sl 5 Bf l,.clo (.func f) first cap] [] (Ab (decide (0≤Bd p l))) []:=cT F263 Tryz.ntmps263 fun F hF=>by
 have h0:Bn [] [.sl 5 Bf l,.clo (.func f) first cap]=true:=by simp only[Bn,hc];rfl
 ((conv=>whnf);repeat((first|refine aF ?_|refine aT ?_);(first|refine rG Γ hm ?_|refine rD Γ hm z_ ?_);conv=>whnf))
 refine I9 (Ux l p f first cap hc hf hl) F325 E E (by simp only[h0];rfl) E E ?_
 ((first|refine rG Γ hm ?_|refine rD Γ hm z_ ?_);(conv=>whnf);repeat((first|refine aF ?_|refine aT ?_);(first|refine rG Γ hm ?_|refine rD Γ hm z_ ?_);conv=>whnf))
 exact dN
theorem Aig (v:Vrf) (hv:Ag v.imports) (t:Int):Sy.Spec Tryz.prog 445 [Aa t,.ref 5 (Bh v) 0] [] (Ab (inB v.imports t)) []:=cT F445 Tryz.ntmps445 fun F hF=>by
 have q:=Dk v.imports t hv
 conv=>whnf
 refine c0 q F100 ?_
 refine oO ?_
 exact dN
def Ab3 (n:Net) (i k:Int):Bool:=i == k || (nth n.vrfs i).dev == (nth n.vrfs k).dev && decide (0≤Bd (inB (nth n.vrfs k).imports) (nth n.vrfs i).exports)
theorem Aa4 (n:Net) (hn:n.Fin) (hb:Ac n=true) (i k:Int) (hi:0≤i∧i.toNat<n.vrfs.length) (hk:0≤k∧k.toNat<n.vrfs.length) :
  Sy.Spec Tryz.prog 428 [Ae n,Aa i,Aa k] [] (Ab (Ab3 n i k)) []:=cT F428 Tryz.ntmps428 fun F hF=>by
 have hr:=Aw n hn
 rw[hb]at hr
 have him:=hn.imports _ (List.getElem_mem hk.2)
 have hex:=hn.exports _ (List.getElem_mem hi.2)
 rw[Ab3,Ad hi.2,Ad hk.2]
 obtain ⟨a,ha⟩:∃ a,n.vrfs[i.toNat]'hi.2=a:=⟨_,rfl⟩
 obtain ⟨b,hbb⟩:∃ b,n.vrfs[k.toNat]'hk.2=b:=⟨_,rfl⟩
 rw[ha]at hex ⊢
 rw[hbb]at him ⊢
 have q:=Qb a.exports (inB b.imports) 445 [] [.ref 5 (Bh b) 0] rfl (fun t _=>⟨⟨_,_,F445⟩,Aig b him t⟩) hex
 conv=>whnf
 refine⟨fun h=>absurd (of_decide_eq_true h) q_,fun _=>?_⟩
 refine oO ?_
 refine⟨fun h=>absurd (of_decide_eq_true h) q_,fun _=>?_⟩
 refine oO ?_
 refine⟨fun h=>absurd (of_decide_eq_true h) q_,fun _=>?_⟩
 refine oO ?_
 refine⟨fun h=>absurd (of_decide_eq_true h) q_,fun _=>?_⟩
 refine oO ?_
 refine c0 hr F25 ?_
 refine oF ?_
 refine⟨E,hi.1,hi.2,?_⟩
 rw[ha]
 conv=>whnf
 refine⟨E,hk.1,hk.2,?_⟩
 rw[hbb]
 conv=>whnf
 refine kW ?_
 refine⟨fun h=>?_,fun h=>?_⟩
 ·rw[h,Bool.true_or]
  refine oO ?_
  exact dN
 rw[h,Bool.false_or]
 refine oO ?_
 refine⟨fun h=>?_,fun h=>?_⟩
 ·rw[h,Bool.true_and]
  refine A1 8 5 (Bh b) E E E ?_
  refine oO ?_
  refine c0 q F446 ?_
  refine oO ?_
  exact dN
 ·rw[h,Bool.false_and]
  refine oO ?_
  exact dN
def Iu (n:Net) (i:Int):Int:=(nth n.domains (nth n.irbs i).domain).dev
theorem Aju {n:Net} (h:Ac n=true) {i:Nat} (hi:i<n.irbs.length):Zx n i n.irbs[i]=true:=by
 simp only[Ac,Bool.and_eq_true]at h
 exact allB_iff.1 h.2 i hi
theorem B3 {n:Net} (h:Ac n=true) {i:Nat} (hi:i<n.irbs.length) :
  (0≤n.irbs[i].domain∧n.irbs[i].domain.toNat<n.domains.length)∧(0≤n.irbs[i].vrf∧n.irbs[i].vrf.toNat<n.vrfs.length)∧(0≤n.irbs[i].bits∧n.irbs[i].bits≤32):=by
 have:=Aju h hi
 simp only[Zx,Ar,Bool.and_eq_true,decide_eq_true_eq]at this
 omega
theorem Hl (n:Net) (hb:Ac n=true) (i:Int) (hi:0≤i∧i.toNat<n.irbs.length):Sy.Spec Tryz.prog 382 [Ae n,Aa i] [] (Aa (Iu n i)) []:=cT F382 Tryz.ntmps382 fun F hF=>by
 have hf:=(B3 hb hi.2).1
 rw[Iu,Ad hi.2]
 obtain ⟨x,hx⟩:∃ x,n.irbs[i.toNat]'hi.2=x:=⟨_,rfl⟩
 rw[hx]at hf ⊢
 rw[Ad hf.2]
 obtain ⟨d,hd⟩:∃ d,n.domains[x.domain.toNat]'hf.2=d:=⟨_,rfl⟩
 rw[hd]
 conv=>whnf
 refine⟨E,hi.1,hi.2,?_⟩
 rw[hx]
 conv=>whnf
 refine⟨E,hf.1,hf.2,?_⟩
 rw[hd]
 conv=>whnf
 refine kW ?_
 exact dN
def Y0 (n:Net) (i k:Int):Bool:=Iu n i == Iu n k && Ab3 n (nth n.irbs k).vrf (nth n.irbs i).vrf
theorem Abn (n:Net) (hn:n.Fin) (hb:Ac n=true) (i k:Int) (hi:0≤i∧i.toNat<n.irbs.length) (hk:0≤k∧k.toNat<n.irbs.length) :
  Sy.Spec Tryz.prog 384 [Ae n,Aa i,Aa k] [] (Ab (Y0 n i k)) []:=cT F384 Tryz.ntmps384 fun F hF=>by
 have q1:=Hl n hb i hi
 have q2:=Hl n hb k hk
 have f1:=(B3 hb hi.2).2.1
 have f2:=(B3 hb hk.2).2.1
 have q3:=Aa4 n hn hb _ _ f2 f1
 rw[Y0,Ad hi.2,Ad hk.2]
 obtain ⟨x,hx⟩:∃ x,n.irbs[i.toNat]'hi.2=x:=⟨_,rfl⟩
 obtain ⟨y,hy⟩:∃ y,n.irbs[k.toNat]'hk.2=y:=⟨_,rfl⟩
 rw[hx,hy]at q3
 rw[hx,hy]
 generalize Iu n i=di at *
 generalize Iu n k=dk at *
 conv=>whnf
 refine cD q1 F382 ?_
 refine oD ?_
 refine cD q2 F382 ?_
 refine oD ?_
 refine⟨fun h=>?_,fun h=>?_⟩
 ·rw[h,Bool.true_and]
  refine oD ?_
  refine⟨E,hk.1,hk.2,?_⟩
  rw[hy]
  conv=>whnf
  refine⟨E,hi.1,hi.2,?_⟩
  rw[hx]
  conv=>whnf
  refine cD q3 F428 ?_
  refine oD ?_
  refine kW ?_
  exact dN
 ·rw[h,Bool.false_and]
  refine oD ?_
  refine kW ?_
  exact dN
abbrev Ac9 (a b:Int):SV:=.agg [A5 a,Aa b]
theorem Ael (a b:Int) (h:0≤b∧b≤32):Sy.Spec Tryz.prog 370 [Ac9 a b] [] (Ab true) []:=cT F370 Tryz.ntmps370 fun F hF=>by
 conv=>whnf
 refine⟨fun _=>?_,fun h2=>absurd (of_decide_eq_false h2) q_⟩
 refine oO ?_
 refine At E (.cons .tmp .nil) (congrArg Ab ?_) E
 simp;omega
def Y7 (b:Int):Int:=IntKind.u32.wrap (IntKind.u32.wrap (1 * 2 ^ (min (32-b).toNat IntKind.u32.bits))-1)
theorem Agb (a b:Int) (h:0≤b∧b≤32):Sy.Spec Tryz.prog 371 [Ac9 a b] [] (A5 (Y7 b)) []:=cT F371 Tryz.ntmps371 fun F hF=>by
 conv=>whnf
 refine iW ?_
 refine⟨by omega,?_⟩
 conv=>whnf
 exact dN
def Vu (a b x:Int):Bool:=bits .andNot .u32 (bits .xor .u32 a x) (Y7 b) == 0
theorem Vh (a b x:Int) (h:0≤b∧b≤32):Sy.Spec Tryz.prog 383 [Ac9 a b,A5 x] [] (Ab (Vu a b x)) []:=cT F383 Tryz.ntmps383 fun F hF=>by
 have q1:=Ael a b h
 have q2:=Agb a b h
 rw[Vu]
 generalize Y7 b=r at *
 conv=>whnf
 refine cD q1 F370 ?_
 (refine oD ?_;refine aT ?_;refine oD ?_)
 refine cD q2 F371 ?_
 refine oD ?_
 refine kW ?_
 exact dN
def Lr (c:Int→Int→Int) (l:List Int) (j:Nat):Int:=((l.drop 1).take j).foldl (fun m x=>if 0<c x m then x else m) (nth l 0)
theorem Qy (c:Int→Int→Int) (l:List Int) (j:Nat) (h:j+1<l.length):Lr c l (j+1)=if 0<c l[j+1] (Lr c l j) then l[j+1] else Lr c l j:=by
 have hl:j<(l.drop 1).length:=by rw[List.length_drop];omega
 rw[Lr,List.take_succ_eq_append_getElem hl,List.foldl_append]
 have e:(l.drop 1)[j]=l[j+1]:=by rw[List.getElem_drop];congr 1;omega
 simp only[List.foldl_cons,List.foldl_nil,e]
 rfl
theorem Ko (c:Int→Int→Int) (l:List Int) (h:0<l.length):∀ j,j+1≤l.length→Lr c l j∈l
 | 0,_=>by
  rw[Lr,List.take_zero,List.foldl_nil,Ad (l:=l) (i:=0) (by simpa using h)]
  exact List.getElem_mem _
 | j+1,hj=>by
  rw[Qy c l j q_]
  split
  ·exact List.getElem_mem _
  ·exact Ko c l h j q_
theorem Agw (l:List Int) (c:Int→Int→Int) (f:FuncId) (first cap:List SV) (hc:(SV.clo (.func f) first cap).inn []=true) (h0:0<l.length) (hl:Ag l)
  (hf:∀ x∈l,∀ y∈l,Eu Tryz.prog f (first++[Aa x,Aa y]++cap) (Aa (c x y))) :
  Sy.Spec Tryz.prog 386 [.sl 1 Aa l,.clo (.func f) first cap] [] (Aa (Lr c l (l.length-1))) []:=cT F386 Tryz.ntmps386 fun F hF=>by
 unfold Ag at hl
 have hin:∀ x y:Int,Bn [] (first++[Aa x,Aa y]++cap)=true:=fun x y=>Cp hc rfl
 have hmem:=Ko c l h0
 have hsucc:=Qy c l
 have hz:Lr c l 0=l[0]:=by rw[Lr,List.take_zero,List.foldl_nil,Ad (l:=l) (i:=0) (by simpa using h0)];rfl
 generalize Lr c l=m at *
 conv=>whnf
 refine⟨fun h=>absurd (of_decide_eq_true h) q_,fun _=>?_⟩
 refine oO ?_
 refine⟨E,by omega,by simpa using h0,?_⟩
 conv=>whnf
 refine By (l.length-1) (fun j=>[(0,.sl 1 Aa l),(1,.clo (.func f) first cap),(5,Aa (m j)),(6,Aa ((j:Int)+1))]) (fun _=>[]) []
  ⟨⟨rfl,rfl,Ba _,hc,congrArg Aa hz,rfl,rfl,rfl,trivial⟩,trivial,rfl,rfl⟩ ?_
 intro j hj
 have hmj:=hmem j q_
 have hsj:=hsucc j
 refine oO ?_
 refine⟨fun h=>?_,fun h=>?_⟩
 ·have hlt:j+1<l.length:=qA h
  have hsj:=hsj hlt
  have hk:((j:Int)+1).toNat<l.length:=by omega
  have e1:l[((j:Int)+1).toNat]'hk=l[j+1]:=by congr 1
  obtain ⟨x,hx⟩:∃ x,l[j+1]=x:=⟨_,rfl⟩
  have hxm:x∈l:=hx ▸ List.getElem_mem hlt
  rw[hx]at e1 hsj
  refine oO ?_
  refine⟨E,by omega,hk,?_⟩
  rw[e1]
  conv=>whnf
  refine Hb (hf x hxm (m j) hmj) E E E (by simp only[hin];rfl) E E ?_
  refine oO ?_
  refine⟨fun h2=>?_,fun h2=>?_⟩
  ·rw[if_pos (of_decide_eq_true h2)]at hsj
   refine oO ?_
   refine⟨E,by omega,hk,?_⟩
   rw[e1]
   conv=>whnf
   refine iW ?_
   exact Bs [] q_ ⟨⟨E,E,Ba _,hc,congrArg Aa hsj,E,congrArg Aa q_,E,Y⟩,Y,E,E⟩
  ·rw[if_neg (of_decide_eq_false h2)]at hsj
   refine oO ?_
   refine iW ?_
   exact Bs [] q_ ⟨⟨E,E,Ba _,hc,congrArg Aa hsj,E,congrArg Aa q_,E,Y⟩,Y,E,E⟩
 ·have:j=l.length-1:=qB h
  subst this
  refine oO ?_
  exact dN
def Vq (n:Net) (irb i:Int):Int:=if (nth n.irbs i).vrf=(nth n.irbs irb).vrf then 1 else 0
abbrev InIrbs (n:Net) (i:Int):Prop:=0≤i∧i.toNat<n.irbs.length
theorem Zn (n:Net) (irb i:Int) (hi:InIrbs n i) (hk:InIrbs n irb):Sy.Spec Tryz.prog 385 [Aa i,.ref 8 (Ae n) 0,.ref 1 (Aa irb) 0] [] (Aa (Vq n irb i)) []:=cT F385 Tryz.ntmps385 fun F hF=>by
 rw[Vq,Ad hi.2,Ad hk.2]
 obtain ⟨x,hx⟩:∃ x,n.irbs[i.toNat]'hi.2=x:=⟨_,rfl⟩
 obtain ⟨y,hy⟩:∃ y,n.irbs[irb.toNat]'hk.2=y:=⟨_,rfl⟩
 rw[hx,hy]
 conv=>whnf
 refine⟨E,hi.1,hi.2,?_⟩
 rw[hx]
 conv=>whnf
 refine⟨E,hk.1,hk.2,?_⟩
 rw[hy]
 conv=>whnf
 refine kW ?_
 refine⟨fun h=>?_,fun h=>?_⟩
 ·rw[if_pos (by simpa using h)]
  refine oO ?_
  exact dN
 ·rw[if_neg (by simpa using h)]
  refine oO ?_
  exact dN
def Mw (n:Net) (irb a b:Int):Int:=if (nth n.irbs a).bits≠(nth n.irbs b).bits then (nth n.irbs a).bits-(nth n.irbs b).bits else Vq n irb a-Vq n irb b
theorem Tq (n:Net) (irb i:Int):0≤Vq n irb i∧Vq n irb i≤1:=by
 unfold Vq;split<;>omega
theorem Ag0 (n:Net) (hb:Ac n=true) (irb a b:Int) (hk:InIrbs n irb) (ha:InIrbs n a) (hb2:InIrbs n b) :
  Sy.Spec Tryz.prog 387 [Aa a,Aa b,.ref 8 (Ae n) 0,.ref 1 (.clo (.func 385) [] [.ref 8 (Ae n) 0,.ref 1 (Aa irb) 0]) 0] [] (Aa (Mw n irb a b)) []:=cT F387 Tryz.ntmps387 fun F hF=>by
 have fa:=(B3 hb ha.2).2.2
 have fb:=(B3 hb hb2.2).2.2
 have q1:=Zn n irb a ha hk
 have q2:=Zn n irb b hb2 hk
 have l1:=Tq n irb a
 have l2:=Tq n irb b
 rw[Mw,Ad ha.2,Ad hb2.2]
 obtain ⟨x,hx⟩:∃ x,n.irbs[a.toNat]'ha.2=x:=⟨_,rfl⟩
 obtain ⟨y,hy⟩:∃ y,n.irbs[b.toNat]'hb2.2=y:=⟨_,rfl⟩
 rw[hx]at fa ⊢
 rw[hy]at fb ⊢
 generalize Vq n irb a=oa at *
 generalize Vq n irb b=ob at *
 conv=>whnf
 refine⟨E,ha.1,ha.2,?_⟩
 rw[hx]
 conv=>whnf
 refine⟨E,hb2.1,hb2.2,?_⟩
 rw[hy]
 conv=>whnf
 refine kW ?_
 refine⟨fun h=>?_,fun h=>?_⟩
 ·rw[if_pos (by simpa using h)]
  refine oO ?_
  refine iW ?_
  exact dN
 ·rw[if_neg (by simpa using h)]
  refine oO ?_
  refine Ahv ⟨⟨_,_,F385⟩,q1⟩ E E E E z_ E ?_
  refine oD ?_
  refine Ahv ⟨⟨_,_,F385⟩,q2⟩ E E E E z_ E ?_
  refine oD ?_
  refine iW ?_
  refine kW ?_
  exact dN
def Kb (n:Net) (irb dst:Int) (i:Nat):Bool:=Iu n i == Iu n irb && (nth n.irbs i).addr == dst
def Mj (n:Net) (irb dst:Int) (i:Nat):Bool:=Vu (nth n.irbs i).addr (nth n.irbs i).bits dst && Y0 n irb i
def Dq (n:Net) (irb dst:Int):List Int:=Db (Mj n irb dst) n.irbs.length
def lookT (n:Net) (irb dst:Int):Int × Bool :=
 if (List.range n.irbs.length).any (Kb n irb dst)=true then (0,false)
 else if Dq n irb dst=[] then (0,false) else (Lr (Mw n irb) (Dq n irb dst) ((Dq n irb dst).length-1),true)
theorem Aiy (n:Net) (hn:n.Fin) (hb:Ac n=true) (irb dst:Int) (hk:InIrbs n irb):Sy.Spec Tryz.prog 324 [Ae n,Aa irb,A5 dst] [] (.tup [Aa (lookT n irb dst).1,Ab (lookT n irb dst).2]) []:=cT F324 Tryz.ntmps324 fun F hF=>by
 have hlk:=lookT.eq_1 n irb dst
 generalize lookT n irb dst=r at *
 have hsi:=hn.irbs
 unfold Ag at hsi
 have qk:=Hl n hb irb hk
 conv=>whnf
 refine A1 3 8 (Ae n) E E E ?_
 refine A1 4 1 (Aa irb) E E E ?_
 refine Cq 8 1000 1 Aa E E ?_
 refine Az n.irbs.length (fun j=>∀ i,i<j→Kb n irb dst i=false) (fun j=>[(2,A5 dst),(3,.ref 8 (Ae n) 0),(4,.ref 1 (Aa irb) 0),(8,.osl 1000),(13,.sl 5 Bf n.irbs),(14,Aa n.irbs.length),(15,Aa j)]) (fun j=>[(1000,.row 1 Aa (Db (Mj n irb dst) j))]) [] (fun i hi=>absurd hi q_)
  ⟨⟨rfl,rfl,rfl,rfl,rfl,rfl,rfl,rfl,rfl,rfl,rfl,rfl,rfl,rfl,trivial⟩,⟨.inl rfl,rfl,trivial⟩,rfl,rfl⟩ ?_
 intro j hj hI
 refine oO ?_
 refine⟨fun h=>?_,fun h=>?_⟩
 ·have hlt:j<n.irbs.length:=by simpa using h
  have hij:InIrbs n (j:Int):=⟨by omega,by simpa using hlt⟩
  have qj:=Hl n hb j hij
  have hsucc:=Mr (Mj n irb dst) j
  have hfl:=Hs (Mj n irb dst) j
  have hta:Kb n irb dst j=(Iu n j == Iu n irb && (nth n.irbs j).addr == dst):=rfl
  have hwa:Mj n irb dst j=(Vu (nth n.irbs j).addr (nth n.irbs j).bits dst && Y0 n irb j):=rfl
  have enj:nth n.irbs (j:Int)=n.irbs[j]:=Ad (l:=n.irbs) (i:=(j:Int)) (by simpa using hlt)
  have hf:=(B3 hb hlt).2.2
  have e1:n.irbs[(j:Int).toNat]'q_=n.irbs[j]:=rfl
  rw[enj]at hta hwa
  obtain ⟨x,hx⟩:∃ x,n.irbs[j]=x:=⟨_,rfl⟩
  rw[hx]at e1 hta hwa hf
  have q1:=Vh x.addr x.bits dst hf
  have q2:=Abn n hn hb irb j hk hij
  rw[hwa]at hsucc
  obtain ⟨u,hu⟩:∃ u,Db (Mj n irb dst) j=u:=⟨_,rfl⟩
  rw[hu]at hsucc hfl ⊢
  refine oO ?_
  refine⟨E,by omega,by omega,?_⟩
  rw[e1]
  conv=>whnf
  refine cD qj F382 ?_
  refine oD ?_
  refine cD qk F382 ?_
  refine oD ?_
  refine⟨fun h2=>?_,fun h2=>?_⟩
  ·rw[h2,Bool.true_and]at hta
   refine oD ?_
   refine kW ?_
   refine⟨fun h3=>?_,fun h3=>?_⟩
   ·have:(List.range n.irbs.length).any (Kb n irb dst)=true:=List.any_eq_true.2 ⟨j,by simpa using hlt,hta.trans h3⟩
    rw[if_pos this]at hlk
    subst hlk
    refine oO ?_
    exact dN
   ·have hnt:=hta.trans h3
    refine oO ?_
    refine c0 q1 F383 ?_
    refine oO ?_
    refine⟨fun h4=>?_,fun h4=>?_⟩
    ·rw[h4,Bool.true_and]at hsucc
     refine oO ?_
     refine c0 q2 F384 ?_
     refine oO ?_
     refine⟨fun h5=>?_,fun h5=>?_⟩
     ·rw[if_pos h5]at hsucc
      refine oO ?_
      refine A2 (Ai Γ.toTy 47 E E E E E (.row E) (.lit (e:=Aa) (l:=[(j:Int)]) E E) y_ (by simp;omega) (by simp;omega)) E E ?_
      refine oO ?_
      refine iW ?_
      exact Ay [(1000,47)] hI hlt (fun i hi=>if e:i=j then (by rw[e];exact hnt) else hI i q_) ⟨⟨E,E,E,E,E,E,E,E,E,E,E,E,E,E,Y⟩,⟨.inl (congrArg (Ob.row 1 Aa) hsucc),E,Y⟩,E,E⟩
     ·rw[if_neg (by simp[h5])]at hsucc
      refine oO ?_
      refine iW ?_
      exact Ay [] hI hlt (fun i hi=>if e:i=j then (by rw[e];exact hnt) else hI i q_) ⟨⟨E,E,E,E,E,E,E,E,E,E,E,E,E,E,Y⟩,⟨.inl (congrArg (Ob.row 1 Aa) hsucc),E,Y⟩,E,E⟩
    ·rw[if_neg (by simp[h4])]at hsucc
     refine oF ?_
     refine iW ?_
     exact Ay [] hI hlt (fun i hi=>if e:i=j then (by rw[e];exact hnt) else hI i q_) ⟨⟨E,E,E,E,E,E,E,E,E,E,E,E,E,E,Y⟩,⟨.inl (congrArg (Ob.row 1 Aa) hsucc),E,Y⟩,E,E⟩
  ·have hnt:Kb n irb dst j=false:=by rw[hta,h2,Bool.false_and]
   refine oD ?_
   refine⟨z_,?_⟩
   ((conv=>whnf);refine aF ?_;refine rg ?_;conv=>whnf)
   refine c0 q1 F383 ?_
   refine oO ?_
   refine⟨fun h4=>?_,fun h4=>?_⟩
   ·rw[h4,Bool.true_and]at hsucc
    refine oO ?_
    refine c0 q2 F384 ?_
    refine oO ?_
    refine⟨fun h5=>?_,fun h5=>?_⟩
    ·rw[if_pos h5]at hsucc
     refine oO ?_
     refine A2 (Ai Γ.toTy 47 E E E E E (.row E) (.lit (e:=Aa) (l:=[(j:Int)]) E E) y_ (by simp;omega) (by simp;omega)) E E ?_
     refine oO ?_
     refine iW ?_
     exact Ay [(1000,47)] hI hlt (fun i hi=>if e:i=j then (by rw[e];exact hnt) else hI i q_) ⟨⟨E,E,E,E,E,E,E,E,E,E,E,E,E,E,Y⟩,⟨.inl (congrArg (Ob.row 1 Aa) hsucc),E,Y⟩,E,E⟩
    ·rw[if_neg (by simp[h5])]at hsucc
     refine oO ?_
     refine iW ?_
     exact Ay [] hI hlt (fun i hi=>if e:i=j then (by rw[e];exact hnt) else hI i q_) ⟨⟨E,E,E,E,E,E,E,E,E,E,E,E,E,E,Y⟩,⟨.inl (congrArg (Ob.row 1 Aa) hsucc),E,Y⟩,E,E⟩
   ·rw[if_neg (by simp[h4])]at hsucc
    refine oF ?_
    refine iW ?_
    exact Ay [] hI hlt (fun i hi=>if e:i=j then (by rw[e];exact hnt) else hI i q_) ⟨⟨E,E,E,E,E,E,E,E,E,E,E,E,E,E,Y⟩,⟨.inl (congrArg (Ob.row 1 Aa) hsucc),E,Y⟩,E,E⟩
 ·have:j=n.irbs.length:=qB h
  subst this
  have hno:¬ (List.range n.irbs.length).any (Kb n irb dst)=true:=fun h=>by
   obtain ⟨i,h1,h2⟩:=List.any_eq_true.1 h
   rw[hI i (by simpa using h1)]at h2
   cases h2
  rw[if_neg hno]at hlk
  have hin:∀ y∈Dq n irb dst,InIrbs n y:=fun y hy=>by
   have:=(filtI_mem (p:=Mj n irb dst) (j:=n.irbs.length)).1 hy
   exact⟨this.1,by omega⟩
  have hwl:=Hs (Mj n irb dst) n.irbs.length
  have hwe:Db (Mj n irb dst) n.irbs.length=Dq n irb dst:=rfl
  rw[hwe]at hwl ⊢
  have q:∀ h0:0<(Dq n irb dst).length,_:=fun h0=>Agw (Dq n irb dst) (Mw n irb) 387 [] [.ref 8 (Ae n) 0,.ref 1 (.clo (.func 385) [] [.ref 8 (Ae n) 0,.ref 1 (Aa irb) 0]) 0] rfl h0 (by unfold Ag;omega) (fun y hy z hz=>⟨⟨_,_,F387⟩,Ag0 n hb irb y z hk (hin y hy) (hin z hz)⟩)
  generalize Dq n irb dst=l at *
  refine Ah 1000 E ?_
  refine oO ?_
  refine⟨fun h3=>?_,fun h3=>?_⟩
  ·have h4:l=[]:=by simpa using h3
   rw[if_pos h4]at hlk
   subst hlk
   refine oO ?_
   exact dN
  ·have h4:¬ l=[]:=by simpa using h3
   rw[if_neg h4]at hlk
   have q:=q (List.length_pos_iff.2 h4)
   subst hlk
   refine oO ?_
   refine A1 11 1 (.clo (.func 385) [] [.ref 8 (Ae n) 0,.ref 1 (Aa irb) 0]) E E E ?_
   refine oO ?_
   refine c0 q F386 ?_
   refine oO ?_
   exact dN
theorem Oc (n:Net) (hn:n.Fin) (hb:Ac n=true) (irb dst:Int) (hk:InIrbs n irb):Sy.Spec Tryz.prog 262 [Ae n,Aa irb,A5 dst] [] (.tup [Aa (lookT n irb dst).1,Ab (lookT n irb dst).2]) []:=cT F262 Tryz.ntmps262 fun F hF=>by
 have hr:=Aw n hn
 rw[hb]at hr
 have q:=Aiy n hn hb irb dst hk
 generalize lookT n irb dst=r at *
 ((conv=>whnf);repeat((first|refine aF ?_|refine aT ?_);(first|refine rG Γ hm ?_|refine rD Γ hm z_ ?_);conv=>whnf))
 refine⟨fun h=>absurd (of_decide_eq_true h) q_,fun _=>?_⟩
 ((first|refine rG Γ hm ?_|refine rD Γ hm z_ ?_);(conv=>whnf);repeat((first|refine aF ?_|refine aT ?_);(first|refine rG Γ hm ?_|refine rD Γ hm z_ ?_);conv=>whnf))
 refine⟨fun h=>absurd (of_decide_eq_true h) q_,fun _=>?_⟩
 ((first|refine rG Γ hm ?_|refine rD Γ hm z_ ?_);(conv=>whnf);repeat((first|refine aF ?_|refine aT ?_);(first|refine rG Γ hm ?_|refine rD Γ hm z_ ?_);conv=>whnf))
 refine c0 hr F25 ?_
 ((first|refine rG Γ hm ?_|refine rD Γ hm z_ ?_);(conv=>whnf);repeat((first|refine aF ?_|refine aT ?_);(first|refine rG Γ hm ?_|refine rD Γ hm z_ ?_);conv=>whnf))
 refine c0 q F324 ?_
 ((first|refine rG Γ hm ?_|refine rD Γ hm z_ ?_);(conv=>whnf);repeat((first|refine aF ?_|refine aT ?_);(first|refine rG Γ hm ?_|refine rD Γ hm z_ ?_);conv=>whnf))
 exact dN
theorem Kq {n:Net} {irb dst:Int} (h:(lookT n irb dst).2=true):InIrbs n (lookT n irb dst).1:=by
 unfold lookT at h ⊢
 split at h
 ·cases h
 rename_i h1
 rw[if_neg h1]
 split at h
 ·cases h
 rename_i h2
 rw[if_neg h2]
 have hm:=Ko (Mw n irb) (Dq n irb dst) (List.length_pos_iff.2 h2) ((Dq n irb dst).length-1) (by have:=List.length_pos_iff.2 h2;omega)
 have:=(filtI_mem (p:=Mj n irb dst) (j:=n.irbs.length)).1 hm
 exact⟨this.1,by omega⟩
abbrev Di (n:Net) (a:Int) (r:Bool):List SV:=[.sl 5 Ap n.devices,.sl 7 As n.ports,.sl 3 Bg n.links,.sl 6 Af n.domains,.sl 4 Av n.statics,.sl 4 Ax n.floods,.sl 5 Bh n.vrfs,.sl 5 Bf n.irbs,Aa a,Ab r]
def linkR (n:Net) (a:Int) (w:List ByteArray):Bool × Int :=
 if w.length≠4 then (false,a)
 else if Bo n (nth w 1)<0∨Bo n (nth w 2)<0∨Al n (nth w 3)<0∨inB (Ao n a) (Bo n (nth w 1))=false∨Bu n (Bo n (nth w 1))≠Bo n (nth w 2) then (false,a)
 else ((linkDomT n (Bo n (nth w 1)) (nth n.domains a).vlan).2 && (linkDomT n (Bo n (nth w 1)) (nth n.domains a).vlan).1 == Al n (nth w 3),Al n (nth w 3))
theorem Yd (n:Net) (hn:n.Fin) (hnm:Hc n) (hb:Ac n=true) (a:Int) (r:Bool) (w:List ByteArray) (hw:Ag w) (ha:0≤a∧a.toNat<n.domains.length) :
  Sy.Spec Tryz.prog 189 [.ptr 0 0,.sl 1 Ak w] [(0,.box (Di n a r))] (Ab (linkR n a w).1) [(0,.box (Di n (linkR n a w).2 r))]:=cT F189 Tryz.ntmps189 fun F hF=>by
 have hlk:=linkR.eq_1 n a w
 generalize linkR n a w=res at *
 unfold Ag at hw
 ((conv=>whnf);repeat((first|refine aF ?_|refine aT ?_);(first|refine rG Γ hm ?_|refine rD Γ hm z_ ?_);conv=>whnf))
 refine⟨fun h=>?_,fun h=>?_⟩
 ·have h1:w.length≠4:=by
   intro e
   rw[e]at h
   exact absurd h j_
  rw[if_pos h1]at hlk
  subst hlk
  ((first|refine rG Γ hm ?_|refine rD Γ hm z_ ?_);(conv=>whnf);repeat((first|refine aF ?_|refine aT ?_);(first|refine rG Γ hm ?_|refine rD Γ hm z_ ?_);conv=>whnf))
  exact done E (.cons .tmp .nil) [] [(0,.box (Di n a r))] (fun _ h=>h) E E ⟨Y,⟨.inl E,E,Y⟩,E,E⟩
 have h1:w.length=4:=by
  have:=h
  simp at this
  omega
 rw[if_neg (by simp[h1])]at hlk
 obtain ⟨w0,w1,w2,w3,rfl⟩:∃ w0 w1 w2 w3,w=[w0,w1,w2,w3]:=by
  match w,h1 with
  | [a,b,c,d],_=>exact⟨a,b,c,d,rfl⟩
 have e1:nth [w0,w1,w2,w3] 1=w1:=rfl
 have e2:nth [w0,w1,w2,w3] 2=w2:=rfl
 have e3:nth [w0,w1,w2,w3] 3=w3:=rfl
 rw[e1,e2,e3]at hlk
 have q1:=Hv n hn hnm hb a r w1
 have q2:=Hv n hn hnm hb a r w2
 have q3:=Ef n hn hnm a r w3
 generalize Bo n w1=pt at *
 generalize Bo n w2=fr at *
 generalize Al n w3=nx at *
 have q4:=Id n hn a r pt a
 have q5:=Ji n hn pt
 generalize inB (Ao n a) pt=mem at *
 generalize Bu n pt=ot at *
 rw[Ad ha.2]at hlk
 obtain ⟨d,hd⟩:∃ d,n.domains[a.toNat]'ha.2=d:=⟨_,rfl⟩
 rw[hd]at hlk
 have q6:=Jj n hn pt d.vlan
 generalize linkDomT n pt d.vlan=ld at *
 ((first|refine rG Γ hm ?_|refine rD Γ hm z_ ?_);(conv=>whnf);repeat((first|refine aF ?_|refine aT ?_);(first|refine rG Γ hm ?_|refine rD Γ hm z_ ?_);conv=>whnf))
 refine⟨E,by decide,by simp,?_⟩
 ((conv=>whnf);repeat((first|refine aF ?_|refine aT ?_);(first|refine rG Γ hm ?_|refine rD Γ hm z_ ?_);conv=>whnf))
 refine Hi [0] q1 F93 E (.cons (.box E E E E) (.cons (.refl _) .nil)) E z_ E ?_
 ((first|refine rG Γ hm ?_|refine rD Γ hm z_ ?_);(conv=>whnf);repeat((first|refine aF ?_|refine aT ?_);(first|refine rG Γ hm ?_|refine rD Γ hm z_ ?_);conv=>whnf))
 refine⟨E,by decide,by simp,?_⟩
 ((conv=>whnf);repeat((first|refine aF ?_|refine aT ?_);(first|refine rG Γ hm ?_|refine rD Γ hm z_ ?_);conv=>whnf))
 refine Hi [0] q2 F93 E (.cons (.box E E E E) (.cons (.refl _) .nil)) E z_ E ?_
 ((first|refine rG Γ hm ?_|refine rD Γ hm z_ ?_);(conv=>whnf);repeat((first|refine aF ?_|refine aT ?_);(first|refine rG Γ hm ?_|refine rD Γ hm z_ ?_);conv=>whnf))
 refine⟨E,by decide,by simp,?_⟩
 ((conv=>whnf);repeat((first|refine aF ?_|refine aT ?_);(first|refine rG Γ hm ?_|refine rD Γ hm z_ ?_);conv=>whnf))
 refine Hi [0] q3 F94 E (.cons (.box E E E E) (.cons (.refl _) .nil)) E z_ E ?_
 ((first|refine rG Γ hm ?_|refine rD Γ hm z_ ?_);(conv=>whnf);repeat((first|refine aF ?_|refine aT ?_);(first|refine rG Γ hm ?_|refine rD Γ hm z_ ?_);conv=>whnf))
 refine⟨z_,?_⟩
 ((conv=>whnf);repeat((first|refine aF ?_|refine aT ?_);(first|refine rG Γ hm ?_|refine rD Γ hm z_ ?_);conv=>whnf))
 refine⟨fun h=>?_,fun h=>?_⟩
 ·rw[if_pos (.inl (of_decide_eq_true h))]at hlk
  subst hlk
  ((first|refine rG Γ hm ?_|refine rD Γ hm z_ ?_);(conv=>whnf);repeat((first|refine aF ?_|refine aT ?_);(first|refine rG Γ hm ?_|refine rD Γ hm z_ ?_);conv=>whnf))
  exact done E (.cons .tmp .nil) [] [(0,.box (Di n a r))] (fun _ h=>h) E E ⟨Y,⟨.inl E,E,Y⟩,E,E⟩
 have p1:=of_decide_eq_false h
 ((first|refine rG Γ hm ?_|refine rD Γ hm z_ ?_);(conv=>whnf);repeat((first|refine aF ?_|refine aT ?_);(first|refine rG Γ hm ?_|refine rD Γ hm z_ ?_);conv=>whnf))
 refine⟨fun h=>?_,fun h=>?_⟩
 ·rw[if_pos (.inr (.inl (of_decide_eq_true h)))]at hlk
  subst hlk
  ((first|refine rG Γ hm ?_|refine rD Γ hm z_ ?_);(conv=>whnf);repeat((first|refine aF ?_|refine aT ?_);(first|refine rG Γ hm ?_|refine rD Γ hm z_ ?_);conv=>whnf))
  exact done E (.cons .tmp .nil) [] [(0,.box (Di n a r))] (fun _ h=>h) E E ⟨Y,⟨.inl E,E,Y⟩,E,E⟩
 have p2:=of_decide_eq_false h
 ((first|refine rG Γ hm ?_|refine rD Γ hm z_ ?_);(conv=>whnf);repeat((first|refine aF ?_|refine aT ?_);(first|refine rG Γ hm ?_|refine rD Γ hm z_ ?_);conv=>whnf))
 refine⟨fun h=>?_,fun h=>?_⟩
 ·rw[if_pos (.inr (.inr (.inl (of_decide_eq_true h))))]at hlk
  subst hlk
  ((first|refine rG Γ hm ?_|refine rD Γ hm z_ ?_);(conv=>whnf);repeat((first|refine aF ?_|refine aT ?_);(first|refine rG Γ hm ?_|refine rD Γ hm z_ ?_);conv=>whnf))
  exact done E (.cons .tmp .nil) [] [(0,.box (Di n a r))] (fun _ h=>h) E E ⟨Y,⟨.inl E,E,Y⟩,E,E⟩
 have p3:=of_decide_eq_false h
 ((first|refine rG Γ hm ?_|refine rD Γ hm z_ ?_);(conv=>whnf);repeat((first|refine aF ?_|refine aT ?_);(first|refine rG Γ hm ?_|refine rD Γ hm z_ ?_);conv=>whnf))
 refine Mh [0] q4 F96 E (.cons (.box E E E E) (.cons (.refl _) (.cons (.refl _) .nil))) E E E ?_
 cases mem
 ·rw[if_pos (.inr (.inr (.inr (.inl rfl))))]at hlk
  subst hlk
  ((first|refine rG Γ hm ?_|refine rD Γ hm z_ ?_);(conv=>whnf);repeat((first|refine aF ?_|refine aT ?_);(first|refine rG Γ hm ?_|refine rD Γ hm z_ ?_);conv=>whnf))
  exact done E (.cons .tmp .nil) [] [(0,.box (Di n a r))] (fun _ h=>h) E E ⟨Y,⟨.inl E,E,Y⟩,E,E⟩
 ((first|refine rG Γ hm ?_|refine rD Γ hm z_ ?_);(conv=>whnf);repeat((first|refine aF ?_|refine aT ?_);(first|refine rG Γ hm ?_|refine rD Γ hm z_ ?_);conv=>whnf))
 refine c0 q5 F184 ?_
 ((first|refine rG Γ hm ?_|refine rD Γ hm z_ ?_);(conv=>whnf);repeat((first|refine aF ?_|refine aT ?_);(first|refine rG Γ hm ?_|refine rD Γ hm z_ ?_);conv=>whnf))
 refine⟨fun h=>?_,fun h=>?_⟩
 ·rw[if_pos (.inr (.inr (.inr (.inr (by simpa using h)))))]at hlk
  subst hlk
  ((first|refine rG Γ hm ?_|refine rD Γ hm z_ ?_);(conv=>whnf);repeat((first|refine aF ?_|refine aT ?_);(first|refine rG Γ hm ?_|refine rD Γ hm z_ ?_);conv=>whnf))
  exact done E (.cons .tmp .nil) [] [(0,.box (Di n a r))] (fun _ h=>h) E E ⟨Y,⟨.inl E,E,Y⟩,E,E⟩
 have p5:ot=fr:=by simpa using h
 rw[if_neg (by simp[p1,p2,p3,p5])]at hlk
 ((first|refine rG Γ hm ?_|refine rD Γ hm z_ ?_);(conv=>whnf);repeat((first|refine aF ?_|refine aT ?_);(first|refine rG Γ hm ?_|refine rD Γ hm z_ ?_);conv=>whnf))
 refine⟨E,ha.1,ha.2,?_⟩
 rw[hd]
 ((conv=>whnf);repeat((first|refine aF ?_|refine aT ?_);(first|refine rG Γ hm ?_|refine rD Γ hm z_ ?_);conv=>whnf))
 refine cD q6 F167 ?_
 ((first|refine rG Γ hm ?_|refine rD Γ hm z_ ?_);(conv=>whnf);repeat((first|refine aF ?_|refine aT ?_);(first|refine rG Γ hm ?_|refine rD Γ hm z_ ?_);conv=>whnf))
 refine⟨z_,?_⟩
 ((conv=>whnf);repeat((first|refine aF ?_|refine aT ?_);(first|refine rG Γ hm ?_|refine rD Γ hm z_ ?_);conv=>whnf))
 obtain ⟨to,ok⟩:=ld
 subst hlk
 refine⟨fun h=>?_,fun h=>?_⟩<;>(have h:ok=_:=h;subst h)
 ·((first|refine rG Γ hm ?_|refine rD Γ hm z_ ?_);(conv=>whnf);repeat((first|refine aF ?_|refine aT ?_);(first|refine rG Γ hm ?_|refine rD Γ hm z_ ?_);conv=>whnf))
  exact done E (.cons .tmp .nil) [] [(0,.box (Di n nx r))] (fun _ h=>h) E E ⟨Y,⟨.inl E,E,Y⟩,E,E⟩
 ·((first|refine rG Γ hm ?_|refine rD Γ hm z_ ?_);(conv=>whnf);repeat((first|refine aF ?_|refine aT ?_);(first|refine rG Γ hm ?_|refine rD Γ hm z_ ?_);conv=>whnf))
  exact done E (.cons .tmp .nil) [] [(0,.box (Di n nx r))] (fun _ h=>h) E E ⟨Y,⟨.inl E,E,Y⟩,E,E⟩
theorem S5 (n:Net) (s:ByteArray):Al n s<n.domains.length∧-1≤Al n s:=by
 unfold Al
 split
 ·rename_i i hi
  have:=List.mem_of_find?_eq_some hi
  simp only[List.mem_range]at this
  omega
 ·omega
def meshR (n:Net) (a:Int) (w:List ByteArray):Bool × Int :=
 if w.length≠3 then (false,a)
 else if Al n (nth w 2)<0∨inB (nth n.domains a).peers (Al n (nth w 2))=false∨(Dx (nth n.domains (Al n (nth w 2))).vni == nth w 1)=false then (false,a)
 else (true,Al n (nth w 2))
theorem Yc (n:Net) (hn:n.Fin) (hnm:Hc n) (hb:Ac n=true) (a:Int) (r:Bool) (w:List ByteArray) (hw:Ag w) (ha:0≤a∧a.toNat<n.domains.length) :
  Sy.Spec Tryz.prog 190 [.ptr 0 0,.sl 1 Ak w] [(0,.box (Di n a r))] (Ab (meshR n a w).1) [(0,.box (Di n (meshR n a w).2 r))]:=cT F190 Tryz.ntmps190 fun F hF=>by
 have hlk:=meshR.eq_1 n a w
 generalize meshR n a w=res at *
 unfold Ag at hw
 ((conv=>whnf);repeat((first|refine aF ?_|refine aT ?_);(first|refine rG Γ hm ?_|refine rD Γ hm z_ ?_);conv=>whnf))
 refine⟨fun h=>?_,fun h=>?_⟩
 ·have h1:w.length≠3:=by
   intro e
   rw[e]at h
   exact absurd h j_
  rw[if_pos h1]at hlk
  subst hlk
  ((first|refine rG Γ hm ?_|refine rD Γ hm z_ ?_);(conv=>whnf);repeat((first|refine aF ?_|refine aT ?_);(first|refine rG Γ hm ?_|refine rD Γ hm z_ ?_);conv=>whnf))
  exact done E (.cons .tmp .nil) [] [(0,.box (Di n a r))] (fun _ h=>h) E E ⟨Y,⟨.inl E,E,Y⟩,E,E⟩
 have h1:w.length=3:=by
  have:=h
  simp at this
  omega
 rw[if_neg (by simp[h1])]at hlk
 obtain ⟨w0,w1,w2,rfl⟩:∃ w0 w1 w2,w=[w0,w1,w2]:=by
  match w,h1 with
  | [a,b,c],_=>exact⟨a,b,c,rfl⟩
 have e1:nth [w0,w1,w2] 1=w1:=rfl
 have e2:nth [w0,w1,w2] 2=w2:=rfl
 rw[e1,e2]at hlk
 have q3:=Ef n hn hnm a r w2
 have hnx:=S5 n w2
 generalize Al n w2=nx at *
 rw[Ad ha.2]at hlk
 have hpe:=hn.peers _ (List.getElem_mem ha.2)
 have q4:=Dk (n.domains[a.toNat]'ha.2).peers nx hpe
 ((first|refine rG Γ hm ?_|refine rD Γ hm z_ ?_);(conv=>whnf);repeat((first|refine aF ?_|refine aT ?_);(first|refine rG Γ hm ?_|refine rD Γ hm z_ ?_);conv=>whnf))
 refine⟨E,by decide,by simp,?_⟩
 ((conv=>whnf);repeat((first|refine aF ?_|refine aT ?_);(first|refine rG Γ hm ?_|refine rD Γ hm z_ ?_);conv=>whnf))
 refine Mh [0] q3 F94 E (.cons (.box E E E E) (.cons (.refl _) .nil)) E E E ?_
 ((first|refine rG Γ hm ?_|refine rD Γ hm z_ ?_);(conv=>whnf);repeat((first|refine aF ?_|refine aT ?_);(first|refine rG Γ hm ?_|refine rD Γ hm z_ ?_);conv=>whnf))
 refine⟨fun h=>?_,fun h=>?_⟩
 ·rw[if_pos (.inl (of_decide_eq_true h))]at hlk
  subst hlk
  ((first|refine rG Γ hm ?_|refine rD Γ hm z_ ?_);(conv=>whnf);repeat((first|refine aF ?_|refine aT ?_);(first|refine rG Γ hm ?_|refine rD Γ hm z_ ?_);conv=>whnf))
  refine⟨z_,?_⟩
  ((conv=>whnf);repeat((first|refine aF ?_|refine aT ?_);(first|refine rG Γ hm ?_|refine rD Γ hm z_ ?_);conv=>whnf))
  exact done E (.cons .tmp .nil) [] [(0,.box (Di n a r))] (fun _ h=>h) E E ⟨Y,⟨.inl E,E,Y⟩,E,E⟩
 have p1:¬ nx<0:=of_decide_eq_false h
 have hk:nx.toNat<n.domains.length:=by omega
 rw[Ad hk]at hlk
 have hf:=(Ce hb hk).2.2.1
 obtain ⟨v,hv⟩:∃ v:Nat,(n.domains[nx.toNat]'hk).vni=v:=⟨(n.domains[nx.toNat]'hk).vni.toNat,by omega⟩
 have q5:=Uf v q_
 rw[← hv]at q5
 generalize hnv:Dx (n.domains[nx.toNat]'hk).vni=nv at *
 ((first|refine rG Γ hm ?_|refine rD Γ hm z_ ?_);(conv=>whnf);repeat((first|refine aF ?_|refine aT ?_);(first|refine rG Γ hm ?_|refine rD Γ hm z_ ?_);conv=>whnf))
 refine⟨E,ha.1,ha.2,?_⟩
 ((conv=>whnf);repeat((first|refine aF ?_|refine aT ?_);(first|refine rG Γ hm ?_|refine rD Γ hm z_ ?_);conv=>whnf))
 refine cD q4 F100 ?_
 cases hin:inB (n.domains[a.toNat]'ha.2).peers nx
 ·rw[if_pos (.inr (.inl hin))]at hlk
  subst hlk
  ((first|refine rG Γ hm ?_|refine rD Γ hm z_ ?_);(conv=>whnf);repeat((first|refine aF ?_|refine aT ?_);(first|refine rG Γ hm ?_|refine rD Γ hm z_ ?_);conv=>whnf))
  refine⟨z_,?_⟩
  ((conv=>whnf);repeat((first|refine aF ?_|refine aT ?_);(first|refine rG Γ hm ?_|refine rD Γ hm z_ ?_);conv=>whnf))
  exact done E (.cons .tmp .nil) [] [(0,.box (Di n a r))] (fun _ h=>h) E E ⟨Y,⟨.inl E,E,Y⟩,E,E⟩
 ((first|refine rG Γ hm ?_|refine rD Γ hm z_ ?_);(conv=>whnf);repeat((first|refine aF ?_|refine aT ?_);(first|refine rG Γ hm ?_|refine rD Γ hm z_ ?_);conv=>whnf))
 refine⟨E,by omega,hk,?_⟩
 ((conv=>whnf);repeat((first|refine aF ?_|refine aT ?_);(first|refine rG Γ hm ?_|refine rD Γ hm z_ ?_);conv=>whnf))
 refine cD q5 F117 ?_
 ((first|refine rG Γ hm ?_|refine rD Γ hm z_ ?_);(conv=>whnf);repeat((first|refine aF ?_|refine aT ?_);(first|refine rG Γ hm ?_|refine rD Γ hm z_ ?_);conv=>whnf))
 refine⟨E,by decide,by simp,?_⟩
 ((conv=>whnf);repeat((first|refine aF ?_|refine aT ?_);(first|refine rG Γ hm ?_|refine rD Γ hm z_ ?_);conv=>whnf))
 refine⟨z_,?_⟩
 ((conv=>whnf);repeat((first|refine aF ?_|refine aT ?_);(first|refine rG Γ hm ?_|refine rD Γ hm z_ ?_);conv=>whnf))
 refine⟨fun h=>?_,fun h=>?_⟩
 ·rw[if_pos (.inr (.inr (by simpa using h)))]at hlk
  subst hlk
  ((first|refine rG Γ hm ?_|refine rD Γ hm z_ ?_);(conv=>whnf);repeat((first|refine aF ?_|refine aT ?_);(first|refine rG Γ hm ?_|refine rD Γ hm z_ ?_);conv=>whnf))
  exact done E (.cons .tmp .nil) [] [(0,.box (Di n a r))] (fun _ h=>h) E E ⟨Y,⟨.inl E,E,Y⟩,E,E⟩
 ·have h5:(nv == w1)=true:=by simpa using h
  rw[if_neg (by simp only[hin,h5,p1];simp)]at hlk
  subst hlk
  ((first|refine rG Γ hm ?_|refine rD Γ hm z_ ?_);(conv=>whnf);repeat((first|refine aF ?_|refine aT ?_);(first|refine rG Γ hm ?_|refine rD Γ hm z_ ?_);conv=>whnf))
  exact done E (.cons .tmp .nil) [] [(0,.box (Di n nx r))] (fun _ h=>h) E E ⟨Y,⟨.inl E,E,Y⟩,E,E⟩
theorem Aee (x:Int) (i:Irb):Sy.Spec Tryz.prog 264 [Bf i,.ref 1 (A5 x) 0] [] (Ab (i.addr == x)) []:=cT F264 Tryz.ntmps264 fun F hF=>by
 ((conv=>whnf);repeat((first|refine aF ?_|refine aT ?_);(first|refine rG Γ hm ?_|refine rD Γ hm z_ ?_);conv=>whnf))
 exact dN
def routeR (n:Net) (a:Int) (r:Bool) (w:List ByteArray) (rd:ByteArray→Int × Bool):Bool × Int × Bool :=
 if w.length≠3∨r=true∨(nth n.domains a).irb<0 then (false,a,r)
 else if (rd (nth w 1)).2=false∨Al n (nth w 2)<0∨(lookT n (nth n.domains a).irb (rd (nth w 1)).1).2=false∨0≤Bd (fun i:Irb=>i.addr == (rd (nth w 1)).1) n.irbs ∨
   (nth n.irbs (lookT n (nth n.domains a).irb (rd (nth w 1)).1).1).domain≠Al n (nth w 2) then (false,a,r)
 else (true,Al n (nth w 2),true)
theorem V8 (n:Net) (hn:n.Fin) (hnm:Hc n) (hb:Ac n=true) (a:Int) (r:Bool) (w:List ByteArray) (rd:ByteArray→Int × Bool) (hw:Ag w) (ha:0≤a∧a.toNat<n.domains.length)
  (hrd:∀ s∈w,Sy.Spec Tryz.prog 237 [Ak s] [] (.tup [A5 (rd s).1,Ab (rd s).2]) []) :
  Sy.Spec Tryz.prog 188 [.ptr 0 0,.sl 1 Ak w] [(0,.box (Di n a r))] (Ab (routeR n a r w rd).1) [(0,.box (Di n (routeR n a r w rd).2.1 (routeR n a r w rd).2.2))]:=cT F188 Tryz.ntmps188 fun F hF=>by
 have hlk:=routeR.eq_1 n a r w rd
 generalize routeR n a r w rd=res at *
 unfold Ag at hw
 ((conv=>whnf);repeat((first|refine aF ?_|refine aT ?_);(first|refine rG Γ hm ?_|refine rD Γ hm z_ ?_);conv=>whnf))
 refine⟨fun h=>?_,fun h=>?_⟩
 ·have h1:w.length≠3:=by
   intro e
   rw[e]at h
   exact absurd h j_
  rw[if_pos (.inl h1)]at hlk
  subst hlk
  ((first|refine rG Γ hm ?_|refine rD Γ hm z_ ?_);(conv=>whnf);repeat((first|refine aF ?_|refine aT ?_);(first|refine rG Γ hm ?_|refine rD Γ hm z_ ?_);conv=>whnf))
  refine⟨z_,?_⟩
  ((conv=>whnf);repeat((first|refine aF ?_|refine aT ?_);(first|refine rG Γ hm ?_|refine rD Γ hm z_ ?_);conv=>whnf))
  exact done E (.cons .tmp .nil) [] [(0,.box (Di n a r))] (fun _ h=>h) E E ⟨Y,⟨.inl E,E,Y⟩,E,E⟩
 have h1:w.length=3:=by
  have:=h
  simp at this
  omega
 obtain ⟨w0,w1,w2,rfl⟩:∃ w0 w1 w2,w=[w0,w1,w2]:=by
  match w,h1 with
  | [a,b,c],_=>exact⟨a,b,c,rfl⟩
 have e1:nth [w0,w1,w2] 1=w1:=rfl
 have e2:nth [w0,w1,w2] 2=w2:=rfl
 rw[e1,e2,Ad ha.2]at hlk
 have q1:=hrd w1 y_
 generalize rd w1=x at *
 obtain ⟨x,ok⟩:=x
 dsimp only at q1 hlk
 ((first|refine rG Γ hm ?_|refine rD Γ hm z_ ?_);(conv=>whnf);repeat((first|refine aF ?_|refine aT ?_);(first|refine rG Γ hm ?_|refine rD Γ hm z_ ?_);conv=>whnf))
 refine⟨fun h=>?_,fun h=>?_⟩
 ·rw[if_pos (.inr (.inl h))]at hlk
  subst hlk
  ((first|refine rG Γ hm ?_|refine rD Γ hm z_ ?_);(conv=>whnf);repeat((first|refine aF ?_|refine aT ?_);(first|refine rG Γ hm ?_|refine rD Γ hm z_ ?_);conv=>whnf))
  refine⟨z_,?_⟩
  ((conv=>whnf);repeat((first|refine aF ?_|refine aT ?_);(first|refine rG Γ hm ?_|refine rD Γ hm z_ ?_);conv=>whnf))
  exact done E (.cons .tmp .nil) [] [(0,.box (Di n a r))] (fun _ h=>h) E E ⟨Y,⟨.inl E,E,Y⟩,E,E⟩
 have h2:r=false:=h
 subst h2
 ((first|refine rG Γ hm ?_|refine rD Γ hm z_ ?_);(conv=>whnf);repeat((first|refine aF ?_|refine aT ?_);(first|refine rG Γ hm ?_|refine rD Γ hm z_ ?_);conv=>whnf))
 refine⟨E,ha.1,ha.2,?_⟩
 ((conv=>whnf);repeat((first|refine aF ?_|refine aT ?_);(first|refine rG Γ hm ?_|refine rD Γ hm z_ ?_);conv=>whnf))
 refine⟨z_,?_⟩
 ((conv=>whnf);repeat((first|refine aF ?_|refine aT ?_);(first|refine rG Γ hm ?_|refine rD Γ hm z_ ?_);conv=>whnf))
 refine⟨fun h=>?_,fun h=>?_⟩
 ·rw[if_pos (.inr (.inr (of_decide_eq_true h)))]at hlk
  subst hlk
  ((first|refine rG Γ hm ?_|refine rD Γ hm z_ ?_);(conv=>whnf);repeat((first|refine aF ?_|refine aT ?_);(first|refine rG Γ hm ?_|refine rD Γ hm z_ ?_);conv=>whnf))
  exact done E (.cons .tmp .nil) [] [(0,.box (Di n a false))] (fun _ h=>h) E E ⟨Y,⟨.inl E,E,Y⟩,E,E⟩
 have h3:¬ (n.domains[a.toNat]'ha.2).irb<0:=of_decide_eq_false h
 have hirb:InIrbs n (n.domains[a.toNat]'ha.2).irb:=by
  have:=(Ce hb ha.2).2.2.2
  exact⟨by omega,by omega⟩
 rw[if_neg (by simp[h3])]at hlk
 have q3:=Ef n hn hnm a false w2
 generalize Al n w2=nx at *
 have q6:=Oc n hn hb _ x hirb
 have hth:=Kq (n:=n) (irb:=(n.domains[a.toNat]'ha.2).irb) (dst:=x)
 generalize lookT n (n.domains[a.toNat]'ha.2).irb x=ld at *
 obtain ⟨to,is⟩:=ld
 dsimp only at q6 hlk hth
 have q7:=Dc n.irbs (fun i:Irb=>i.addr == x) 264 [] [.ref 1 (A5 x) 0] rfl (fun i _=>⟨⟨_,_,F264⟩,Aee x i⟩) hn.irbs
 generalize hid:Bd (fun i:Irb=>i.addr == x) n.irbs=id at *
 ((first|refine rG Γ hm ?_|refine rD Γ hm z_ ?_);(conv=>whnf);repeat((first|refine aF ?_|refine aT ?_);(first|refine rG Γ hm ?_|refine rD Γ hm z_ ?_);conv=>whnf))
 refine⟨E,by decide,by simp,?_⟩
 ((conv=>whnf);repeat((first|refine aF ?_|refine aT ?_);(first|refine rG Γ hm ?_|refine rD Γ hm z_ ?_);conv=>whnf))
 refine c0 q1 F237 ?_
 ((first|refine rG Γ hm ?_|refine rD Γ hm z_ ?_);(conv=>whnf);repeat((first|refine aF ?_|refine aT ?_);(first|refine rG Γ hm ?_|refine rD Γ hm z_ ?_);conv=>whnf))
 refine⟨E,by decide,by simp,?_⟩
 ((conv=>whnf);repeat((first|refine aF ?_|refine aT ?_);(first|refine rG Γ hm ?_|refine rD Γ hm z_ ?_);conv=>whnf))
 refine Mh [0] q3 F94 E (.cons (.box E E E E) (.cons (.refl _) .nil)) E E E ?_
 ((first|refine rG Γ hm ?_|refine rD Γ hm z_ ?_);(conv=>whnf);repeat((first|refine aF ?_|refine aT ?_);(first|refine rG Γ hm ?_|refine rD Γ hm z_ ?_);conv=>whnf))
 refine⟨E,ha.1,ha.2,?_⟩
 ((conv=>whnf);repeat((first|refine aF ?_|refine aT ?_);(first|refine rG Γ hm ?_|refine rD Γ hm z_ ?_);conv=>whnf))
 refine cD q6 F262 ?_
 ((first|refine rG Γ hm ?_|refine rD Γ hm z_ ?_);(conv=>whnf);repeat((first|refine aF ?_|refine aT ?_);(first|refine rG Γ hm ?_|refine rD Γ hm z_ ?_);conv=>whnf))
 refine⟨z_,?_⟩
 ((conv=>whnf);repeat((first|refine aF ?_|refine aT ?_);(first|refine rG Γ hm ?_|refine rD Γ hm z_ ?_);conv=>whnf))
 refine A1 5 1 (A5 x) E E E ?_
 ((first|refine rG Γ hm ?_|refine rD Γ hm z_ ?_);(conv=>whnf);repeat((first|refine aF ?_|refine aT ?_);(first|refine rG Γ hm ?_|refine rD Γ hm z_ ?_);conv=>whnf))
 refine c0 q7 F263 ?_
 ((first|refine rG Γ hm ?_|refine rD Γ hm z_ ?_);(conv=>whnf);repeat((first|refine aF ?_|refine aT ?_);(first|refine rG Γ hm ?_|refine rD Γ hm z_ ?_);conv=>whnf))
 refine⟨fun h=>?_,fun h=>?_⟩
 ·rw[if_pos (.inl (by simpa using h))]at hlk
  subst hlk
  ((first|refine rG Γ hm ?_|refine rD Γ hm z_ ?_);(conv=>whnf);repeat((first|refine aF ?_|refine aT ?_);(first|refine rG Γ hm ?_|refine rD Γ hm z_ ?_);conv=>whnf))
  exact done E (.cons .tmp .nil) [] [(0,.box (Di n a false))] (fun _ h=>h) E E ⟨Y,⟨.inl E,E,Y⟩,E,E⟩
 have p0:ok=true:=by simpa using h
 ((first|refine rG Γ hm ?_|refine rD Γ hm z_ ?_);(conv=>whnf);repeat((first|refine aF ?_|refine aT ?_);(first|refine rG Γ hm ?_|refine rD Γ hm z_ ?_);conv=>whnf))
 refine⟨fun h=>?_,fun h=>?_⟩
 ·rw[if_pos (.inr (.inl (of_decide_eq_true h)))]at hlk
  subst hlk
  ((first|refine rG Γ hm ?_|refine rD Γ hm z_ ?_);(conv=>whnf);repeat((first|refine aF ?_|refine aT ?_);(first|refine rG Γ hm ?_|refine rD Γ hm z_ ?_);conv=>whnf))
  exact done E (.cons .tmp .nil) [] [(0,.box (Di n a false))] (fun _ h=>h) E E ⟨Y,⟨.inl E,E,Y⟩,E,E⟩
 have p1:¬ nx<0:=of_decide_eq_false h
 ((first|refine rG Γ hm ?_|refine rD Γ hm z_ ?_);(conv=>whnf);repeat((first|refine aF ?_|refine aT ?_);(first|refine rG Γ hm ?_|refine rD Γ hm z_ ?_);conv=>whnf))
 refine⟨fun h=>?_,fun h=>?_⟩
 ·rw[if_pos (.inr (.inr (.inl (by simpa using h))))]at hlk
  subst hlk
  ((first|refine rG Γ hm ?_|refine rD Γ hm z_ ?_);(conv=>whnf);repeat((first|refine aF ?_|refine aT ?_);(first|refine rG Γ hm ?_|refine rD Γ hm z_ ?_);conv=>whnf))
  exact done E (.cons .tmp .nil) [] [(0,.box (Di n a false))] (fun _ h=>h) E E ⟨Y,⟨.inl E,E,Y⟩,E,E⟩
 have p2:is=true:=by simpa using h
 have hto:=hth p2
 rw[Ad hto.2]at hlk
 ((first|refine rG Γ hm ?_|refine rD Γ hm z_ ?_);(conv=>whnf);repeat((first|refine aF ?_|refine aT ?_);(first|refine rG Γ hm ?_|refine rD Γ hm z_ ?_);conv=>whnf))
 refine⟨fun h=>?_,fun h=>?_⟩
 ·rw[if_pos (.inr (.inr (.inr (.inl (of_decide_eq_true h)))))]at hlk
  subst hlk
  ((first|refine rG Γ hm ?_|refine rD Γ hm z_ ?_);(conv=>whnf);repeat((first|refine aF ?_|refine aT ?_);(first|refine rG Γ hm ?_|refine rD Γ hm z_ ?_);conv=>whnf))
  exact done E (.cons .tmp .nil) [] [(0,.box (Di n a false))] (fun _ h=>h) E E ⟨Y,⟨.inl E,E,Y⟩,E,E⟩
 have p3:¬ 0≤id:=of_decide_eq_false h
 ((first|refine rG Γ hm ?_|refine rD Γ hm z_ ?_);(conv=>whnf);repeat((first|refine aF ?_|refine aT ?_);(first|refine rG Γ hm ?_|refine rD Γ hm z_ ?_);conv=>whnf))
 refine⟨E,hto.1,hto.2,?_⟩
 ((conv=>whnf);repeat((first|refine aF ?_|refine aT ?_);(first|refine rG Γ hm ?_|refine rD Γ hm z_ ?_);conv=>whnf))
 refine⟨fun h=>?_,fun h=>?_⟩
 ·rw[if_pos (.inr (.inr (.inr (.inr (by simpa using h)))))]at hlk
  subst hlk
  ((first|refine rG Γ hm ?_|refine rD Γ hm z_ ?_);(conv=>whnf);repeat((first|refine aF ?_|refine aT ?_);(first|refine rG Γ hm ?_|refine rD Γ hm z_ ?_);conv=>whnf))
  exact done E (.cons .tmp .nil) [] [(0,.box (Di n a false))] (fun _ h=>h) E E ⟨Y,⟨.inl E,E,Y⟩,E,E⟩
 have p4:(n.irbs[to.toNat]'hto.2).domain=nx:=by simpa using h
 rw[if_neg (by simp only[p0,p1,p2,p3,p4];simp)]at hlk
 subst hlk
 ((first|refine rG Γ hm ?_|refine rD Γ hm z_ ?_);(conv=>whnf);repeat((first|refine aF ?_|refine aT ?_);(first|refine rG Γ hm ?_|refine rD Γ hm z_ ?_);conv=>whnf))
 first | (refine⟨z_,?_⟩;((conv=>whnf);repeat((first|refine aF ?_|refine aT ?_);(first|refine rG Γ hm ?_|refine rD Γ hm z_ ?_);conv=>whnf))) | skip
 exact done E (.cons .tmp .nil) [] [(0,.box (Di n nx true))] (fun _ h=>h) E E ⟨Y,⟨.inl E,E,Y⟩,E,E⟩
end Go.Sy.YtjenpnjajjplkaaGreatDoor
namespace Go.Sy.YtjenpnjajjplkaaGreatDoor
open Go.Proofs
set_option maxRecDepth 20000
set_option maxHeartbeats 4000000
theorem Le {x:Int} (h0:0≤x) (h1:x<4294967297):IntKind.i64.wrap x=x:=by
 rw[IntKind.wrap_i64];omega
theorem Ad0 {x:Int} (h0:0≤x) (h1:x<4294967296):IntKind.u32.wrap x=x:=by
 rw[IntKind.wrap_u32];omega
theorem Wj (b:Int) (h:0≤b∧b≤32):Y7 b=((2 ^ (32-b).toNat-1:Nat):Int):=by
 obtain ⟨k,hk,hk2⟩:∃ k:Nat,(32-b).toNat=k∧k≤32:=⟨_,rfl,by omega⟩
 have h1:min (32-b).toNat IntKind.u32.bits=k:=by show min (32-b).toNat 32=k;omega
 have hp:=Nat.pow_le_pow_right (n:=2) j_ hk2
 have e32:(2:Nat) ^ 32=4294967296:=rfl
 rw[e32]at hp
 have h0:=Nat.one_le_two_pow (n:=k)
 rw[Y7,h1,hk,IntKind.wrap_u32,IntKind.wrap_u32,show (2:Int) ^ k=((2 ^ k:Nat):Int) by rw[Int.natCast_pow];rfl]
 generalize 2 ^ k=q at *
 omega
theorem Kw (a b x:Int) (hb:0≤b∧b≤32) (ha:0≤a∧a<4294967296) (hx:0≤x∧x<4294967296):Vu a b x=true↔B2 a b≤x∧x≤Cy a b:=by
 obtain ⟨a,rfl⟩:=Int.eq_ofNat_of_zero_le ha.1
 obtain ⟨x,rfl⟩:=Int.eq_ofNat_of_zero_le hx.1
 obtain ⟨k,hk,hk2⟩:∃ k:Nat,(32-b).toNat=k∧k≤32:=⟨_,rfl,by omega⟩
 have h0:=Nat.one_le_two_pow (n:=k)
 rw[Vu,Wj b hb,hk,Agx a x k q_ q_ hk2,decide_eq_true_iff,Aec a x (2 ^ k) q_,Ep a k b hb hk,Q1 a k b hb hk]
 omega
theorem I5 (a b:Int) (ha:0≤a∧a<4294967296):0≤Cy a b∧Cy a b<4294967296:=by
 by_cases hb:0≤b∧b≤32
 ·obtain ⟨a,rfl⟩:=Int.eq_ofNat_of_zero_le ha.1
  obtain ⟨k,hk,hk2⟩:∃ k:Nat,(32-b).toNat=k∧k≤32:=⟨_,rfl,by omega⟩
  have h0:=Nat.one_le_two_pow (n:=k)
  rw[Q1 a k b hb hk]
  have hd:a-a % 2 ^ k=2 ^ k * (a / 2 ^ k):=by have:=Nat.div_add_mod a (2 ^ k);omega
  have h32:2 ^ k * 2 ^ (32-k)=4294967296:=by
   rw[← Nat.pow_add,show k+(32-k)=32 by omega]
  have:a / 2 ^ k<2 ^ (32-k):=by rw[Nat.div_lt_iff_lt_mul q_,Nat.mul_comm,h32];omega
  have:2 ^ k * (a / 2 ^ k)+2 ^ k≤2 ^ k * 2 ^ (32-k):=by
   rw[← Nat.mul_succ];exact Nat.mul_le_mul_left _ this
  omega
 ·rw[Cy,if_neg hb];omega
theorem Q6 (a b:Int) (ha:0≤a∧a<4294967296):0≤B2 a b∧B2 a b<4294967296:=by
 by_cases hb:0≤b∧b≤32
 ·obtain ⟨a,rfl⟩:=Int.eq_ofNat_of_zero_le ha.1
  rw[Ep a _ b hb rfl]
  omega
 ·rw[B2,if_neg hb];omega
end Go.Sy.YtjenpnjajjplkaaGreatDoor
