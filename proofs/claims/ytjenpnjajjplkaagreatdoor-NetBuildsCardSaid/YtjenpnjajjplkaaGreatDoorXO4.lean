/-
  E3 E4 Sy29 B0 D1 E36 E37 E5 E6 M12 M13 M14 V2 V3 V4 V5 X1 D2 M1 M2 M15 A1 A3 Sy20 Sy21 A4 R1 R2 A5 R3 R5 R6 A6 R7 R8 K0: parts of a proof, joined by program.
-/
import Derived.Test.YtjenpnjajjplkaaGreatDoorXO3
import Derived.RangeFuncNested
import Derived.RangeFuncCalls
import Derived.RangeFuncLeaves
import Derived.Shelf.Abstract
import Derived.Shelf.RegionOpen
import Derived.WalkKit
import Derived.OwnWalkIn
import Derived.TacticsInMore
import Derived.LoopNIn
import Derived.LoopIn
import Derived.Test.YtjenpnjajjplkaaGreatDoorProg
import Derived.Test.YtjenpnjajjplkaaGreatDoorXO2
import Derived.ProofKit
import Derived.OpenShut
import Derived.Scope
import Derived.Laws.Bits64b
set_option linter.all false
set_option linter.unusedVariables false
set_option linter.unusedSimpArgs false
set_option linter.deprecated false
namespace Go.Sy.YtjenpnjajjplkaaGreatDoor
open Go.Proofs
def Qm {α:Type} (l:List α) (j:Nat):List α:=List.ofFn fun i:Fin l.length=>if i.1<j∨l.length-j≤i.1 then l[l.length-1-i.1] else l[i.1]
theorem D1 {α:Type} (l:List α) (j:Nat):(Qm l j).length=l.length:=by simp[Qm]
theorem Ld {α:Type} (l:List α) (j i:Nat) (h:i<l.length):(Qm l j)[i]'(by rw[D1];exact h)=if i<j∨l.length-j≤i then l[l.length-1-i] else l[i]:=by simp[Qm]
theorem Zt {α:Type} (l:List α):Qm l 0=l:=by
 apply List.ext_getElem (D1 l 0)
 intro i h1 h2
 rw[Ld l 0 i h2,if_neg z_]
theorem Ac1 {α:Type} (l:List α) (j:Nat) (h:l.length≤2 * j+1):Qm l j=l.reverse:=by
 apply List.ext_getElem (by rw[D1,List.length_reverse])
 intro i h1 h2
 have hi:i<l.length:=by rw[D1]at h1;exact h1
 rw[Ld l j i hi,List.getElem_reverse]
 split
 ·rfl
 ·congr 1;omega
theorem Akc {α:Type} (l:List α) (j:Nat) (h:2 * j+1<l.length) :
  ((Qm l j).set j ((Qm l j)[l.length-1-j]'(by rw[D1];omega))).set (l.length-1-j) ((Qm l j)[j]'(by rw[D1];omega))=Qm l (j+1):=by
 apply List.ext_getElem (by simp only[List.length_set,D1])
 intro i h1 h2
 have hi:i<l.length:=by rw[D1]at h2;exact h2
 rw[List.getElem_set,List.getElem_set,Ld l (j+1) i hi,Ld l j i hi,Ld l j _ z_,Ld l j _ z_]
 by_cases e1:l.length-1-j=i
 ·rw[if_pos e1,if_neg z_,if_pos z_]
  congr 1;omega
 ·rw[if_neg e1]
  by_cases e2:j=i
  ·rw[if_pos e2,if_neg z_,if_pos z_]
   congr 1;omega
  ·rw[if_neg e2]
   by_cases e3:i<j∨l.length-j≤i
   ·rw[if_pos e3,if_pos z_]
   ·rw[if_neg e3,if_neg z_]
theorem Zu {α:Type} {l u:List α} {j k:Nat} (hu:Qm l j=u) (h:2 * j+1<l.length) (hk:l.length-1-j=k) (h1:k<u.length) (h2:j<u.length):(u.set j u[k]).set k u[j]=Qm l (j+1):=by
 subst hu hk
 exact Akc l j h
def revDigs (u:Nat):List UInt8:=if u<10 then [UInt8.ofNat (48+u)] else UInt8.ofNat (48+u % 10)::revDigs (u / 10)
theorem H3 (u:Nat):0<(revDigs u).length:=by
 rw[revDigs];split<;>simp
theorem H4:∀ (j u:Nat),j+1<(revDigs u).length↔0<u / 10 ^ (j+1)
 | 0,u=>by
  rw[revDigs]
  split
  ·simp;omega
  ·have:=H3 (u / 10)
   simp only[List.length_cons];omega
 | j+1,u=>by
  rw[revDigs]
  have e:u / 10 ^ (j+1+1)=u / 10 / 10 ^ (j+1):=by rw[Nat.div_div_eq_div_mul,Nat.pow_succ 10 (j+1),Nat.mul_comm (10 ^ (j+1))]
  rw[e]
  split
  ·have:u / 10=0:=by omega
   rw[this];simp
  ·rw[List.length_cons,← H4 j (u / 10)];omega
theorem Kw:∀ (j u:Nat) (h:j<(revDigs u).length),(revDigs u)[j]=UInt8.ofNat (48+u / 10 ^ j % 10)
 | 0,u,h=>by
  have e:(revDigs u)[0]=UInt8.ofNat (48+u % 10):=by
   simp only[revDigs.eq_1 u]
   split
   ·show UInt8.ofNat (48+u)=UInt8.ofNat (48+u % 10)
    rw[Nat.mod_eq_of_lt (by assumption)]
   ·rfl
  rw[e];simp
 | j+1,u,h=>by
  have hu:¬ u<10:=fun hu=>by rw[revDigs,if_pos hu]at h;simp at h
  have e0:revDigs u=UInt8.ofNat (48+u % 10)::revDigs (u / 10):=by rw[revDigs.eq_1 u,if_neg hu]
  have e:u / 10 ^ (j+1)=u / 10 / 10 ^ j:=by rw[Nat.div_div_eq_div_mul,Nat.pow_succ,Nat.mul_comm]
  have hl:j<(revDigs (u / 10)).length:=by rw[e0]at h;simpa using h
  have:=Kw j (u / 10) hl
  rw[e,← this]
  simp only[e0,List.getElem_cons_succ]
theorem Cb:∀ (k u:Nat),u<10 ^ k→(revDigs u).length≤k+1
 | 0,u,h=>by rw[revDigs,if_pos (by simp at h;omega)];simp
 | k+1,u,h=>by
  rw[revDigs]
  split
  ·simp
  ·have:=Cb k (u / 10) (by rw[Nat.pow_succ]at h;omega)
   simp only[List.length_cons];omega
def Ak9 (n:Int):List UInt8:=(revDigs n.natAbs++(if n<0 then [45] else [])).reverse
def Aw (n:Int):ByteArray:=mkT (Ak9 n)
theorem Xr (m:Nat):Ak9 m=(revDigs m).reverse:=by
 rw[Ak9,Int.natAbs_natCast,if_neg z_,List.append_nil]
set_option maxRecDepth 20000 in
theorem Anr (m:Nat) (hb:m<9223372036854775808):Sy.Spec Tryz.prog 117 [Aa m] [] (Ad (Aw m)) []:=cT F117 Tryz.ntmps117 fun F hF=>by
 have hpos:=H3 m
 have hlen:=fun j=>H4 j m
 have hget:=fun j=>Kw j m
 have hsh:(revDigs m).length≤20:=Cb 19 m z_
 rw[Aw,Xr]
 generalize revDigs m=D at *
 ((conv=>whnf);repeat((first|refine aF ?_|refine aT ?_);(first|refine rG Γ hm ?_|refine rD Γ hm j_ ?_);conv=>whnf))
 refine C4 3 1000 1 Bn Y Y ?_
 refine Dz D.length (fun j=>[(0,Aa m),(3,.osl 1000),(4,B4 (m / 10 ^ j:Nat)),(5,Ab (decide (j<D.length)))]) (fun j=>[(1000,.row 1 Bn (D.take j))]) []
  ⟨⟨rfl,rfl,rfl,rfl,congrArg (fun z=>SV.val (.int .u64 z)) (by rw[IntKind.wrap_u64];omega),rfl,congrArg Ab (decide_eq_true hpos),rfl,trivial⟩,⟨.inl rfl,rfl,trivial⟩,rfl,rfl⟩ ?_
 intro j hj
 ((first|refine rG Γ hm ?_|refine rD Γ hm j_ ?_);(conv=>whnf);repeat((first|refine aF ?_|refine aT ?_);(first|refine rG Γ hm ?_|refine rD Γ hm j_ ?_);conv=>whnf))
 refine⟨fun h=>?_,fun h=>?_⟩
 ·have hlt:j<D.length:=of_decide_eq_true h
  have hgj:=hget j hlt
  have hlj:=hlen j
  have e:m / 10 ^ (j+1)=m / 10 ^ j / 10:=by rw[Nat.div_div_eq_div_mul,Nat.pow_succ]
  have hq:m / 10 ^ j≤m:=Nat.div_le_self _ _
  rw[e]at hlj
  ((first|refine rG Γ hm ?_|refine rD Γ hm j_ ?_);(conv=>whnf);repeat((first|refine aF ?_|refine aT ?_);(first|refine rG Γ hm ?_|refine rD Γ hm j_ ?_);conv=>whnf))
  refine⟨by decide,?_⟩
  ((conv=>whnf);repeat((first|refine aF ?_|refine aT ?_);(first|refine rG Γ hm ?_|refine rD Γ hm j_ ?_);conv=>whnf))
  refine C0 (Ak Γ.toTy 23 Y Y Y Y Y (.row Y) (.lit (l:=[D[j]]) Y ?_) qe ?_ ?_) Y Y ?_
  ·rw[hgj]
   simp only[List.map_cons,List.map_nil,Bn]
   congr 3
   generalize m / 10 ^ j=q at *
   rw[Int.tmod_eq_emod_of_nonneg (Int.natCast_nonneg _),IntKind.wrap_u64,IntKind.wrap_u8]
   simp
  ·simp;omega
  ·simp;omega
  ((first|refine rG Γ hm ?_|refine rD Γ hm j_ ?_);(conv=>whnf);repeat((first|refine aF ?_|refine aT ?_);(first|refine rG Γ hm ?_|refine rD Γ hm j_ ?_);conv=>whnf))
  refine⟨by decide,?_⟩
  ((conv=>whnf);repeat((first|refine aF ?_|refine aT ?_);(first|refine rG Γ hm ?_|refine rD Γ hm j_ ?_);conv=>whnf))
  refine D3 [(1000,23)] hlt ⟨⟨Y,Y,Y,Y,congrArg (fun z=>SV.val (.int .u64 z)) ?_,Y,congrArg Ab ?_,Y,q_⟩,⟨.inl (congrArg (Ob.row 1 Bn) (List.take_succ_eq_append_getElem hlt)),Y,q_⟩,Y,Y⟩
  ·rw[e,Int.tdiv_eq_ediv_of_nonneg (Int.natCast_nonneg _),IntKind.wrap_u64]
   generalize m / 10 ^ j=q at *
   omega
  ·rw[Int.tdiv_eq_ediv_of_nonneg (Int.natCast_nonneg _),IntKind.wrap_u64]
   generalize m / 10 ^ j=q at *
   refine decide_eq_decide.2 ?_
   omega
 ·have:j=D.length:=qB h
  subst this
  rw[List.take_length]
  ((first|refine rG Γ hm ?_|refine rD Γ hm j_ ?_);(conv=>whnf);repeat((first|refine aF ?_|refine aT ?_);(first|refine rG Γ hm ?_|refine rD Γ hm j_ ?_);conv=>whnf))
  refine iL ?_
  ((conv=>whnf);repeat((first|refine aF ?_|refine aT ?_);(first|refine rG Γ hm ?_|refine rD Γ hm j_ ?_);conv=>whnf))
  refine Dz (D.length / 2) (fun j=>[(3,.osl 1000),(6,Aa j),(7,Aa (D.length-1-j:Nat))]) (fun j=>[(1000,.row 1 Bn (Qm D j))]) []
   ⟨⟨rfl,rfl,rfl,rfl,congrArg (fun z=>SV.val (.int .i64 z)) z_,rfl,trivial⟩,⟨.inl (congrArg (Ob.row 1 Bn) (Zt D)),rfl,trivial⟩,rfl,rfl⟩ ?_
  intro i hi
  have hul:=D1 D i
  ((first|refine rG Γ hm ?_|refine rD Γ hm j_ ?_);(conv=>whnf);repeat((first|refine aF ?_|refine aT ?_);(first|refine rG Γ hm ?_|refine rD Γ hm j_ ?_);conv=>whnf))
  refine⟨fun h2=>?_,fun h2=>?_⟩
  ·have hlt:2 * i+1<D.length:=by have:=of_decide_eq_true h2;omega
   obtain ⟨u,hu⟩:∃ u,Qm D i=u:=⟨_,rfl⟩
   obtain ⟨k,hk⟩:∃ k,D.length-1-i=k:=⟨_,rfl⟩
   rw[hu]at hul
   have hs:=Zu hu hlt hk z_ z_
   rw[hu,hk]
   ((first|refine rG Γ hm ?_|refine rD Γ hm j_ ?_);(conv=>whnf);repeat((first|refine aF ?_|refine aT ?_);(first|refine rG Γ hm ?_|refine rD Γ hm j_ ?_);conv=>whnf))
   refine⟨by omega,by omega,?_⟩
   ((conv=>whnf);repeat((first|refine aF ?_|refine aT ?_);(first|refine rG Γ hm ?_|refine rD Γ hm j_ ?_);conv=>whnf))
   refine⟨Y,by omega,?_⟩
   ((conv=>whnf);repeat((first|refine aF ?_|refine aT ?_);(first|refine rG Γ hm ?_|refine rD Γ hm j_ ?_);conv=>whnf))
   refine⟨by omega,by omega,?_⟩
   ((conv=>whnf);repeat((first|refine aF ?_|refine aT ?_);(first|refine rG Γ hm ?_|refine rD Γ hm j_ ?_);conv=>whnf))
   refine⟨Y,by omega,?_⟩
   ((conv=>whnf);repeat((first|refine aF ?_|refine aT ?_);(first|refine rG Γ hm ?_|refine rD Γ hm j_ ?_);conv=>whnf))
   refine⟨by omega,by omega,?_⟩
   ((conv=>whnf);repeat((first|refine aF ?_|refine aT ?_);(first|refine rG Γ hm ?_|refine rD Γ hm j_ ?_);conv=>whnf))
   refine⟨Y,by omega,u[k],Y,Y,?_⟩
   ((conv=>whnf);repeat((first|refine aF ?_|refine aT ?_);(first|refine rG Γ hm ?_|refine rD Γ hm j_ ?_);conv=>whnf))
   refine⟨by omega,by simp;omega,?_⟩
   ((conv=>whnf);repeat((first|refine aF ?_|refine aT ?_);(first|refine rG Γ hm ?_|refine rD Γ hm j_ ?_);conv=>whnf))
   refine⟨Y,by simp;omega,u[i],Y,Y,?_⟩
   ((conv=>whnf);repeat((first|refine aF ?_|refine aT ?_);(first|refine rG Γ hm ?_|refine rD Γ hm j_ ?_);conv=>whnf))
   refine⟨j_,?_⟩
   ((conv=>whnf);repeat((first|refine aF ?_|refine aT ?_);(first|refine rG Γ hm ?_|refine rD Γ hm j_ ?_);conv=>whnf))
   refine iL ?_
   ((conv=>whnf);repeat((first|refine aF ?_|refine aT ?_);(first|refine rG Γ hm ?_|refine rD Γ hm j_ ?_);conv=>whnf))
   refine iL ?_
   ((conv=>whnf);repeat((first|refine aF ?_|refine aT ?_);(first|refine rG Γ hm ?_|refine rD Γ hm j_ ?_);conv=>whnf))
   refine D3 [] z_ ⟨⟨Y,Y,Y,Y,congrArg (fun z=>SV.val (.int .i64 z)) z_,Y,q_⟩,⟨.inl (congrArg (Ob.row 1 Bn) hs.symm),Y,q_⟩,Y,Y⟩
  ·have h3:D.length≤2 * i+1:=by have:=of_decide_eq_false h2;omega
   rw[Ac1 D i h3]
   ((first|refine rG Γ hm ?_|refine rD Γ hm j_ ?_);(conv=>whnf);repeat((first|refine aF ?_|refine aT ?_);(first|refine rG Γ hm ?_|refine rD Γ hm j_ ?_);conv=>whnf))
   refine C0 (Dx Γ.toTy (bs:=D.reverse) Y Y Y Y Y Y Y (.row Y)) Y Y ?_
   ((first|refine rG Γ hm ?_|refine rD Γ hm j_ ?_);(conv=>whnf);repeat((first|refine aF ?_|refine aT ?_);(first|refine rG Γ hm ?_|refine rD Γ hm j_ ?_);conv=>whnf))
   exact dN
end Go.Sy.YtjenpnjajjplkaaGreatDoor
namespace Go.Sy.YtjenpnjajjplkaaGreatDoor
open Go.Proofs
attribute [local irreducible] Go.Sy.G Go.Sy.DR
set_option maxRecDepth 20000
set_option maxHeartbeats 4000000
theorem Ab8 {n:Net} (h:Ah n=true) {i:Nat} (hi:i<n.ports.length):Jg n i n.ports[i]=true:=by
 simp only[Ah,Bool.and_eq_true]at h
 exact allB_iff.1 h.1.1.1.1.1.2 i hi
theorem e_dom {n:Net} (h:Ah n=true) {i:Nat} (hi:i<n.domains.length):Iy n i n.domains[i]=true:=by
 simp only[Ah,Bool.and_eq_true]at h
 exact allB_iff.1 h.1.1.1.1.1.1.1.2 i hi
theorem Ae9 {n:Net} (h:Ah n=true):n.devices.length≤8∧n.ports.length≤40∧n.links.length≤20∧n.domains.length≤48∧n.irbs.length≤48:=by
 simp only[Ah,Alu,Bool.and_eq_true,decide_eq_true_eq]at h
 omega
theorem Ahq (m:Nat) (h:m<10 ^ 18):(Ak9 m).length≤19:=by
 rw[Xr,List.length_reverse];exact Cb 18 m h
theorem Mx (a b:ByteArray):(a++b).size=a.size+b.size:=by simp
end Go.Sy.YtjenpnjajjplkaaGreatDoor
namespace Go.Sy
def Afm (C:Cx) {β:Type} (I:β→Prop) (L:β→List (Nat × SV)) (O:β→Obs) (μ:β→Nat) (x:β) (a:Act) (w:World):Prop :=
 ∃ x':{y:β // I y},∃ κ,μ x'.1<μ x∧St C.F C.n (mkS (L x'.1) (O x'.1)) κ a w
theorem Au {C:Cx} {k:List KI} {s:SS} {body:Code} {β:Type} (I:β→Prop) (L:β→List (Nat × SV)) (O:β→Obs) (μ:β→Nat) (x₀:β) (ρ:List (Nat × Nat)) (h0:I x₀) (hsub:Sub C s ρ (L x₀) (O x₀))
  (h:∀ x,I x→G C (.code body::.inv (Afm C I L O μ x)::k) (mkS (L x) (O x))):G C (.code (.loop body)::k) s :=
 Aiy (α:={y:β // I y}) (fun x=>L x.1) (fun x=>O x.1) (fun x=>μ x.1) ⟨x₀,h0⟩ ρ hsub (fun x=>h x.1 x.2)
theorem Ae {C:Cx} {k:List KI} {s:SS} {β:Type} {I:β→Prop} {L:β→List (Nat × SV)} {O:β→Obs} {μ:β→Nat} {x:β} (x':β) (ρ:List (Nat × Nat)) (h':I x') (hμ:μ x'<μ x) (hsub:Sub C s ρ (L x') (O x')) :
  G C (.inv (Afm C I L O μ x)::k) s:=fun _ _ _ hs=>⟨⟨x',h'⟩,_,hμ,hsub.st hs⟩
theorem Apf {C:Cx} {kk:List KI} {s:SS} (k d:Nat) {sz:Nat} {α:Type} {e:α→SV} {l:List α} (h:s.h k=.row sz e l) (hd:s.h d=.fresh) (hkd:k≠d)
  (hg:G C kk ⟨fun i=>frz k (.osl d) (s.σ i),upd (fun j=>bif Nat.beq j k then .non else Alr k (.osl d) (s.h j)) d (.row sz e l)⟩):G C kk s:=fun κ a w hs=>by
 have hob:=hs.obj k
 rw[h]at hob
 have hnew:κ d=.new:=by have:=hs.obj d;rwa [hd]at this
 have fin:∀ κ':Ka,(∀ j,j≠k→j≠d→κ' j=κ j)→Step (fun j=>j=k∨j=d) κ w κ' w→Inv κ' w→(∀ v,Rd κ w (.osl k) v→Rd κ' w (.osl d) v)→ObOK κ' w d (.row sz e l)→den C.P C.B kk .normal a w:=by
  intro κ' hne st inv hv ho
  refine hg κ' a w ⟨hs.defers,hs.size,inv,hs.ctx.step inv st,fun j=>Ab2 st hv _ _ (hs.slot j),fun j=>?_⟩
  show ObOK κ' w j (upd (fun j=>bif Nat.beq j k then .non else Alr k (.osl d) (s.h j)) d (.row sz e l) j)
  by_cases hj:j=d
  ·subst hj;rw[Cm];exact ho
  ·rw[Do _ _ hj]
   by_cases hj2:j=k
   ·subst hj2;rw[show Nat.beq j j=true from Nat.beq_refl j];trivial
   ·rw[show Nat.beq j k=false from by cases hb:Nat.beq j k with | false=>rfl | true=>exact absurd (Nat.eq_of_beq_eq_true hb) hj2]
    have hb:=ObOK.step st (fun e=>e.elim hj2 hj) _ (hs.obj j)
    have h0:=hs.obj j
    show ObOK κ' w j (Alr k (.osl d) (s.h j))
    cases hh:s.h j with
    | box m =>
     rw[hh]at h0 hb
     obtain ⟨b,cs,T,fr,e1,e2,e3,e4,e5⟩:=h0
     exact⟨b,cs,T,fr,(hne j hj2 hj).trans e1,e2,e3,e4,J7 st hv m cs e5⟩
    | fresh=>rw[hh]at hb;exact hb
    | non=>rw[hh]at hb;exact hb
    | row sz' e' l'=>rw[hh]at hb;exact hb
    | lit sz' svs=>rw[hh]at hb;exact hb
    | glob sz' x' g'=>rw[hh]at hb;exact hb
    | pin b' n' cap' sz' e' l'=>rw[hh]at hb;exact hb
    | dat v' sz' e' l'=>rw[hh]at hb;exact hb
    | rown sz' e' l' i' cl' =>
     rw[hh]at h0
     obtain ⟨b2,cap2,cs2,T2,fr2,f1,f2,f3,f4,f5,f6,f7,us2,v1,v2,v3,v4⟩:=h0
     refine⟨b2,cap2,cs2,T2,fr2,(hne j hj2 hj).trans f1,f2,f3,f4,f5,fun m y hm hy=>?_,f7,us2,v1,v2,J7 st hv cl' us2 v3,v4⟩
     obtain ⟨g0,u,g1,g2⟩:=f6 m y hm hy
     exact⟨g0,u,RdD.keep st.keeps _ _ g1,g2⟩
 rcases hob with ⟨h1,rfl⟩ | ⟨b,cap,cs,T,fr,e1,e2,e3,e4,e5,e6⟩
 ·have st:=Jc (Kl hs.inv (some k)) (by show En κ k .dead d=.new;rw[Cy _ _ (Ne.symm hkd)];exact hnew) (e:=.nil) (Grew.refl w) (fun b hb=>by cases hb)
  refine fin _ (fun j h1 h2=>by rw[Cy _ _ h2];exact Cy _ _ h1) (((I1 (some k)).weaken (fun j hj=>.inl (Option.some.inj hj).symm)).trans (st.1.weaken (fun j hj=>.inr hj))) st.2 (fun v hv=>?_) (.inl ⟨A9 _ _ _,Y⟩)
  simp only[Rd,h1]at hv
  simp[Rd,A9,hv]
 ·obtain ⟨st,inv⟩:=Zp (n':=l.length) (w':=w) hs.inv e1 hnew rfl rfl rfl rfl (fun _ _=>rfl)
  refine fin _ (fun j h1 h2=>by rw[Cy _ _ h2];exact Cy _ _ h1) st inv (fun v hv=>?_) (.inr ⟨b,cap,cs,T,fr,A9 _ _ _,e2,e3,e4,e5,fun i x hx=>?_⟩)
  ·simp only[Rd,e1]at hv
   simp[Rd,A9,hv]
  ·obtain ⟨q1,u,q2,q3⟩:=e6 i x hx
   exact⟨q1,u,RdD.keep st.keeps _ _ q2,q3⟩
theorem De {C:Cx} {k:List KI} {s:SS} (d:Nat) {sz:Nat} {α:Type} (e:α→SV) (l:List α) {svs:List SV} (h:s.h d=.lit sz svs) (hl:l.map e=svs) (hg:G C k ⟨s.σ,upd s.h d (.row sz e l)⟩):G C k s:=fun κ a w hs=>by
 refine hg κ a w ⟨hs.defers,hs.size,hs.inv,hs.ctx,hs.slot,fun j=>?_⟩
 show ObOK κ w j (upd s.h d (.row sz e l) j)
 by_cases hj:j=d
 ·subst hj
  rw[Cm]
  have hob:=hs.obj j
  rw[h]at hob
  have hlen:l.length=svs.length:=by rw[← hl,List.length_map]
  obtain ⟨b,cap,cs,T,fr,e1,e2,e3,e4,e5,e6⟩:=hob
  exact .inr ⟨b,cap,cs,T,fr,by rw[hlen];exact e1,e2,e3,e4,by omega,fun i x hx=>by rw[hlen];exact e6 i x (S8 hl i x hx)⟩
 ·rw[Do _ _ hj];exact hs.obj j
end Go.Sy
namespace Go.Sy.YtjenpnjajjplkaaGreatDoor
open Go.Proofs
theorem tdiv10 (n:Nat) (h:n<1000000000000000000):IntKind.i64.wrap ((n:Int).tdiv 10)=((n / 10:Nat):Int):=by
 rw[Int.tdiv_eq_ediv_of_nonneg z_,IntKind.wrap_i64];omega
theorem Afw (n:Nat):(n:Int).tmod 10=((n % 10:Nat):Int):=by
 rw[Int.tmod_eq_emod_of_nonneg z_];omega
theorem Alw (n:Nat):IntKind.u8.wrap (48+((n % 10:Nat):Int))=((UInt8.ofNat (48+n % 10)).toNat:Int):=by
 rw[IntKind.wrap_u8]
 simp
theorem Kv (n:Nat):(revDigs n).reverse=(if n<10 then [] else (revDigs (n / 10)).reverse)++[UInt8.ofNat (48+n % 10)]:=by
 rw[revDigs.eq_1 n]
 split
 ·rw[Nat.mod_eq_of_lt (by assumption)];rfl
 ·rw[List.reverse_cons]
theorem L6 (l:List ByteArray) (sep:ByteArray):(Jk l sep).size≤Ai2 l+sep.size * l.length:=by
 have:=Aqk (l.map (·.data.toList)) sep.data.toList
 have e:(l.map (·.data.toList)).map (·.length)=l.map (·.size):=by
  rw[List.map_map]
  apply List.map_congr_left
  intro a _
  rfl
 rw[e,List.length_map]at this
 have e2:(Jk l sep).size=(Lib.join (l.map (·.data.toList)) sep.data.toList).length:=by simp[Jk,ByteArray.size]
 rw[e2]
 exact this
theorem Ak7 {n:Int} (h:0≤n∧n<1000000000000000000):(Aw n).size≤19:=by
 obtain ⟨m,rfl⟩:=Int.eq_ofNat_of_zero_le h.1
 rw[Aw,Bp]
 exact Ahq m z_
end Go.Sy.YtjenpnjajjplkaaGreatDoor
namespace Go.Sy.YtjenpnjajjplkaaGreatDoor
open Go.Proofs
attribute [local irreducible] Go.Sy.G Go.Sy.DR
set_option maxRecDepth 20000
set_option maxHeartbeats 4000000
theorem Eb (a b:List UInt8):mkT a++mkT b=mkT (a++b):=by
 apply It
 simp[mkT]
theorem Dq (m:Nat):Aw m=mkT (revDigs m).reverse:=by rw[Aw,Xr]
theorem I4 (m:Nat) (hmm:m<1000000000000000000):Sy.Spec Tryz.prog 427 [Aa m] [] (Ad (Aw m)) []:=cT F427 Tryz.ntmps427 fun F hF=>by
 have hlen:(revDigs m).length≤19:=Cb 18 m z_
 rw[Dq]
 obtain ⟨D,hD⟩:∃ D,(revDigs m).reverse=D:=⟨_,rfl⟩
 have hDl:D.length≤19:=by rw[← hD,List.length_reverse];exact hlen
 rw[hD]
 ((conv=>whnf);repeat((first|refine aF ?_|refine aT ?_);(first|refine rG Γ hm ?_|refine rD Γ hm j_ ?_);conv=>whnf))
 refine Au (fun x:Nat × List UInt8=>D=(revDigs x.1).reverse++x.2∧x.1≤m) (fun x=>[(0,Aa x.1),(3,Ad (mkT x.2))]) (fun _=>[]) (fun x=>x.1) (m,[]) [] ⟨by rw[List.append_nil];exact hD.symm,Nat.le_refl _⟩ ⟨⟨Y,Y,Y,Y,q_⟩,q_,Y,Y⟩ ?_
 clear hD
 rintro ⟨u,t⟩ ⟨hD,hu⟩
 dsimp only at hD hu ⊢
 have htl:t.length≤19:=by rw[hD,List.length_append]at hDl;omega
 have hts:(mkT t).size≤19:=by rw[Bp];exact htl
 have hr:=Kv u
 ((first|refine rG Γ hm ?_|refine rD Γ hm j_ ?_);(conv=>whnf);repeat((first|refine aF ?_|refine aT ?_);(first|refine rG Γ hm ?_|refine rD Γ hm j_ ?_);conv=>whnf))
 refine⟨fun h=>?_,fun h=>?_⟩
 ·have h1:¬ u<10:=qA h
  rw[if_neg h1]at hr
  ((first|refine rG Γ hm ?_|refine rD Γ hm j_ ?_);(conv=>whnf);repeat((first|refine aF ?_|refine aT ?_);(first|refine rG Γ hm ?_|refine rD Γ hm j_ ?_);conv=>whnf))
  refine⟨by decide,?_⟩
  ((conv=>whnf);repeat((first|refine aF ?_|refine aT ?_);(first|refine rG Γ hm ?_|refine rD Γ hm j_ ?_);conv=>whnf))
  rw[Afw u]
  refine iL ?_
  ((conv=>whnf);repeat((first|refine aF ?_|refine aT ?_);(first|refine rG Γ hm ?_|refine rD Γ hm j_ ?_);conv=>whnf))
  rw[Alw u]
  refine C0 (Dx Γ.toTy (bs:=[UInt8.ofNat (48+u % 10)]) Y Y Y Y Y Y Y (.lit (e:=Bn) (l:=[UInt8.ofNat (48+u % 10)]) Y Y)) Y Y ?_
  ((first|refine rG Γ hm ?_|refine rD Γ hm j_ ?_);(conv=>whnf);repeat((first|refine aF ?_|refine aT ?_);(first|refine rG Γ hm ?_|refine rD Γ hm j_ ?_);conv=>whnf))
  refine⟨by show 1+(mkT t).size≤_;omega,?_⟩
  ((conv=>whnf);repeat((first|refine aF ?_|refine aT ?_);(first|refine rG Γ hm ?_|refine rD Γ hm j_ ?_);conv=>whnf))
  refine⟨by decide,?_⟩
  ((conv=>whnf);repeat((first|refine aF ?_|refine aT ?_);(first|refine rG Γ hm ?_|refine rD Γ hm j_ ?_);conv=>whnf))
  rw[tdiv10 u z_]
  refine Ae (u / 10,UInt8.ofNat (48+u % 10)::t) [] ⟨by rw[hD,hr];simp,by dsimp only;omega⟩ (by dsimp only;omega) ⟨⟨Y,Y,congrArg Ad ?_,Y,q_⟩,q_,Y,Y⟩
  exact Eb [_] t
 ·have h1:u<10:=qB h
  rw[if_pos h1,List.nil_append]at hr
  have hd:=Alw u
  rw[Nat.mod_eq_of_lt h1]at hr hd
  ((first|refine rG Γ hm ?_|refine rD Γ hm j_ ?_);(conv=>whnf);repeat((first|refine aF ?_|refine aT ?_);(first|refine rG Γ hm ?_|refine rD Γ hm j_ ?_);conv=>whnf))
  refine iL ?_
  ((conv=>whnf);repeat((first|refine aF ?_|refine aT ?_);(first|refine rG Γ hm ?_|refine rD Γ hm j_ ?_);conv=>whnf))
  rw[hd]
  refine C0 (Dx Γ.toTy (bs:=[UInt8.ofNat (48+u)]) Y Y Y Y Y Y Y (.lit (e:=Bn) (l:=[UInt8.ofNat (48+u)]) Y Y)) Y Y ?_
  ((first|refine rG Γ hm ?_|refine rD Γ hm j_ ?_);(conv=>whnf);repeat((first|refine aF ?_|refine aT ?_);(first|refine rG Γ hm ?_|refine rD Γ hm j_ ?_);conv=>whnf))
  refine⟨by show 1+(mkT t).size≤_;omega,?_⟩
  ((conv=>whnf);repeat((first|refine aF ?_|refine aT ?_);(first|refine rG Γ hm ?_|refine rD Γ hm j_ ?_);conv=>whnf))
  refine Ar Y (.cons .tmp .nil) (congrArg Ad ?_) Y
  rw[hD,hr]
  exact(Eb [_] t).symm
theorem Amg (n:Nat) (h:n<1000000000000000000):IntKind.u64.wrap ((n:Int).tdiv 10)=((n / 10:Nat):Int):=by
 rw[Int.tdiv_eq_ediv_of_nonneg z_,IntKind.wrap_u64];omega
theorem Agw (m:Nat) (hmm:m<1000000000000000000):Sy.Spec Tryz.prog 424 [B4 m] [] (Ad (Aw m)) []:=cT F424 Tryz.ntmps424 fun F hF=>by
 have hlen:(revDigs m).length≤19:=Cb 18 m z_
 rw[Dq]
 obtain ⟨D,hD⟩:∃ D,(revDigs m).reverse=D:=⟨_,rfl⟩
 have hDl:D.length≤19:=by rw[← hD,List.length_reverse];exact hlen
 rw[hD]
 ((conv=>whnf);repeat((first|refine aF ?_|refine aT ?_);(first|refine rG Γ hm ?_|refine rD Γ hm j_ ?_);conv=>whnf))
 refine Au (fun x:Nat × List UInt8=>D=(revDigs x.1).reverse++x.2∧x.1≤m) (fun x=>[(0,B4 x.1),(3,Ad (mkT x.2))]) (fun _=>[]) (fun x=>x.1) (m,[]) [] ⟨by rw[List.append_nil];exact hD.symm,Nat.le_refl _⟩ ⟨⟨Y,Y,Y,Y,q_⟩,q_,Y,Y⟩ ?_
 clear hD
 rintro ⟨u,t⟩ ⟨hD,hu⟩
 dsimp only at hD hu ⊢
 have htl:t.length≤19:=by rw[hD,List.length_append]at hDl;omega
 have hts:(mkT t).size≤19:=by rw[Bp];exact htl
 have hr:=Kv u
 ((first|refine rG Γ hm ?_|refine rD Γ hm j_ ?_);(conv=>whnf);repeat((first|refine aF ?_|refine aT ?_);(first|refine rG Γ hm ?_|refine rD Γ hm j_ ?_);conv=>whnf))
 refine⟨fun h=>?_,fun h=>?_⟩
 ·have h1:¬ u<10:=qA h
  rw[if_neg h1]at hr
  ((first|refine rG Γ hm ?_|refine rD Γ hm j_ ?_);(conv=>whnf);repeat((first|refine aF ?_|refine aT ?_);(first|refine rG Γ hm ?_|refine rD Γ hm j_ ?_);conv=>whnf))
  refine⟨by decide,?_⟩
  ((conv=>whnf);repeat((first|refine aF ?_|refine aT ?_);(first|refine rG Γ hm ?_|refine rD Γ hm j_ ?_);conv=>whnf))
  rw[Afw u]
  have hd:IntKind.u8.wrap (IntKind.u64.wrap (48+((u % 10:Nat):Int)))=((UInt8.ofNat (48+u % 10)).toNat:Int):=by
   rw[show IntKind.u64.wrap (48+((u % 10:Nat):Int))=48+((u % 10:Nat):Int) by rw[IntKind.wrap_u64];omega]
   exact Alw u
  rw[hd]
  refine C0 (Dx Γ.toTy (bs:=[UInt8.ofNat (48+u % 10)]) Y Y Y Y Y Y Y (.lit (e:=Bn) (l:=[UInt8.ofNat (48+u % 10)]) Y Y)) Y Y ?_
  ((first|refine rG Γ hm ?_|refine rD Γ hm j_ ?_);(conv=>whnf);repeat((first|refine aF ?_|refine aT ?_);(first|refine rG Γ hm ?_|refine rD Γ hm j_ ?_);conv=>whnf))
  refine⟨by show 1+(mkT t).size≤_;omega,?_⟩
  ((conv=>whnf);repeat((first|refine aF ?_|refine aT ?_);(first|refine rG Γ hm ?_|refine rD Γ hm j_ ?_);conv=>whnf))
  refine⟨by decide,?_⟩
  ((conv=>whnf);repeat((first|refine aF ?_|refine aT ?_);(first|refine rG Γ hm ?_|refine rD Γ hm j_ ?_);conv=>whnf))
  rw[Amg u z_]
  refine Ae (u / 10,UInt8.ofNat (48+u % 10)::t) [] ⟨by rw[hD,hr];simp,by dsimp only;omega⟩ (by dsimp only;omega) ⟨⟨Y,Y,congrArg Ad ?_,Y,q_⟩,q_,Y,Y⟩
  exact Eb [_] t
 ·have h1:u<10:=qB h
  rw[if_pos h1,List.nil_append]at hr
  have hd:IntKind.u8.wrap (IntKind.u64.wrap (48+((u % 10:Nat):Int)))=((UInt8.ofNat (48+u % 10)).toNat:Int):=by
   rw[show IntKind.u64.wrap (48+((u % 10:Nat):Int))=48+((u % 10:Nat):Int) by rw[IntKind.wrap_u64];omega]
   exact Alw u
  rw[Nat.mod_eq_of_lt h1]at hr hd
  ((first|refine rG Γ hm ?_|refine rD Γ hm j_ ?_);(conv=>whnf);repeat((first|refine aF ?_|refine aT ?_);(first|refine rG Γ hm ?_|refine rD Γ hm j_ ?_);conv=>whnf))
  rw[hd]
  refine C0 (Dx Γ.toTy (bs:=[UInt8.ofNat (48+u)]) Y Y Y Y Y Y Y (.lit (e:=Bn) (l:=[UInt8.ofNat (48+u)]) Y Y)) Y Y ?_
  ((first|refine rG Γ hm ?_|refine rD Γ hm j_ ?_);(conv=>whnf);repeat((first|refine aF ?_|refine aT ?_);(first|refine rG Γ hm ?_|refine rD Γ hm j_ ?_);conv=>whnf))
  refine⟨by show 1+(mkT t).size≤_;omega,?_⟩
  ((conv=>whnf);repeat((first|refine aF ?_|refine aT ?_);(first|refine rG Γ hm ?_|refine rD Γ hm j_ ?_);conv=>whnf))
  refine Ar Y (.cons .tmp .nil) (congrArg Ad ?_) Y
  rw[hD,hr]
  exact(Eb [_] t).symm
theorem Kx (m:Nat) (hmm:m<1000000000000000000):Sy.Spec Tryz.prog 372 [Aa m] [] (Ad (Aw m)) []:=cT F372 Tryz.ntmps372 fun F hF=>by
 have q:=Agw m hmm
 ((conv=>whnf);repeat((first|refine aF ?_|refine aT ?_);(first|refine rG Γ hm ?_|refine rD Γ hm j_ ?_);conv=>whnf))
 rw[show IntKind.u64.wrap (m:Int)=m by rw[IntKind.wrap_u64];omega]
 refine c0 q F424 ?_
 ((first|refine rG Γ hm ?_|refine rD Γ hm j_ ?_);(conv=>whnf);repeat((first|refine aF ?_|refine aT ?_);(first|refine rG Γ hm ?_|refine rD Γ hm j_ ?_);conv=>whnf))
 exact dN
end Go.Sy.YtjenpnjajjplkaaGreatDoor
namespace Go.Sy.YtjenpnjajjplkaaGreatDoor
open Go.Proofs
theorem Ad7 (m:Nat) (h:0<m):Ak9 (-(m:Int))=(revDigs m++[45]).reverse:=by
 rw[Ak9,if_pos z_]
 have:(-(m:Int)).natAbs=m:=by omega
 rw[this]
set_option maxRecDepth 20000 in
theorem Ad2 (m:Nat) (h0:0<m) (hb:m≤9223372036854775808):Sy.Spec Tryz.prog 117 [Aa (-(m:Int))] [] (Ad (Aw (-(m:Int)))) []:=cT F117 Tryz.ntmps117 fun F hF=>by
 have hpos:=H3 m
 have hlen:=fun j=>H4 j m
 have hget:=fun j=>Kw j m
 have hsh:(revDigs m).length≤20:=Cb 19 m z_
 have w1:IntKind.u64.wrap (0-IntKind.u64.wrap (-(m:Int)))=m:=by rw[IntKind.wrap_u64,IntKind.wrap_u64];omega
 rw[Aw,Ad7 m h0]
 generalize revDigs m=D at *
 ((conv=>whnf);repeat((first|refine aF ?_|refine aT ?_);(first|refine rG Γ hm ?_|refine rD Γ hm j_ ?_);conv=>whnf))
 refine⟨fun _=>?_,fun h=>absurd (of_decide_eq_false h) z_⟩
 refine C4 3 1000 1 Bn Y Y ?_
 ((first|refine rG Γ hm ?_|refine rD Γ hm j_ ?_);(conv=>whnf);repeat((first|refine aF ?_|refine aT ?_);(first|refine rG Γ hm ?_|refine rD Γ hm j_ ?_);conv=>whnf))
 refine Dz D.length (fun j=>[(0,Aa (-(m:Int))),(3,.osl 1000),(4,B4 (m / 10 ^ j:Nat)),(5,Ab (decide (j<D.length)))]) (fun j=>[(1000,.row 1 Bn (D.take j))]) []
  ⟨⟨rfl,rfl,rfl,rfl,congrArg (fun z=>SV.val (.int .u64 z)) (by simpa using w1.symm),rfl,congrArg Ab (decide_eq_true hpos),rfl,trivial⟩,⟨.inl rfl,rfl,trivial⟩,rfl,rfl⟩ ?_
 intro j hj
 ((first|refine rG Γ hm ?_|refine rD Γ hm j_ ?_);(conv=>whnf);repeat((first|refine aF ?_|refine aT ?_);(first|refine rG Γ hm ?_|refine rD Γ hm j_ ?_);conv=>whnf))
 refine⟨fun h=>?_,fun h=>?_⟩
 ·have hlt:j<D.length:=of_decide_eq_true h
  have hgj:=hget j hlt
  have hlj:=hlen j
  have e:m / 10 ^ (j+1)=m / 10 ^ j / 10:=by rw[Nat.div_div_eq_div_mul,Nat.pow_succ]
  have hq:m / 10 ^ j≤m:=Nat.div_le_self _ _
  rw[e]at hlj
  ((first|refine rG Γ hm ?_|refine rD Γ hm j_ ?_);(conv=>whnf);repeat((first|refine aF ?_|refine aT ?_);(first|refine rG Γ hm ?_|refine rD Γ hm j_ ?_);conv=>whnf))
  refine⟨by decide,?_⟩
  ((conv=>whnf);repeat((first|refine aF ?_|refine aT ?_);(first|refine rG Γ hm ?_|refine rD Γ hm j_ ?_);conv=>whnf))
  refine C0 (Ak Γ.toTy 23 Y Y Y Y Y (.row Y) (.lit (l:=[D[j]]) Y ?_) qe ?_ ?_) Y Y ?_
  ·rw[hgj]
   simp only[List.map_cons,List.map_nil,Bn]
   congr 3
   generalize m / 10 ^ j=q at *
   rw[Int.tmod_eq_emod_of_nonneg (Int.natCast_nonneg _),IntKind.wrap_u64,IntKind.wrap_u8]
   simp
  ·simp;omega
  ·simp;omega
  ((first|refine rG Γ hm ?_|refine rD Γ hm j_ ?_);(conv=>whnf);repeat((first|refine aF ?_|refine aT ?_);(first|refine rG Γ hm ?_|refine rD Γ hm j_ ?_);conv=>whnf))
  refine⟨by decide,?_⟩
  ((conv=>whnf);repeat((first|refine aF ?_|refine aT ?_);(first|refine rG Γ hm ?_|refine rD Γ hm j_ ?_);conv=>whnf))
  refine D3 [(1000,23)] hlt ⟨⟨Y,Y,Y,Y,congrArg (fun z=>SV.val (.int .u64 z)) ?_,Y,congrArg Ab ?_,Y,q_⟩,⟨.inl (congrArg (Ob.row 1 Bn) (List.take_succ_eq_append_getElem hlt)),Y,q_⟩,Y,Y⟩
  ·rw[e,Int.tdiv_eq_ediv_of_nonneg (Int.natCast_nonneg _),IntKind.wrap_u64]
   generalize m / 10 ^ j=q at *
   omega
  ·rw[Int.tdiv_eq_ediv_of_nonneg (Int.natCast_nonneg _),IntKind.wrap_u64]
   generalize m / 10 ^ j=q at *
   refine decide_eq_decide.2 ?_
   omega
 ·have:j=D.length:=qB h
  subst this
  rw[List.take_length]
  ((first|refine rG Γ hm ?_|refine rD Γ hm j_ ?_);(conv=>whnf);repeat((first|refine aF ?_|refine aT ?_);(first|refine rG Γ hm ?_|refine rD Γ hm j_ ?_);conv=>whnf))
  refine⟨fun _=>?_,fun h=>absurd (of_decide_eq_false h) z_⟩
  ((first|refine rG Γ hm ?_|refine rD Γ hm j_ ?_);(conv=>whnf);repeat((first|refine aF ?_|refine aT ?_);(first|refine rG Γ hm ?_|refine rD Γ hm j_ ?_);conv=>whnf))
  refine C0 (Ak Γ.toTy 30 Y Y Y Y Y (.row Y) (.lit (e:=Bn) (l:=[45]) Y Y) qe (by simp;omega) (by simp;omega)) Y Y ?_
  have hDl:(D++[45]).length=D.length+1:=by simp
  generalize D++[45]=D at *
  ((first|refine rG Γ hm ?_|refine rD Γ hm j_ ?_);(conv=>whnf);repeat((first|refine aF ?_|refine aT ?_);(first|refine rG Γ hm ?_|refine rD Γ hm j_ ?_);conv=>whnf))
  refine iL ?_
  ((conv=>whnf);repeat((first|refine aF ?_|refine aT ?_);(first|refine rG Γ hm ?_|refine rD Γ hm j_ ?_);conv=>whnf))
  refine Dz (D.length / 2) (fun j=>[(3,.osl 1000),(6,Aa j),(7,Aa (D.length-1-j:Nat))]) (fun j=>[(1000,.row 1 Bn (Qm D j))]) [(1000,30)]
   ⟨⟨rfl,rfl,rfl,rfl,congrArg (fun z=>SV.val (.int .i64 z)) z_,rfl,trivial⟩,⟨.inl (congrArg (Ob.row 1 Bn) (Zt D)),rfl,trivial⟩,rfl,rfl⟩ ?_
  intro i hi
  have hul:=D1 D i
  ((first|refine rG Γ hm ?_|refine rD Γ hm j_ ?_);(conv=>whnf);repeat((first|refine aF ?_|refine aT ?_);(first|refine rG Γ hm ?_|refine rD Γ hm j_ ?_);conv=>whnf))
  refine⟨fun h2=>?_,fun h2=>?_⟩
  ·have hlt:2 * i+1<D.length:=by have:=of_decide_eq_true h2;omega
   obtain ⟨u,hu⟩:∃ u,Qm D i=u:=⟨_,rfl⟩
   obtain ⟨k,hk⟩:∃ k,D.length-1-i=k:=⟨_,rfl⟩
   rw[hu]at hul
   have hs:=Zu hu hlt hk z_ z_
   rw[hu,hk]
   ((first|refine rG Γ hm ?_|refine rD Γ hm j_ ?_);(conv=>whnf);repeat((first|refine aF ?_|refine aT ?_);(first|refine rG Γ hm ?_|refine rD Γ hm j_ ?_);conv=>whnf))
   refine⟨by omega,by omega,?_⟩
   ((conv=>whnf);repeat((first|refine aF ?_|refine aT ?_);(first|refine rG Γ hm ?_|refine rD Γ hm j_ ?_);conv=>whnf))
   refine⟨Y,by omega,?_⟩
   ((conv=>whnf);repeat((first|refine aF ?_|refine aT ?_);(first|refine rG Γ hm ?_|refine rD Γ hm j_ ?_);conv=>whnf))
   refine⟨by omega,by omega,?_⟩
   ((conv=>whnf);repeat((first|refine aF ?_|refine aT ?_);(first|refine rG Γ hm ?_|refine rD Γ hm j_ ?_);conv=>whnf))
   refine⟨Y,by omega,?_⟩
   ((conv=>whnf);repeat((first|refine aF ?_|refine aT ?_);(first|refine rG Γ hm ?_|refine rD Γ hm j_ ?_);conv=>whnf))
   refine⟨by omega,by omega,?_⟩
   ((conv=>whnf);repeat((first|refine aF ?_|refine aT ?_);(first|refine rG Γ hm ?_|refine rD Γ hm j_ ?_);conv=>whnf))
   refine⟨Y,by omega,u[k],Y,Y,?_⟩
   ((conv=>whnf);repeat((first|refine aF ?_|refine aT ?_);(first|refine rG Γ hm ?_|refine rD Γ hm j_ ?_);conv=>whnf))
   refine⟨by omega,by simp;omega,?_⟩
   ((conv=>whnf);repeat((first|refine aF ?_|refine aT ?_);(first|refine rG Γ hm ?_|refine rD Γ hm j_ ?_);conv=>whnf))
   refine⟨Y,by simp;omega,u[i],Y,Y,?_⟩
   ((conv=>whnf);repeat((first|refine aF ?_|refine aT ?_);(first|refine rG Γ hm ?_|refine rD Γ hm j_ ?_);conv=>whnf))
   refine⟨j_,?_⟩
   ((conv=>whnf);repeat((first|refine aF ?_|refine aT ?_);(first|refine rG Γ hm ?_|refine rD Γ hm j_ ?_);conv=>whnf))
   refine iL ?_
   ((conv=>whnf);repeat((first|refine aF ?_|refine aT ?_);(first|refine rG Γ hm ?_|refine rD Γ hm j_ ?_);conv=>whnf))
   refine iL ?_
   ((conv=>whnf);repeat((first|refine aF ?_|refine aT ?_);(first|refine rG Γ hm ?_|refine rD Γ hm j_ ?_);conv=>whnf))
   refine D3 [] z_ ⟨⟨Y,Y,Y,Y,congrArg (fun z=>SV.val (.int .i64 z)) z_,Y,q_⟩,⟨.inl (congrArg (Ob.row 1 Bn) hs.symm),Y,q_⟩,Y,Y⟩
  ·have h3:D.length≤2 * i+1:=by have:=of_decide_eq_false h2;omega
   rw[Ac1 D i h3]
   ((first|refine rG Γ hm ?_|refine rD Γ hm j_ ?_);(conv=>whnf);repeat((first|refine aF ?_|refine aT ?_);(first|refine rG Γ hm ?_|refine rD Γ hm j_ ?_);conv=>whnf))
   refine C0 (Dx Γ.toTy (bs:=D.reverse) Y Y Y Y Y Y Y (.row Y)) Y Y ?_
   ((first|refine rG Γ hm ?_|refine rD Γ hm j_ ?_);(conv=>whnf);repeat((first|refine aF ?_|refine aT ?_);(first|refine rG Γ hm ?_|refine rD Γ hm j_ ?_);conv=>whnf))
   exact dN
end Go.Sy.YtjenpnjajjplkaaGreatDoor
namespace Go.Sy.YtjenpnjajjplkaaGreatDoor
open Go.Proofs
attribute [local irreducible] Go.Sy.G Go.Sy.DR
set_option maxRecDepth 20000
set_option maxHeartbeats 4000000
theorem Ajw (n:Nat) (h:n<18446744073709551616):IntKind.u64.wrap ((n:Int).tdiv 10)=((n / 10:Nat):Int):=by
 rw[Int.tdiv_eq_ediv_of_nonneg z_,IntKind.wrap_u64];omega
theorem Vm (m:Nat) (hmm:m<18446744073709551616):Sy.Spec Tryz.prog 424 [B4 m] [] (Ad (Aw m)) []:=cT F424 Tryz.ntmps424 fun F hF=>by
 have hlen:(revDigs m).length≤21:=Cb 20 m z_
 rw[Dq]
 obtain ⟨D,hD⟩:∃ D,(revDigs m).reverse=D:=⟨_,rfl⟩
 have hDl:D.length≤21:=by rw[← hD,List.length_reverse];exact hlen
 rw[hD]
 ((conv=>whnf);repeat((first|refine aF ?_|refine aT ?_);(first|refine rG Γ hm ?_|refine rD Γ hm j_ ?_);conv=>whnf))
 refine Au (fun x:Nat × List UInt8=>D=(revDigs x.1).reverse++x.2∧x.1≤m) (fun x=>[(0,B4 x.1),(3,Ad (mkT x.2))]) (fun _=>[]) (fun x=>x.1) (m,[]) [] ⟨by rw[List.append_nil];exact hD.symm,Nat.le_refl _⟩ ⟨⟨Y,Y,Y,Y,q_⟩,q_,Y,Y⟩ ?_
 clear hD
 rintro ⟨u,t⟩ ⟨hD,hu⟩
 dsimp only at hD hu ⊢
 have htl:t.length≤21:=by rw[hD,List.length_append]at hDl;omega
 have hts:(mkT t).size≤21:=by rw[Bp];exact htl
 have hr:=Kv u
 ((first|refine rG Γ hm ?_|refine rD Γ hm j_ ?_);(conv=>whnf);repeat((first|refine aF ?_|refine aT ?_);(first|refine rG Γ hm ?_|refine rD Γ hm j_ ?_);conv=>whnf))
 refine⟨fun h=>?_,fun h=>?_⟩
 ·have h1:¬ u<10:=qA h
  rw[if_neg h1]at hr
  ((first|refine rG Γ hm ?_|refine rD Γ hm j_ ?_);(conv=>whnf);repeat((first|refine aF ?_|refine aT ?_);(first|refine rG Γ hm ?_|refine rD Γ hm j_ ?_);conv=>whnf))
  refine⟨by decide,?_⟩
  ((conv=>whnf);repeat((first|refine aF ?_|refine aT ?_);(first|refine rG Γ hm ?_|refine rD Γ hm j_ ?_);conv=>whnf))
  rw[Afw u]
  have hd:IntKind.u8.wrap (IntKind.u64.wrap (48+((u % 10:Nat):Int)))=((UInt8.ofNat (48+u % 10)).toNat:Int):=by
   rw[show IntKind.u64.wrap (48+((u % 10:Nat):Int))=48+((u % 10:Nat):Int) by rw[IntKind.wrap_u64];omega]
   exact Alw u
  rw[hd]
  refine C0 (Dx Γ.toTy (bs:=[UInt8.ofNat (48+u % 10)]) Y Y Y Y Y Y Y (.lit (e:=Bn) (l:=[UInt8.ofNat (48+u % 10)]) Y Y)) Y Y ?_
  ((first|refine rG Γ hm ?_|refine rD Γ hm j_ ?_);(conv=>whnf);repeat((first|refine aF ?_|refine aT ?_);(first|refine rG Γ hm ?_|refine rD Γ hm j_ ?_);conv=>whnf))
  refine⟨by show 1+(mkT t).size≤_;omega,?_⟩
  ((conv=>whnf);repeat((first|refine aF ?_|refine aT ?_);(first|refine rG Γ hm ?_|refine rD Γ hm j_ ?_);conv=>whnf))
  refine⟨by decide,?_⟩
  ((conv=>whnf);repeat((first|refine aF ?_|refine aT ?_);(first|refine rG Γ hm ?_|refine rD Γ hm j_ ?_);conv=>whnf))
  rw[Ajw u z_]
  refine Ae (u / 10,UInt8.ofNat (48+u % 10)::t) [] ⟨by rw[hD,hr];simp,by dsimp only;omega⟩ (by dsimp only;omega) ⟨⟨Y,Y,congrArg Ad ?_,Y,q_⟩,q_,Y,Y⟩
  exact Eb [_] t
 ·have h1:u<10:=qB h
  rw[if_pos h1,List.nil_append]at hr
  have hd:IntKind.u8.wrap (IntKind.u64.wrap (48+((u % 10:Nat):Int)))=((UInt8.ofNat (48+u % 10)).toNat:Int):=by
   rw[show IntKind.u64.wrap (48+((u % 10:Nat):Int))=48+((u % 10:Nat):Int) by rw[IntKind.wrap_u64];omega]
   exact Alw u
  rw[Nat.mod_eq_of_lt h1]at hr hd
  ((first|refine rG Γ hm ?_|refine rD Γ hm j_ ?_);(conv=>whnf);repeat((first|refine aF ?_|refine aT ?_);(first|refine rG Γ hm ?_|refine rD Γ hm j_ ?_);conv=>whnf))
  rw[hd]
  refine C0 (Dx Γ.toTy (bs:=[UInt8.ofNat (48+u)]) Y Y Y Y Y Y Y (.lit (e:=Bn) (l:=[UInt8.ofNat (48+u)]) Y Y)) Y Y ?_
  ((first|refine rG Γ hm ?_|refine rD Γ hm j_ ?_);(conv=>whnf);repeat((first|refine aF ?_|refine aT ?_);(first|refine rG Γ hm ?_|refine rD Γ hm j_ ?_);conv=>whnf))
  refine⟨by show 1+(mkT t).size≤_;omega,?_⟩
  ((conv=>whnf);repeat((first|refine aF ?_|refine aT ?_);(first|refine rG Γ hm ?_|refine rD Γ hm j_ ?_);conv=>whnf))
  refine Ar Y (.cons .tmp .nil) (congrArg Ad ?_) Y
  rw[hD,hr]
  exact(Eb [_] t).symm
def C5 (n:Int):Prop:=-9223372036854775808≤n∧n<9223372036854775808
theorem Ad3 (m:Nat) (h:0<m):Aw (-(m:Int))=⟨#[45]⟩++Aw (m:Int):=by
 rw[Aw,Ad7 m h,Dq,List.reverse_append]
 exact(Eb [45] _).symm
theorem Ek {n:Int} (h:C5 n):(Aw n).size≤22:=by
 have hs:∀ m:Nat,m<10 ^ 20→(Aw (m:Int)).size≤21:=fun m hm2=>by
  rw[Dq,Bp,List.length_reverse];exact Cb 20 m hm2
 unfold C5 at h
 by_cases h0:0≤n
 ·obtain ⟨m,rfl⟩:=Int.eq_ofNat_of_zero_le h0
  have:=hs m z_
  omega
 ·obtain ⟨m,hmn⟩:∃ m:Nat,n=-(m:Int):=⟨n.natAbs,by omega⟩
  subst hmn
  have:=hs m z_
  rw[Ad3 m z_,ByteArray.size_append]
  show 1+_≤22
  omega
theorem Ak6 (n:Int) (h:C5 n):Sy.Spec Tryz.prog 117 [Aa n] [] (Ad (Aw n)) []:=by
 unfold C5 at h
 by_cases h0:0≤n
 ·obtain ⟨m,rfl⟩:=Int.eq_ofNat_of_zero_le h0
  exact Anr m z_
 ·obtain ⟨m,hmn⟩:∃ m:Nat,n=-(m:Int):=⟨n.natAbs,by omega⟩
  subst hmn
  exact Ad2 m z_ z_
theorem Bf (n:Int) (h:C5 n):Sy.Spec Tryz.prog 372 [Aa n] [] (Ad (Aw n)) []:=by
 unfold C5 at h
 by_cases h0:0≤n
 ·obtain ⟨m,rfl⟩:=Int.eq_ofNat_of_zero_le h0
  have q:=Vm m z_
  refine Ht Γ hm 100 F372 Tryz.ntmps372 Y fun F hF=>by
   ((conv=>whnf);repeat((first|refine aF ?_|refine aT ?_);(first|refine rG Γ hm ?_|refine rD Γ hm j_ ?_);conv=>whnf))
   rw[show IntKind.u64.wrap (m:Int)=m by rw[IntKind.wrap_u64];omega]
   refine c0 q F424 ?_
   ((first|refine rG Γ hm ?_|refine rD Γ hm j_ ?_);(conv=>whnf);repeat((first|refine aF ?_|refine aT ?_);(first|refine rG Γ hm ?_|refine rD Γ hm j_ ?_);conv=>whnf))
   exact dN
 ·obtain ⟨m,hmn⟩:∃ m:Nat,n=-(m:Int):=⟨n.natAbs,by omega⟩
  subst hmn
  have q:=Vm m z_
  have hsz:=Ek (n:=(m:Int))
  have hn:=Ad3 m z_
  have hs2:(Aw (m:Int)).size≤21:=by
   rw[Dq,Bp,List.length_reverse];exact Cb 20 m z_
  rw[hn]
  refine Ht Γ hm 100 F372 Tryz.ntmps372 Y fun F hF=>by
   ((conv=>whnf);repeat((first|refine aF ?_|refine aT ?_);(first|refine rG Γ hm ?_|refine rD Γ hm j_ ?_);conv=>whnf))
   refine⟨fun _=>?_,fun h=>absurd (of_decide_eq_false h) z_⟩
   ((first|refine rG Γ hm ?_|refine rD Γ hm j_ ?_);(conv=>whnf);repeat((first|refine aF ?_|refine aT ?_);(first|refine rG Γ hm ?_|refine rD Γ hm j_ ?_);conv=>whnf))
   refine iL ?_
   ((conv=>whnf);repeat((first|refine aF ?_|refine aT ?_);(first|refine rG Γ hm ?_|refine rD Γ hm j_ ?_);conv=>whnf))
   rw[show IntKind.u64.wrap (IntKind.u64.wrap (IntKind.i64.wrap (0-(-(m:Int)+1)))+1)=m by rw[IntKind.wrap_i64,IntKind.wrap_u64,IntKind.wrap_u64];omega]
   refine c0 q F424 ?_
   ((first|refine rG Γ hm ?_|refine rD Γ hm j_ ?_);(conv=>whnf);repeat((first|refine aF ?_|refine aT ?_);(first|refine rG Γ hm ?_|refine rD Γ hm j_ ?_);conv=>whnf))
   refine⟨by show 1+_≤_;omega,?_⟩
   ((conv=>whnf);repeat((first|refine aF ?_|refine aT ?_);(first|refine rG Γ hm ?_|refine rD Γ hm j_ ?_);conv=>whnf))
   exact dN
def Mo (p:Nat→Bool) (j:Nat):List Int:=((List.range j).filter p).map Int.ofNat
theorem Aia (p:Nat→Bool) (j:Nat):Mo p (j+1)=if p j=true then Mo p j++[(j:Int)] else Mo p j:=by
 rw[Mo,List.range_succ,List.filter_append,List.map_append]
 split
 ·rename_i h
  rw[List.filter_cons_of_pos (by exact h),List.filter_nil];rfl
 ·rename_i h
  rw[List.filter_cons_of_neg (by exact h),List.filter_nil,List.map_nil,List.append_nil];rfl
theorem T3 (p:Nat→Bool) (j:Nat):(Mo p j).length≤j:=by
 have:=List.length_filter_le p (List.range j)
 simpa [Mo] using this
theorem Aah {p:Nat→Bool} {j:Nat} {x:Int}:x∈Mo p j↔0≤x∧x<j∧p x.toNat=true:=by
 simp only[Mo,List.mem_map,List.mem_filter,List.mem_range]
 constructor
 ·rintro ⟨i,h1,rfl⟩
  exact⟨Int.natCast_nonneg i,by simp;omega,h1.2⟩
 ·rintro ⟨h1,h2,h3⟩
  exact⟨x.toNat,⟨by omega,h3⟩,Int.toNat_of_nonneg h1⟩
def Q0 (n:Net) (d:Domain) (i:Nat):Bool:=(nth n.ports i).dev == d.dev && C7 (nth n.ports i) d.vlan
def Oj (n:Net) (i:Int):List Int:=Mo (Q0 n (nth n.domains i)) n.ports.length
def E4 (n:Net) (i:Int):List Int:=if (0≤i∧i<n.domains.length)∧Ah n=true then Oj n i else []
theorem Oi (n:Net) (hn:n.Fin) (i:Int):At (E4 n i):=by
 have:=hn.ports
 unfold At at this ⊢
 unfold E4
 split
 ·have:=T3 (Q0 n (nth n.domains i)) n.ports.length
  unfold Oj
  omega
 ·simp
theorem Ab5 (n:Net) (hn:n.Fin) (l:List Domain) (p:Domain→Bool) (f:FuncId) (first cap:List SV) (hc:(SV.clo (.func f) first cap).inn []=true) (hf:∀ x∈l,Jz Tryz.prog f (first++[Am x]++cap) (Ab (p x))) (hl:At l) :
  Sy.Spec Tryz.prog 251 [Aj n,.sl 6 Am l,.clo (.func f) first cap] [] (Aa (if Ah n=true then Dl p l else -1)) []:=cT F251 Tryz.ntmps251 fun F hF=>by
 have hr:=Cq n hn
 have q:=Ez l p f first cap hc hf hl
 conv=>whnf
 refine c0 hr F25 ?_
 cases hb:Ah n
 ·rw[if_neg qe]
  refine oT ?_
  exact dN
 rw[if_pos rfl]
 refine oF ?_
 refine Mq q F163 Y Y (by simp only[C6,hc,Bool.and_true];rfl) Y Y ?_
 refine oO ?_
 exact dN
theorem Abj (dev vlan:Int) (d:Domain):Sy.Spec Tryz.prog 252 [Am d,.ref 1 (Aa dev) 0,.ref 1 (Aa vlan) 0] [] (Ab (d.dev == dev && d.vlan == vlan)) []:=cT F252 Tryz.ntmps252 fun F hF=>by
 conv=>whnf
 (repeat' (first | (refine⟨fun h=>?_,fun h=>?_⟩<;>(repeat (first | simp only[beq_iff_eq]at h | simp only[beq_eq_false_iff_ne]at h))<;>((refine oO ?_))) | (refine Ar rfl (.cons .tmp .nil) ?_ rfl)))
 all_goals (refine congrArg Ab ?_)
 all_goals simp_all
def T7 (n:Net) (dev vlan:Int):Int:=if Ah n=true then Ds n dev vlan else -1
theorem Tq (n:Net) (hn:n.Fin) (dev vlan:Int):Sy.Spec Tryz.prog 168 [Aj n,Aa dev,Aa vlan] [] (Aa (T7 n dev vlan)) []:=cT F168 Tryz.ntmps168 fun F hF=>by
 have q:=Ab5 n hn n.domains (fun d=>d.dev == dev && d.vlan == vlan) 252 [] [.ref 1 (Aa dev) 0,.ref 1 (Aa vlan) 0] rfl (fun d _=>⟨⟨_,_,F252⟩,Abj dev vlan d⟩) hn.domains
 conv=>whnf
 refine A6 4 1 (Aa dev) Y Y Y ?_
 refine A6 5 1 (Aa vlan) Y Y Y ?_
 refine c0 q F251 ?_
 refine oO ?_
 exact dN
def Hi (n:Net) (i:Int):Int :=
 if (0≤i∧i<n.ports.length)∧0≤(nth n.ports i).link∧Ah n=true then
  (if (nth n.links (nth n.ports i).link).a=i then (nth n.links (nth n.ports i).link).b else (nth n.links (nth n.ports i).link).a) else -1
theorem Oy {n:Net} (h:Ah n=true) {i:Nat} (hi:i<n.ports.length) (hl:0≤n.ports[i].link) :
  n.ports[i].link.toNat<n.links.length∧((nth n.links n.ports[i].link).a=i∨(nth n.links n.ports[i].link).b=i):=by
 have:=Ab8 h hi
 simp only[Jg,Ap,Bool.and_eq_true,Bool.or_eq_true,decide_eq_true_eq,beq_iff_eq]at this
 rcases this.2 with h1 | h1
 ·omega
 ·exact⟨by omega,h1.2⟩
theorem Abo (n:Net) (hn:n.Fin) (i:Int):Sy.Spec Tryz.prog 184 [Aj n,Aa i] [] (Aa (Hi n i)) []:=cT F184 Tryz.ntmps184 fun F hF=>by
 have hr:=Cq n hn
 conv=>whnf
 refine⟨fun h=>?_,fun h=>?_⟩
 ·have h1:i<0:=of_decide_eq_true h
  rw[Hi,if_neg z_]
  (refine oT ?_;refine bT ?_;refine bT ?_)
  exact dN
 have h1:0≤i:=qB h
 refine oO ?_
 refine⟨fun h=>?_,fun h=>?_⟩
 ·have h2:n.ports.length≤i:=of_decide_eq_true h
  rw[Hi,if_neg z_]
  (refine oT ?_;refine bT ?_)
  exact dN
 have h2:i<n.ports.length:=qB h
 have hk:i.toNat<n.ports.length:=by omega
 have e1:nth n.ports i=n.ports[i.toNat]:=As hk
 have hlk:=fun (hb:Ah n=true)=>Oy hb hk
 rw[Hi,e1]
 obtain ⟨p,hp⟩:∃ p,n.ports[i.toNat]=p:=⟨_,rfl⟩
 rw[hp]at hlk ⊢
 refine oO ?_
 refine⟨Y,h1,hk,?_⟩
 rw[hp]
 conv=>whnf
 refine⟨fun h=>?_,fun h=>?_⟩
 ·have h3:p.link<0:=of_decide_eq_true h
  rw[if_neg z_]
  refine oT ?_
  exact dN
 have h3:0≤p.link:=qB h
 refine oO ?_
 refine c0 hr F25 ?_
 cases hb:Ah n
 ·rw[if_neg qe]
  refine oT ?_
  exact dN
 rw[if_pos ⟨⟨h1,h2⟩,h3,rfl⟩]
 have hq:=hlk hb h3
 have e2:nth n.links p.link=n.links[p.link.toNat]:=As hq.1
 rw[e2]
 obtain ⟨l,hl⟩:∃ l,n.links[p.link.toNat]'hq.1=l:=⟨_,rfl⟩
 rw[hl]
 refine oF ?_
 refine⟨Y,h1,hk,?_⟩
 rw[hp]
 conv=>whnf
 refine⟨Y,h3,hq.1,?_⟩
 rw[hl]
 conv=>whnf
 refine kW ?_
 refine⟨fun h=>?_,fun h=>?_⟩
 ·have h4:l.a=i:=by simpa using h
  rw[if_pos h4]
  refine oO ?_
  exact dN
 ·have h4:¬ l.a=i:=by simpa using h
  rw[if_neg h4]
  refine oO ?_
  exact dN
end Go.Sy.YtjenpnjajjplkaaGreatDoor
namespace Go.Sy.YtjenpnjajjplkaaGreatDoor
open Go.Proofs
attribute [local irreducible] Go.Sy.G Go.Sy.DR
set_option maxRecDepth 100000
set_option maxHeartbeats 4000000
theorem F207:Fun Tryz.prog 207 Tryz.f207 (Yq Tryz.f207):=⟨Tryz.func207,rfl,by kernel_rfl⟩
theorem F289:Fun Tryz.prog 289 Tryz.f289 (Yq Tryz.f289):=⟨Tryz.func289,rfl,by kernel_rfl⟩
theorem Wz (s p:ByteArray):Sy.Spec Tryz.prog 209 [Ad s,Ad p] [] (Ad (mkT (Lib.trimPrefix s.data.toList p.data.toList))) [] :=
 Spec.of_calls fun κ w vs hi hr _=>by
  simp only[RdL]at hr
  obtain ⟨v,r,rfl,h3,u,r',rfl,h4,rfl⟩:=hr
  have h3':v=.string s:=by simpa only [Ad,Rd] using h3
  have h4':u=.string p:=by simpa only [Ad,Rd] using h4
  subst h3' h4'
  exact(Tryz.strings_TrimPrefix s p w).mono fun e w' ⟨he,hw⟩=>⟨he,hw ▸ RowKit.Below.refl _ _⟩
theorem Ahw (s:ByteArray) (c:UInt8) (m:Int) (hm:Lib.indexByte s.data.toList c=m):Sy.Spec Tryz.prog 289 [Ad s,Ad ⟨#[c]⟩] [] (Aa m) [] :=
 Spec.of_calls fun κ w vs hi hr _=>by
  subst hm
  simp only[RdL]at hr
  obtain ⟨v,r,rfl,h3,u,r',rfl,h4,rfl⟩:=hr
  have h3':v=.string s:=by simpa only [Ad,Rd] using h3
  have h4':u=.string ⟨#[c]⟩:=by simpa only [Ad,Rd] using h4
  subst h3' h4'
  exact(Tryz.stringslite_Index_one s c w).mono fun e w' ⟨he,hw⟩=>⟨he,hw ▸ RowKit.Below.refl _ _⟩
def cutT (c:UInt8) (s:ByteArray):ByteArray × ByteArray × Bool :=
 if 0≤Lib.indexByte s.data.toList c then (s.extract 0 (I6 c s.data.toList),s.extract (I6 c s.data.toList+1) s.size,true) else (s,⟨#[]⟩,false)
theorem L7 (l:List UInt8) (c:UInt8):Lib.indexByte l c<l.length:=by
 induction l with
 | nil=>simp[Lib.indexByte]
 | cons b l ih =>
  unfold Lib.indexByte
  rw[List.length_cons]
  split
  ·omega
  split
  ·omega
  ·omega
theorem An3 (s:ByteArray) (c:UInt8) (hs:s.size≤1000000000):Sy.Spec Tryz.prog 207 [Ad s,Ad ⟨#[c]⟩] [] (.tup [Ad (cutT c s).1,Ad (cutT c s).2.1,Ab (cutT c s).2.2]) []:=cT F207 Tryz.ntmps207 fun F hF=>by
 have hres:=cutT.eq_1 c s
 generalize cutT c s=res at *
 have hlt:=L7 s.data.toList c
 have hsz:s.data.toList.length=s.size:=rfl
 have hid:I6 c s.data.toList=(Lib.indexByte s.data.toList c).toNat:=rfl
 obtain ⟨m,hmm⟩:∃ m,Lib.indexByte s.data.toList c=m:=⟨_,rfl⟩
 have q:=Ahw s c m hmm
 rw[hmm]at hres hlt hid
 ((conv=>whnf);repeat((first|refine aF ?_|refine aT ?_);(first|refine rG Γ hm ?_|refine rD Γ hm j_ ?_);conv=>whnf))
 refine c0 q F289 ?_
 ((first|refine rG Γ hm ?_|refine rD Γ hm j_ ?_);(conv=>whnf);repeat((first|refine aF ?_|refine aT ?_);(first|refine rG Γ hm ?_|refine rD Γ hm j_ ?_);conv=>whnf))
 refine⟨fun h=>?_,fun h=>?_⟩
 ·have h0:0≤m:=of_decide_eq_true h
  rw[if_pos h0,hid]at hres
  have e1:(m+1).toNat=m.toNat+1:=by omega
  have hc1:(⟨#[c]⟩:ByteArray).size=1:=rfl
  subst hres
  ((first|refine rG Γ hm ?_|refine rD Γ hm j_ ?_);(conv=>whnf);repeat((first|refine aF ?_|refine aT ?_);(first|refine rG Γ hm ?_|refine rD Γ hm j_ ?_);conv=>whnf))
  refine⟨⟨by omega,by omega,by omega⟩,?_⟩
  ((conv=>whnf);repeat((first|refine aF ?_|refine aT ?_);(first|refine rG Γ hm ?_|refine rD Γ hm j_ ?_);conv=>whnf))
  refine⟨by show I64 (m+1);unfold I64;omega,?_⟩
  ((conv=>whnf);repeat((first|refine aF ?_|refine aT ?_);(first|refine rG Γ hm ?_|refine rD Γ hm j_ ?_);conv=>whnf))
  refine⟨⟨by omega,by omega,by omega⟩,?_⟩
  ((conv=>whnf);repeat((first|refine aF ?_|refine aT ?_);(first|refine rG Γ hm ?_|refine rD Γ hm j_ ?_);conv=>whnf))
  refine⟨j_,?_⟩
  ((conv=>whnf);repeat((first|refine aF ?_|refine aT ?_);(first|refine rG Γ hm ?_|refine rD Γ hm j_ ?_);conv=>whnf))
  refine Ar Y (.cons .tmp (.cons .tmp (.cons .tmp .nil))) ?_ Y
  show SV.tup [Ad _,Ad (s.extract (m.toNat+1) s.size),_]=SV.tup [Ad _,Ad (s.extract (m+1).toNat _),_]
  rw[e1]
  rfl
 ·have h0:¬ 0≤m:=of_decide_eq_false h
  rw[if_neg h0]at hres
  subst hres
  ((first|refine rG Γ hm ?_|refine rD Γ hm j_ ?_);(conv=>whnf);repeat((first|refine aF ?_|refine aT ?_);(first|refine rG Γ hm ?_|refine rD Γ hm j_ ?_);conv=>whnf))
  exact dN
theorem Wl (s:ByteArray) (c:UInt8) (hs:s.size≤1000000000):Sy.Spec Tryz.prog 119 [Ad s,Ad ⟨#[c]⟩] [] (.tup [Ad (cutT c s).1,Ad (cutT c s).2.1,Ab (cutT c s).2.2]) []:=cT F119 Tryz.ntmps119 fun F hF=>by
 have q:=An3 s c hs
 generalize cutT c s=res at *
 ((conv=>whnf);repeat((first|refine aF ?_|refine aT ?_);(first|refine rG Γ hm ?_|refine rD Γ hm j_ ?_);conv=>whnf))
 refine c0 q F207 ?_
 ((first|refine rG Γ hm ?_|refine rD Γ hm j_ ?_);(conv=>whnf);repeat((first|refine aF ?_|refine aT ?_);(first|refine rG Γ hm ?_|refine rD Γ hm j_ ?_);conv=>whnf))
 exact dN
def Hs (l:List UInt8):Int:=l.foldl (fun n c=>10 * n+((c.toNat:Int)-48)) 0
def Sh (s:ByteArray):Bool:=s.data.toList.head? == some 45
def H6 (s:ByteArray):List UInt8:=if Sh s=true then s.data.toList.drop 1 else s.data.toList
def numV (s:ByteArray):Int:=if Sh s=true then 0-Hs (H6 s) else Hs (H6 s)
def numR (s:ByteArray) (lo hi:Int):Int × Bool :=
 if (H6 s).length<1∨10<(H6 s).length then (0,false) else if (H6 s).all Dd=false then (0,false)
 else if numV s<lo∨hi<numV s then (0,false) else if (Aw (numV s) == s)=true then (numV s,true) else (0,false)
theorem I7 (l:List UInt8) (c:UInt8):Hs (l++[c])=10 * Hs l+((c.toNat:Int)-48):=by
 rw[Hs,List.foldl_append];rfl
theorem Ajo:∀ (k:Nat) (l:List UInt8),l.length=k→(∀ c∈l,Dd c=true)→0≤Hs l∧Hs l<10 ^ k
 | 0,l,hl,_=>by
  rw[List.length_eq_zero_iff.1 hl]
  exact⟨Int.le_refl _,by decide⟩
 | k+1,l,hl,h=>by
  have hne:l≠[]:=fun e=>by rw[e]at hl;cases hl
  have e:=List.dropLast_concat_getLast hne
  have h1:=Ajo k l.dropLast (by rw[List.length_dropLast];omega) fun c hc=>h c (List.dropLast_subset l hc)
  have h2:=h _ (List.getLast_mem hne)
  simp only[Dd,Bool.and_eq_true,decide_eq_true_eq]at h2
  rw[← e,I7,Int.pow_succ]
  omega
theorem Acd {l:List UInt8} (hl:l.length≤10) (h:∀ c∈l,Dd c=true):0≤Hs l∧Hs l<10000000000:=by
 have h1:=Ajo _ l rfl h
 refine⟨h1.1,Int.lt_of_lt_of_le h1.2 ?_⟩
 have h2:(10:Nat) ^ l.length≤10 ^ 10:=Nat.pow_le_pow_right y_ hl
 have h3:((10:Nat) ^ l.length:Int)≤((10 ^ 10:Nat):Int):=by exact_mod_cast h2
 simpa using h3
theorem Amh (s:ByteArray):Lib.trimPrefix s.data.toList [45]=H6 s:=by
 unfold Lib.trimPrefix H6 Sh
 cases s.data.toList with
 | nil=>simp[Lib.hasPrefix]
 | cons c l =>
  by_cases hc:c=45
  ·subst hc;simp[Lib.hasPrefix]
  ·simp[Lib.hasPrefix,hc,Ne.symm hc]
theorem Hx {s:ByteArray} {i:Nat} (h:i<s.data.toList.length):Ai s i=s.data.toList[i]:=by
 rw[Ai,List.getD_eq_getElem?_getD,List.getElem?_eq_getElem h];rfl
theorem Wv {α:Type} {p:α→Bool} {l:List α} {j:Nat} (hI:Da (fun _ x=>p x) l j):∀ c∈l.take j,p c=true:=by
 intro c hc
 obtain ⟨i,hi,rfl⟩:=List.mem_iff_getElem.1 hc
 rw[List.length_take]at hi
 rw[List.getElem_take]
 exact hI i z_ z_
theorem I9 {α:Type} {p:α→Bool} {l:List α} {j:Nat} (hI:Da (fun _ x=>p x) l j) (hj:l.length≤j):l.all p=true:=by
 rw[List.all_eq_true]
 intro x hx
 obtain ⟨i,hi,rfl⟩:=List.mem_iff_getElem.1 hx
 exact hI i hi z_
theorem all_at' {α:Type} {p:α→Bool} {l:List α} {j:Nat} (hj:j<l.length) (h:p l[j]=false):l.all p=false:=by
 cases ha:l.all p
 ·rfl
 ·rw[List.all_eq_true]at ha
  rw[ha _ (List.getElem_mem hj)]at h;cases h
theorem u8_sub2 {c:UInt8} (h:Dd c=true):IntKind.i64.wrap (IntKind.u8.wrap ((c.toNat:Int)-48))=(c.toNat:Int)-48:=by
 simp only[Dd,Bool.and_eq_true,decide_eq_true_eq]at h
 rw[IntKind.wrap_u8,IntKind.wrap_i64];omega
theorem neg_digs {s:ByteArray} (h:Sh s=true):(H6 s).length+1=s.size∧∀ j,j<(H6 s).length→Ai s (1+j)=(H6 s).getD j 0:=by
 have hsz:s.data.toList.length=s.size:=rfl
 rw[H6,if_pos h]
 rw[Sh]at h
 cases hd:s.data.toList with
 | nil=>rw[hd]at h;cases h
 | cons c l =>
  rw[hd]at hsz
  refine⟨by simp at hsz ⊢;omega,fun j hj=>?_⟩
  rw[Ai,hd,Nat.add_comm]
  rfl
theorem pos_digs {s:ByteArray} (h:Sh s=false):(H6 s).length=s.size∧∀ j,j<(H6 s).length→Ai s j=(H6 s).getD j 0:=by
 rw[H6,if_neg (by simp[h])]
 exact⟨Y,fun j hj=>rfl⟩
theorem Ad5 (s:ByteArray) (lo hi:Int):Sy.Spec Tryz.prog 124 [Ad s,Aa lo,Aa hi] [] (.tup [Aa (numR s lo hi).1,Ab (numR s lo hi).2]) []:=cT F124 Tryz.ntmps124 fun F hF=>by
 have hres:=numR.eq_1 s lo hi
 generalize numR s lo hi=res at *
 have q:=Wz s ⟨#[45]⟩
 rw[show (⟨#[45]⟩:ByteArray).data.toList=[45] from rfl,Amh]at q
 have hnv:=numV.eq_1 s
 have hng:=@neg_digs s
 have hps:=@pos_digs s
 generalize numV s=nv at *
 generalize hD:H6 s=D at *
 have hDs:(mkT D).size=D.length:=Bp D
 ((conv=>whnf);repeat((first|refine aF ?_|refine aT ?_);(first|refine rG Γ hm ?_|refine rD Γ hm j_ ?_);conv=>whnf))
 refine c0 q F209 ?_
 by_cases h1:D.length<1∨10<D.length
 ·rw[if_pos h1]at hres
  subst hres
  ((first|refine rG Γ hm ?_|refine rD Γ hm j_ ?_);(conv=>whnf);repeat((first|refine aF ?_|refine aT ?_);(first|refine rG Γ hm ?_|refine rD Γ hm j_ ?_);conv=>whnf))
  refine⟨fun h=>?_,fun h=>?_⟩
  ·((first|refine rG Γ hm ?_|refine rD Γ hm j_ ?_);(conv=>whnf);repeat((first|refine aF ?_|refine aT ?_);(first|refine rG Γ hm ?_|refine rD Γ hm j_ ?_);conv=>whnf))
   exact dN
  ·have h2:1≤D.length:=by
    cases D with
    | nil=>exact absurd (show (mkT [] == (⟨#[]⟩:ByteArray))=true from rfl) (by rw[show (mkT [] == (⟨#[]⟩:ByteArray))=false from h];simp)
    | cons=>simp
   ((first|refine rG Γ hm ?_|refine rD Γ hm j_ ?_);(conv=>whnf);repeat((first|refine aF ?_|refine aT ?_);(first|refine rG Γ hm ?_|refine rD Γ hm j_ ?_);conv=>whnf))
   refine⟨fun h=>?_,fun h=>?_⟩
   ·((first|refine rG Γ hm ?_|refine rD Γ hm j_ ?_);(conv=>whnf);repeat((first|refine aF ?_|refine aT ?_);(first|refine rG Γ hm ?_|refine rD Γ hm j_ ?_);conv=>whnf))
    exact dN
   ·exact absurd (of_decide_eq_false h) z_
 rw[if_neg h1]at hres
 have hne:(mkT D == (⟨#[]⟩:ByteArray))=false:=by
  cases he:(mkT D == (⟨#[]⟩:ByteArray))
  ·rfl
  ·have e:(mkT D).data=(⟨#[]⟩:ByteArray).data:=by simpa using (show ((mkT D).data == (⟨#[]⟩:ByteArray).data)=true from he)
   have:=congrArg Array.size e
   have e2:(mkT D).data.size=D.length:=hDs
   rw[e2]at this
   have e3:(⟨#[]⟩:ByteArray).data.size=0:=rfl
   omega
 ((first|refine rG Γ hm ?_|refine rD Γ hm j_ ?_);(conv=>whnf);repeat((first|refine aF ?_|refine aT ?_);(first|refine rG Γ hm ?_|refine rD Γ hm j_ ?_);conv=>whnf))
 refine⟨fun h=>absurd h (by rw[hne];simp),fun _=>?_⟩
 ((first|refine rG Γ hm ?_|refine rD Γ hm j_ ?_);(conv=>whnf);repeat((first|refine aF ?_|refine aT ?_);(first|refine rG Γ hm ?_|refine rD Γ hm j_ ?_);conv=>whnf))
 refine⟨fun h=>absurd (of_decide_eq_true h) z_,fun _=>?_⟩
 ((first|refine rG Γ hm ?_|refine rD Γ hm j_ ?_);(conv=>whnf);repeat((first|refine aF ?_|refine aT ?_);(first|refine rG Γ hm ?_|refine rD Γ hm j_ ?_);conv=>whnf))
 refine A2 D.length (fun j=>Da (fun _ c=>Dd c) D j) (fun j=>[(0,Ad s),(1,Aa lo),(2,Aa hi),(8,Ad (mkT D)),(9,Aa (Hs (D.take j))),(21,Aa D.length),(22,Aa j)]) (fun _=>[]) [] (Av _ _)
  ⟨⟨rfl,rfl,rfl,rfl,rfl,rfl,rfl,rfl,rfl,rfl,congrArg (fun z:Nat=>SV.val (.int .i64 z)) hDs.symm,rfl,rfl,rfl,trivial⟩,trivial,rfl,rfl⟩ ?_
 intro j hj hI
 have hv:=Acd (l:=D.take j) (by rw[List.length_take];omega) (Wv hI)
 ((first|refine rG Γ hm ?_|refine rD Γ hm j_ ?_);(conv=>whnf);repeat((first|refine aF ?_|refine aT ?_);(first|refine rG Γ hm ?_|refine rD Γ hm j_ ?_);conv=>whnf))
 refine⟨fun h=>?_,fun h=>?_⟩
 ·have hlt:j<D.length:=qA h
  have hb:Ai (mkT D) ((j:Nat):Int).toNat=D[j]:=by
   have:j<(mkT D).data.toList.length:=by rw[Bv];exact hlt
   rw[Int.toNat_natCast,Hx this];simp[mkT]
  have hno:=fun h=>@all_at' _ Dd D j hlt h
  have hnx:=fun h=>Aq (p:=fun _ c=>Dd c) hI hlt h
  have hsucc:Hs (D.take (j+1))=10 * Hs (D.take j)+((D[j].toNat:Int)-48):=by rw[List.take_succ_eq_append_getElem hlt,I7]
  have hu:=@u8_sub2 D[j]
  generalize D[j]=c at *
  generalize Hs (D.take j)=v at *
  have hc2:=c.toNat_lt
  ((first|refine rG Γ hm ?_|refine rD Γ hm j_ ?_);(conv=>whnf);repeat((first|refine aF ?_|refine aT ?_);(first|refine rG Γ hm ?_|refine rD Γ hm j_ ?_);conv=>whnf))
  refine⟨by omega,by omega,?_⟩
  rw[hb]
  ((conv=>whnf);repeat((first|refine aF ?_|refine aT ?_);(first|refine rG Γ hm ?_|refine rD Γ hm j_ ?_);conv=>whnf))
  refine⟨fun h2=>?_,fun h2=>?_⟩
  ·have h3:c.toNat<48:=by have:=of_decide_eq_true h2;omega
   rw[if_pos (hno (by rw[Dd,decide_eq_false z_];rfl))]at hres
   subst hres
   ((first|refine rG Γ hm ?_|refine rD Γ hm j_ ?_);(conv=>whnf);repeat((first|refine aF ?_|refine aT ?_);(first|refine rG Γ hm ?_|refine rD Γ hm j_ ?_);conv=>whnf))
   exact dN
  have h2:=of_decide_eq_false h2
  ((first|refine rG Γ hm ?_|refine rD Γ hm j_ ?_);(conv=>whnf);repeat((first|refine aF ?_|refine aT ?_);(first|refine rG Γ hm ?_|refine rD Γ hm j_ ?_);conv=>whnf))
  refine⟨by omega,by omega,?_⟩
  rw[hb]
  ((conv=>whnf);repeat((first|refine aF ?_|refine aT ?_);(first|refine rG Γ hm ?_|refine rD Γ hm j_ ?_);conv=>whnf))
  refine⟨fun h3=>?_,fun h3=>?_⟩
  ·have h3:57<c.toNat:=by have:=of_decide_eq_true h3;omega
   rw[if_pos (hno (by rw[Dd,decide_eq_false (by omega:¬ c.toNat≤57),Bool.and_false]))]at hres
   subst hres
   ((first|refine rG Γ hm ?_|refine rD Γ hm j_ ?_);(conv=>whnf);repeat((first|refine aF ?_|refine aT ?_);(first|refine rG Γ hm ?_|refine rD Γ hm j_ ?_);conv=>whnf))
   exact dN
  have h3:=of_decide_eq_false h3
  have hdg:Dd c=true:=by rw[Dd,decide_eq_true z_,decide_eq_true z_];rfl
  have hu:=hu hdg
  ((first|refine rG Γ hm ?_|refine rD Γ hm j_ ?_);(conv=>whnf);repeat((first|refine aF ?_|refine aT ?_);(first|refine rG Γ hm ?_|refine rD Γ hm j_ ?_);conv=>whnf))
  refine⟨by show I64 (10 * v);unfold I64;omega,?_⟩
  ((conv=>whnf);repeat((first|refine aF ?_|refine aT ?_);(first|refine rG Γ hm ?_|refine rD Γ hm j_ ?_);conv=>whnf))
  refine⟨by omega,by omega,?_⟩
  rw[hb]
  ((conv=>whnf);repeat((first|refine aF ?_|refine aT ?_);(first|refine rG Γ hm ?_|refine rD Γ hm j_ ?_);conv=>whnf))
  rw[hu]
  refine⟨by show I64 (10 * v+((c.toNat:Int)-48));unfold I64;omega,?_⟩
  ((conv=>whnf);repeat((first|refine aF ?_|refine aT ?_);(first|refine rG Γ hm ?_|refine rD Γ hm j_ ?_);conv=>whnf))
  refine iL ?_
  ((conv=>whnf);repeat((first|refine aF ?_|refine aT ?_);(first|refine rG Γ hm ?_|refine rD Γ hm j_ ?_);conv=>whnf))
  exact Ba [] hI z_ (hnx hdg) ⟨⟨Y,Y,Y,Y,Y,Y,Y,Y,congrArg Aa hsucc,Y,Y,Y,Y,Y,q_⟩,q_,Y,Y⟩
 ·have hje:j=D.length:=qB h
  subst hje
  rw[if_neg (by rw[I9 hI (Nat.le_refl _)];simp)]at hres
  rw[List.take_length]at hv ⊢
  have fin:∀ nv:Int,nv=(if Sh s=true then 0-Hs D else Hs D)→(-10000000000<nv∧nv<10000000000)∧C5 nv:=fun nv h=>by
   unfold C5
   split at h<;>omega
  have fn:=fin nv hnv
  have q2:=Ak6 nv fn.2
  have hs2:((mkT D).size:Int)=D.length:=by rw[hDs]
  cases hn:Sh s
  ·rw[hn,if_neg qe]at hnv
   have h4:=(hps hn).1
   rw[← hnv]
   ((first|refine rG Γ hm ?_|refine rD Γ hm j_ ?_);(conv=>whnf);repeat((first|refine aF ?_|refine aT ?_);(first|refine rG Γ hm ?_|refine rD Γ hm j_ ?_);conv=>whnf))
   refine⟨fun h=>absurd (of_decide_eq_true h) z_,fun _=>?_⟩
   ((first|refine rG Γ hm ?_|refine rD Γ hm j_ ?_);(conv=>whnf);repeat((first|refine aF ?_|refine aT ?_);(first|refine rG Γ hm ?_|refine rD Γ hm j_ ?_);conv=>whnf))
   refine⟨fun h=>?_,fun h=>?_⟩
   ·rw[if_pos (.inl (of_decide_eq_true h))]at hres
    subst hres
    ((first|refine rG Γ hm ?_|refine rD Γ hm j_ ?_);(conv=>whnf);repeat((first|refine aF ?_|refine aT ?_);(first|refine rG Γ hm ?_|refine rD Γ hm j_ ?_);conv=>whnf))
    exact dN
   have h5:=of_decide_eq_false h
   ((first|refine rG Γ hm ?_|refine rD Γ hm j_ ?_);(conv=>whnf);repeat((first|refine aF ?_|refine aT ?_);(first|refine rG Γ hm ?_|refine rD Γ hm j_ ?_);conv=>whnf))
   refine⟨fun h=>?_,fun h=>?_⟩
   ·rw[if_pos (.inr (of_decide_eq_true h))]at hres
    subst hres
    ((first|refine rG Γ hm ?_|refine rD Γ hm j_ ?_);(conv=>whnf);repeat((first|refine aF ?_|refine aT ?_);(first|refine rG Γ hm ?_|refine rD Γ hm j_ ?_);conv=>whnf))
    exact dN
   have h6:=of_decide_eq_false h
   rw[if_neg z_]at hres
   ((first|refine rG Γ hm ?_|refine rD Γ hm j_ ?_);(conv=>whnf);repeat((first|refine aF ?_|refine aT ?_);(first|refine rG Γ hm ?_|refine rD Γ hm j_ ?_);conv=>whnf))
   refine c0 q2 F117 ?_
   cases he:(Aw nv == s)
   ·rw[he,if_neg qe]at hres
    subst hres
    ((first|refine rG Γ hm ?_|refine rD Γ hm j_ ?_);(conv=>whnf);repeat((first|refine aF ?_|refine aT ?_);(first|refine rG Γ hm ?_|refine rD Γ hm j_ ?_);conv=>whnf))
    refine⟨fun _=>?_,fun h=>absurd h (by rw[he];simp)⟩
    ((first|refine rG Γ hm ?_|refine rD Γ hm j_ ?_);(conv=>whnf);repeat((first|refine aF ?_|refine aT ?_);(first|refine rG Γ hm ?_|refine rD Γ hm j_ ?_);conv=>whnf))
    exact dN
   ·rw[he,if_pos rfl]at hres
    subst hres
    ((first|refine rG Γ hm ?_|refine rD Γ hm j_ ?_);(conv=>whnf);repeat((first|refine aF ?_|refine aT ?_);(first|refine rG Γ hm ?_|refine rD Γ hm j_ ?_);conv=>whnf))
    refine⟨fun h=>absurd h (by rw[he];simp),fun _=>?_⟩
    ((first|refine rG Γ hm ?_|refine rD Γ hm j_ ?_);(conv=>whnf);repeat((first|refine aF ?_|refine aT ?_);(first|refine rG Γ hm ?_|refine rD Γ hm j_ ?_);conv=>whnf))
    exact dN
  ·rw[hn,if_pos rfl]at hnv
   have h4:=(hng hn).1
   have hw:IntKind.i64.wrap (0-Hs D)=nv:=by rw[IntKind.wrap_i64];omega
   ((first|refine rG Γ hm ?_|refine rD Γ hm j_ ?_);(conv=>whnf);repeat((first|refine aF ?_|refine aT ?_);(first|refine rG Γ hm ?_|refine rD Γ hm j_ ?_);conv=>whnf))
   refine⟨fun _=>?_,fun h=>absurd (of_decide_eq_false h) z_⟩
   ((first|refine rG Γ hm ?_|refine rD Γ hm j_ ?_);(conv=>whnf);repeat((first|refine aF ?_|refine aT ?_);(first|refine rG Γ hm ?_|refine rD Γ hm j_ ?_);conv=>whnf))
   rw[hw]
   refine⟨fun h=>?_,fun h=>?_⟩
   ·rw[if_pos (.inl (of_decide_eq_true h))]at hres
    subst hres
    ((first|refine rG Γ hm ?_|refine rD Γ hm j_ ?_);(conv=>whnf);repeat((first|refine aF ?_|refine aT ?_);(first|refine rG Γ hm ?_|refine rD Γ hm j_ ?_);conv=>whnf))
    exact dN
   have h5:=of_decide_eq_false h
   ((first|refine rG Γ hm ?_|refine rD Γ hm j_ ?_);(conv=>whnf);repeat((first|refine aF ?_|refine aT ?_);(first|refine rG Γ hm ?_|refine rD Γ hm j_ ?_);conv=>whnf))
   refine⟨fun h=>?_,fun h=>?_⟩
   ·rw[if_pos (.inr (of_decide_eq_true h))]at hres
    subst hres
    ((first|refine rG Γ hm ?_|refine rD Γ hm j_ ?_);(conv=>whnf);repeat((first|refine aF ?_|refine aT ?_);(first|refine rG Γ hm ?_|refine rD Γ hm j_ ?_);conv=>whnf))
    exact dN
   have h6:=of_decide_eq_false h
   rw[if_neg z_]at hres
   ((first|refine rG Γ hm ?_|refine rD Γ hm j_ ?_);(conv=>whnf);repeat((first|refine aF ?_|refine aT ?_);(first|refine rG Γ hm ?_|refine rD Γ hm j_ ?_);conv=>whnf))
   refine c0 q2 F117 ?_
   cases he:(Aw nv == s)
   ·rw[he,if_neg qe]at hres
    subst hres
    ((first|refine rG Γ hm ?_|refine rD Γ hm j_ ?_);(conv=>whnf);repeat((first|refine aF ?_|refine aT ?_);(first|refine rG Γ hm ?_|refine rD Γ hm j_ ?_);conv=>whnf))
    refine⟨fun _=>?_,fun h=>absurd h (by rw[he];simp)⟩
    ((first|refine rG Γ hm ?_|refine rD Γ hm j_ ?_);(conv=>whnf);repeat((first|refine aF ?_|refine aT ?_);(first|refine rG Γ hm ?_|refine rD Γ hm j_ ?_);conv=>whnf))
    exact dN
   ·rw[he,if_pos rfl]at hres
    subst hres
    ((first|refine rG Γ hm ?_|refine rD Γ hm j_ ?_);(conv=>whnf);repeat((first|refine aF ?_|refine aT ?_);(first|refine rG Γ hm ?_|refine rD Γ hm j_ ?_);conv=>whnf))
    refine⟨fun h=>absurd h (by rw[he];simp),fun _=>?_⟩
    ((first|refine rG Γ hm ?_|refine rD Γ hm j_ ?_);(conv=>whnf);repeat((first|refine aF ?_|refine aT ?_);(first|refine rG Γ hm ?_|refine rD Γ hm j_ ?_);conv=>whnf))
    exact dN
theorem Ip:∀ (l:List UInt8) (c:UInt8),-1≤Lib.indexByte l c
 | [],_=>by simp[Lib.indexByte]
 | b::l,c=>by
  unfold Lib.indexByte
  have:=Ip l c
  split
  ·omega
  split
  ·omega
  ·omega
def Ei:List UInt8→List UInt8→List ByteArray
 | cur,[]=>if cur=[] then [] else [mkT cur]
 | cur,c::r=>if c=10 then mkT cur::Ei [] r else Ei (cur++[c]) r
def rowsT (b:List UInt8):List ByteArray × Int :=
 if 20000<b.length then ([],3) else if 400<(Ei [] b).length then ([],3) else (Ei [] b,0)
theorem Vj:∀ (l cur:List UInt8),Lib.indexByte l 10=-1→Ei cur l=if cur++l=[] then [] else [mkT (cur++l)]
 | [],cur,_=>by rw[Ei,List.append_nil]
 | c::l,cur,h=>by
  unfold Lib.indexByte at h
  by_cases hc:(c == 10)=true
  ·rw[if_pos hc]at h;omega
  rw[if_neg hc]at h
  have hi:Lib.indexByte l 10=-1:=by
   by_cases h1:(Lib.indexByte l 10 == -1)=true
   ·simpa using h1
   ·rw[if_neg h1]at h
    have:=Ip l 10
    omega
  rw[Ei,if_neg (by simpa using hc),Vj l _ hi]
  simp
theorem Vi:∀ (l cur:List UInt8),0≤Lib.indexByte l 10→Ei cur l=mkT (cur++l.take (Lib.indexByte l 10).toNat)::Ei [] (l.drop ((Lib.indexByte l 10).toNat+1))
 | [],cur,h=>by simp[Lib.indexByte]at h
 | c::l,cur,h=>by
  unfold Lib.indexByte at h ⊢
  by_cases hc:(c == 10)=true
  ·rw[if_pos hc,Ei,if_pos (by simpa using hc)]
   simp
  rw[if_neg hc]at h ⊢
  by_cases h1:(Lib.indexByte l 10 == -1)=true
  ·rw[if_pos h1]at h;omega
  rw[if_neg h1]at h ⊢
  have:=Ip l 10
  have h2:0≤Lib.indexByte l 10:=by
   have h3:Lib.indexByte l 10≠-1:=by simpa using h1
   omega
  have e:(Lib.indexByte l 10+1).toNat=(Lib.indexByte l 10).toNat+1:=by omega
  rw[Ei,if_neg (by simpa using hc),Vi l _ h2,e]
  simp
theorem Agq {l:List UInt8} (h:l≠[]):Ei [] l=(cutT 10 (mkT l)).1::Ei [] (cutT 10 (mkT l)).2.1.data.toList∧(cutT 10 (mkT l)).2.1.data.toList.length<l.length:=by
 have hpos:=List.length_pos_iff.2 h
 have hlt:=L7 l 10
 have hge:=Ip l 10
 have e0:(mkT l).size=l.length:=Bp l
 rw[cutT,Bv]
 split
 ·rename_i h0
  dsimp only
  rw[Vi l [] h0,Cr,Cr,Bv,e0,List.take_length]
  refine⟨Y,?_⟩
  rw[List.length_drop]
  omega
 ·rename_i h0
  dsimp only
  rw[Vj l [] z_,List.nil_append,if_neg h]
  exact⟨Y,hpos⟩
theorem Alc (l:List UInt8):(mkT l == ⟨#[]⟩)=decide (l=[]):=by
 cases l with
 | nil=>rfl
 | cons c l =>
  rw[decide_eq_false qe]
  cases he:(mkT (c::l) == (⟨#[]⟩:ByteArray))
  ·rfl
  ·have e:(mkT (c::l)).data=(⟨#[]⟩:ByteArray).data:=by simpa using (show ((mkT (c::l)).data == (⟨#[]⟩:ByteArray).data)=true from he)
   have:=congrArg Array.size e
   simp[mkT]at this
theorem Alh (b:List UInt8) (hb:b.length≤1000000):Sy.Spec Tryz.prog 36 [.sl 1 Bn b] [] (.tup [.sl 1 Ad (rowsT b).1,Aa (rowsT b).2]) []:=cT F36 Tryz.ntmps36 fun F hF=>by
 have hres:=rowsT.eq_1 b
 generalize rowsT b=res at *
 ((conv=>whnf);repeat((first|refine aF ?_|refine aT ?_);(first|refine rG Γ hm ?_|refine rD Γ hm j_ ?_);conv=>whnf))
 refine⟨fun h=>?_,fun h=>?_⟩
 ·rw[if_pos (qA h)]at hres
  subst hres
  ((first|refine rG Γ hm ?_|refine rD Γ hm j_ ?_);(conv=>whnf);repeat((first|refine aF ?_|refine aT ?_);(first|refine rG Γ hm ?_|refine rD Γ hm j_ ?_);conv=>whnf))
  refine Dh 2 1 Ad Y ?_
  ((first|refine rG Γ hm ?_|refine rD Γ hm j_ ?_);(conv=>whnf);repeat((first|refine aF ?_|refine aT ?_);(first|refine rG Γ hm ?_|refine rD Γ hm j_ ?_);conv=>whnf))
  exact dN
 rw[if_neg (qB h)]at hres
 ((first|refine rG Γ hm ?_|refine rD Γ hm j_ ?_);(conv=>whnf);repeat((first|refine aF ?_|refine aT ?_);(first|refine rG Γ hm ?_|refine rD Γ hm j_ ?_);conv=>whnf))
 refine C0 (Dx Γ.toTy (bs:=b) Y Y Y Y Y Y Y .sl) Y Y ?_
 refine C4 4 1000 1 Ad Y Y ?_
 ((first|refine rG Γ hm ?_|refine rD Γ hm j_ ?_);(conv=>whnf);repeat((first|refine aF ?_|refine aT ?_);(first|refine rG Γ hm ?_|refine rD Γ hm j_ ?_);conv=>whnf))
 refine Au (fun x:List ByteArray × List UInt8=>Ei [] b=x.1++Ei [] x.2∧x.1.length+x.2.length≤b.length) (fun x=>[(4,.osl 1000),(5,Ad (mkT x.2))]) (fun x=>[(1000,.row 1 Ad x.1)]) (fun x=>x.2.length) ([],b) [] ⟨Y,by simp⟩
  ⟨⟨rfl,rfl,rfl,rfl,trivial⟩,⟨.inl rfl,rfl,trivial⟩,rfl,rfl⟩ ?_
 rintro ⟨out,rest⟩ ⟨hI,hlen⟩
 dsimp only at hI hlen ⊢
 have hemp:=Alc rest
 ((first|refine rG Γ hm ?_|refine rD Γ hm j_ ?_);(conv=>whnf);repeat((first|refine aF ?_|refine aT ?_);(first|refine rG Γ hm ?_|refine rD Γ hm j_ ?_);conv=>whnf))
 by_cases hr:rest=[]
 ·rw[decide_eq_true hr]at hemp
  refine⟨fun h=>absurd h (by rw[hemp];simp),fun _=>?_⟩
  have hro:Ei [] b=out:=by rw[hI,hr];simp[Ei]
  rw[hro]at hres
  ((first|refine rG Γ hm ?_|refine rD Γ hm j_ ?_);(conv=>whnf);repeat((first|refine aF ?_|refine aT ?_);(first|refine rG Γ hm ?_|refine rD Γ hm j_ ?_);conv=>whnf))
  refine⟨fun h=>?_,fun h=>?_⟩
  ·rw[if_pos (qA h)]at hres
   subst hres
   ((first|refine rG Γ hm ?_|refine rD Γ hm j_ ?_);(conv=>whnf);repeat((first|refine aF ?_|refine aT ?_);(first|refine rG Γ hm ?_|refine rD Γ hm j_ ?_);conv=>whnf))
   refine Dh 2 1 Ad Y ?_
   ((first|refine rG Γ hm ?_|refine rD Γ hm j_ ?_);(conv=>whnf);repeat((first|refine aF ?_|refine aT ?_);(first|refine rG Γ hm ?_|refine rD Γ hm j_ ?_);conv=>whnf))
   exact dN
  ·rw[if_neg (qB h)]at hres
   subst hres
   refine Ac 1000 Y ?_
   ((first|refine rG Γ hm ?_|refine rD Γ hm j_ ?_);(conv=>whnf);repeat((first|refine aF ?_|refine aT ?_);(first|refine rG Γ hm ?_|refine rD Γ hm j_ ?_);conv=>whnf))
   exact dN
 ·rw[decide_eq_false hr]at hemp
  refine⟨fun _=>?_,fun h=>absurd h (by rw[hemp];simp)⟩
  obtain ⟨hc,hlt⟩:=Agq hr
  have q:=Wl (mkT rest) 10 (by rw[Bp];omega)
  obtain ⟨⟨row,rs,more⟩,hct⟩:∃ p,cutT 10 (mkT rest)=p:=⟨_,rfl⟩
  rw[hct]at q hc hlt
  dsimp only at q hc hlt
  have hrz:rs.data.toList.length=rs.size:=rfl
  ((first|refine rG Γ hm ?_|refine rD Γ hm j_ ?_);(conv=>whnf);repeat((first|refine aF ?_|refine aT ?_);(first|refine rG Γ hm ?_|refine rD Γ hm j_ ?_);conv=>whnf))
  refine c0 q F119 ?_
  ((first|refine rG Γ hm ?_|refine rD Γ hm j_ ?_);(conv=>whnf);repeat((first|refine aF ?_|refine aT ?_);(first|refine rG Γ hm ?_|refine rD Γ hm j_ ?_);conv=>whnf))
  refine C0 (Ak Γ.toTy 23 Y Y Y Y Y (.row Y) (.lit (e:=Ad) (l:=[row]) Y Y) qe (by simp;omega) (by simp;omega)) Y Y ?_
  ((first|refine rG Γ hm ?_|refine rD Γ hm j_ ?_);(conv=>whnf);repeat((first|refine aF ?_|refine aT ?_);(first|refine rG Γ hm ?_|refine rD Γ hm j_ ?_);conv=>whnf))
  refine Ae (out++[row],rs.data.toList) [(1000,23)] ⟨by rw[hI,hc];simp,by simp;omega⟩ (by dsimp only;omega) ⟨⟨Y,Y,congrArg Ad (Cv rs),Y,q_⟩,⟨.inl Y,Y,q_⟩,Y,Y⟩
end Go.Sy.YtjenpnjajjplkaaGreatDoor
namespace Go.Sy.YtjenpnjajjplkaaGreatDoor
open Go.Proofs
attribute [local irreducible] Go.Sy.G Go.Sy.DR
set_option maxRecDepth 20000
set_option maxHeartbeats 4000000
mutual
theorem Wn {K:List Nat}:∀ x:SV,x.inn []=true→x.inn K=true
 | .ptr _ _,h=>by simp[SV.inn,L1]at h
 | .rpt _ _ _ _,h=>by simp[SV.inn,L1]at h
 | .osl _,h=>by simp[SV.inn,L1]at h
 | .agg l,h=>by simp only[SV.inn]at h ⊢;exact Or l h
 | .tup l,h=>by simp only[SV.inn]at h ⊢;exact Or l h
 | .ifc _ x,h=>by simp only[SV.inn]at h ⊢;exact Wn x h
 | .clo _ f l,h=>by simp only[SV.inn,Bool.and_eq_true]at h ⊢;exact⟨Or f h.1,Or l h.2⟩
 | .top,_=>rfl
 | .val _,_=>rfl
 | .sl _ _ _,_=>rfl
 | .ref _ _ _,_=>rfl
theorem Or {K:List Nat}:∀ l:List SV,C6 [] l=true→C6 K l=true
 | [],_=>rfl
 | x::l,h=>by simp only[C6,Bool.and_eq_true]at h ⊢;exact⟨Wn x h.1,Or l h.2⟩
end
theorem An8 (a b:List Int) (ha:At a):Sy.Spec Tryz.prog 42 [.sl 1 Aa a,.sl 1 Aa b] [] (Ab (decide (a=b))) []:=cT F42 Tryz.ntmps42 fun F hF=>by
 unfold At at ha
 ((conv=>whnf);repeat((first|refine aF ?_|refine aT ?_);(first|refine rG Γ hm ?_|refine rD Γ hm j_ ?_);conv=>whnf))
 (repeat' (first | (refine⟨fun h=>?_,fun h=>?_⟩<;>(repeat (first | simp only[Ap]at h | simp only[decide_eq_true_eq]at h | simp only[decide_eq_false_iff_not]at h | simp only[beq_iff_eq]at h | simp only[beq_eq_false_iff_ne]at h | simp only[bne_iff_ne]at h | simp only[bne_eq_false_iff_eq]at h | simp only[Bool.and_eq_true]at h | simp only[Bool.or_eq_true]at h | simp only[Bool.and_eq_false_iff]at h | simp only[Bool.or_eq_false_iff]at h | simp only[Bool.not_eq_true']at h | simp only[Bool.not_eq_false']at h | simp only[Bool.not_eq_eq_eq_not]at h | simp only[Bool.not_true]at h | simp only[Bool.not_false]at h))<;>((first|refine rg ?_|refine rd j_ ?_);(conv=>whnf);repeat((first|refine aF ?_|refine aT ?_);(first|refine rg ?_|refine rd j_ ?_);(conv=>whnf)))) | (refine Ar rfl (.cons .tmp .nil) ?_ rfl) | (refine⟨j_,?_⟩;((conv=>whnf);repeat((first|refine aF ?_|refine aT ?_);(first|refine rg ?_|refine rd j_ ?_);(conv=>whnf)))) | (refine⟨by (first | (unfold I64;omega) | omega | (simp only[Int.toNat_natCast];omega) | done),by (first | (unfold I64;omega) | omega | (simp only[Int.toNat_natCast];omega) | done),?_⟩;((conv=>whnf);repeat((first|refine aF ?_|refine aT ?_);(first|refine rg ?_|refine rd j_ ?_);(conv=>whnf)))) | (refine⟨by (first | (unfold I64;omega) | omega | (simp only[Int.toNat_natCast];omega) | done),?_⟩;((conv=>whnf);repeat((first|refine aF ?_|refine aT ?_);(first|refine rg ?_|refine rd j_ ?_);(conv=>whnf))))))
 ·refine congrArg Ab ?_
  have:a≠b:=fun e=>by subst e;omega
  simp[this]
 have hlen:a.length=b.length:=by omega
 refine A2 a.length (fun j=>∀ i (h:i<a.length),i<j→a[i]=b[i]) (fun j=>[(0,.sl 1 Aa a),(1,.sl 1 Aa b),(5,Aa j)]) (fun _=>[]) [] (fun i h hj=>absurd hj z_) ⟨⟨Y,Y,Y,Y,Y,Y,q_⟩,q_,Y,Y⟩ ?_
 intro j hj hI
 ((first|refine rG Γ hm ?_|refine rD Γ hm j_ ?_);(conv=>whnf);repeat((first|refine aF ?_|refine aT ?_);(first|refine rG Γ hm ?_|refine rD Γ hm j_ ?_);conv=>whnf))
 (repeat' (first | (refine⟨fun h=>?_,fun h=>?_⟩<;>(repeat (first | simp only[Ap]at h | simp only[decide_eq_true_eq]at h | simp only[decide_eq_false_iff_not]at h | simp only[beq_iff_eq]at h | simp only[beq_eq_false_iff_ne]at h | simp only[bne_iff_ne]at h | simp only[bne_eq_false_iff_eq]at h | simp only[Bool.and_eq_true]at h | simp only[Bool.or_eq_true]at h | simp only[Bool.and_eq_false_iff]at h | simp only[Bool.or_eq_false_iff]at h | simp only[Bool.not_eq_true']at h | simp only[Bool.not_eq_false']at h | simp only[Bool.not_eq_eq_eq_not]at h | simp only[Bool.not_true]at h | simp only[Bool.not_false]at h))<;>((first|refine rg ?_|refine rd j_ ?_);(conv=>whnf);repeat((first|refine aF ?_|refine aT ?_);(first|refine rg ?_|refine rd j_ ?_);(conv=>whnf)))) | (refine Ar rfl (.cons .tmp .nil) ?_ rfl) | (refine⟨j_,?_⟩;((conv=>whnf);repeat((first|refine aF ?_|refine aT ?_);(first|refine rg ?_|refine rd j_ ?_);(conv=>whnf)))) | (refine⟨by (first | (unfold I64;omega) | omega | (simp only[Int.toNat_natCast];omega) | done),by (first | (unfold I64;omega) | omega | (simp only[Int.toNat_natCast];omega) | done),?_⟩;((conv=>whnf);repeat((first|refine aF ?_|refine aT ?_);(first|refine rg ?_|refine rd j_ ?_);(conv=>whnf)))) | (refine⟨by (first | (unfold I64;omega) | omega | (simp only[Int.toNat_natCast];omega) | done),?_⟩;((conv=>whnf);repeat((first|refine aF ?_|refine aT ?_);(first|refine rg ?_|refine rd j_ ?_);(conv=>whnf)))) | refine Ba [] hI z_ ?_ ⟨⟨rfl,rfl,rfl,rfl,rfl,rfl,trivial⟩,trivial,rfl,rfl⟩))
 all_goals (simp only[Int.toNat_natCast]at *)
 ·refine congrArg Ab ?_
  rename_i h1 h2
  have:a≠b:=fun e=>by subst e;simp_all
  simp[this]
 ·intro i hi hij
  rcases Nat.lt_or_ge i j with h1 | h1
  ·exact hI i hi h1
  ·have:i=j:=by omega
   subst this
   assumption
 ·refine congrArg Ab ?_
  have:a=b:=List.ext_getElem hlen (fun i h1 h2=>hI i h1 z_)
  simp[this]
end Go.Sy.YtjenpnjajjplkaaGreatDoor
namespace Go.Sy.YtjenpnjajjplkaaGreatDoor
open Go.Proofs
attribute [local irreducible] Go.Sy.G Go.Sy.DR
set_option maxRecDepth 100000
set_option maxHeartbeats 4000000
def Lz (ls:List Link) (i:Int):Int:=match ls.find? (fun l=>l.a == i || l.b == i) with | some l=>if l.a=i then l.b else l.a | none=>-1
theorem otherS (n:Net) (i:Int) (hl:At n.links):Sy.Spec Tryz.prog 444 [Aj n,Aa i] [] (Aa (Lz n.links i)) []:=cT F444 Tryz.ntmps444 fun F hF=>by
 unfold At at hl
 conv=>whnf
 refine A6 2 8 (Aj n) Y Y Y ?_
 refine A2 n.links.length (fun j=>∀ q (hq:q<n.links.length),q<j→n.links[q].a≠i∧n.links[q].b≠i) (fun j=>[(1,Aa i),(2,.ref 8 (Aj n) 0),(5,Aa j)]) (fun _=>[]) [] (fun q _ h=>absurd h z_) ⟨⟨Y,Y,Y,Y,Y,Y,q_⟩,q_,Y,Y⟩ ?_
 intro j hj hI
 refine oO ?_
 refine⟨fun h=>?_,fun h=>?_⟩
 ·have hlt:j<n.links.length:=by simpa using h
  have e1:n.links[(j:Int).toNat]'z_=n.links[j]:=rfl
  have hfind:(n.links[j].a=i∨n.links[j].b=i)→n.links.find? (fun l=>l.a == i || l.b == i)=some n.links[j]:=fun h=>by
   rw[List.find?_eq_some_iff_getElem]
   refine⟨by simpa using h,j,hlt,Y,fun q hq=>?_⟩
   have:=hI q z_ hq
   simp[this.1,this.2]
  obtain ⟨l,hlk⟩:∃ l,n.links[j]=l:=⟨_,rfl⟩
  rw[hlk]at e1 hfind
  refine oO ?_
  refine⟨Y,by omega,by omega,?_⟩
  rw[e1]
  conv=>whnf
  refine⟨fun h1=>?_,fun h1=>?_⟩
  ·have ha:l.a=i:=by simpa using h1
   have hres:Lz n.links i=l.b:=by rw[Lz,hfind (.inl ha)];simp[ha]
   rw[hres]
   refine oO ?_
   refine⟨Y,by omega,by omega,?_⟩
   rw[e1]
   conv=>whnf
   exact dN
  have ha:¬ l.a=i:=by simpa using h1
  refine oO ?_
  refine⟨Y,by omega,by omega,?_⟩
  rw[e1]
  conv=>whnf
  refine⟨fun h2=>?_,fun h2=>?_⟩
  ·have hb:l.b=i:=by simpa using h2
   have hres:Lz n.links i=l.a:=by rw[Lz,hfind (.inr hb)];simp[ha]
   rw[hres]
   refine oO ?_
   refine⟨Y,by omega,by omega,?_⟩
   rw[e1]
   conv=>whnf
   exact dN
  have hb:¬ l.b=i:=by simpa using h2
  refine oO ?_
  refine iW ?_
  refine Ba [] hI hlt (fun q hq hqj=>?_) ⟨⟨Y,Y,Y,Y,Y,Y,q_⟩,q_,Y,Y⟩
  by_cases hqe:q=j
  ·subst hqe;rw[hlk];exact⟨ha,hb⟩
  ·exact hI q hq z_
 ·have hres:Lz n.links i=-1:=by
   have:¬ j<n.links.length:=by simpa using h
   rw[Lz,List.find?_eq_none.2]
   intro x hx
   obtain ⟨q,hq,rfl⟩:=List.getElem_of_mem hx
   have:=hI q hq z_
   simp[this.1,this.2]
  rw[hres]
  refine oO ?_
  exact dN
def Aow (d:Domain):SV:=.agg [Aa d.dev,Aa d.vlan,Aa d.vni,Aa d.irb,Aa d.row,.val (.slice none 0 0)]
theorem Aaj {M:Nat→Prop} {w:World} (p:Domain) (hp:p.peers=[]) {v:Value} (h:RdD M w (Aow p) v):RdD M w (Am p) v:=by
 simp only[Aow,Am,RdD,RdDL,hp]at h ⊢
 obtain ⟨cs,h1,h2,v0,r0,h3,h4,v1,r1,h5,h6,v2,r2,h7,h8,v3,r3,h9,h10,v4,r4,h11,h12,v5,r5,h13,h14,h15⟩:=h
 exact⟨cs,h1,h2,v0,r0,h3,h4,v1,r1,h5,h6,v2,r2,h7,h8,v3,r3,h9,h10,v4,r4,h11,h12,v5,r5,h13,.inl ⟨q_,none,0,h14⟩,h15⟩
end Go.Sy.YtjenpnjajjplkaaGreatDoor
namespace Go.Sy.YtjenpnjajjplkaaGreatDoor
open Go.Proofs
attribute [local irreducible] Go.Sy.G Go.Sy.DR
set_option maxRecDepth 20000
set_option maxHeartbeats 4000000
theorem Ak4 {n:Net} (hb:Ah n=true) (i:Int):Lz n.links i=Hi n i:=by
 have hlr:∀ (k:Nat) (hk:k<n.links.length),On n k n.links[k]=true:=fun k hk=>by
  have h:=hb
  simp only[Ah,Bool.and_eq_true]at h
  exact allB_iff.1 h.1.1.1.1.2 k hk
 have hin:∀ (k:Nat) (hk:k<n.links.length),(n.links[k].a=i∨n.links[k].b=i)→(0≤i∧i.toNat<n.ports.length)∧(nth n.ports i).link=k:=fun k hk h=>by
  have:=hlr k hk
  simp only[On,Ap,Bool.and_eq_true,decide_eq_true_eq,beq_iff_eq]at this
  rcases h with h | h<;>rw[h]at this
  ·exact⟨by omega,this.1.2⟩
  ·exact⟨by omega,this.2⟩
 rw[Lz,Hi]
 cases hf:n.links.find? (fun l=>l.a == i || l.b == i) with
 | none =>
  rw[List.find?_eq_none]at hf
  dsimp only
  split
  ·rename_i hc
   have hk:i.toNat<n.ports.length:=by omega
   have e1:nth n.ports i=n.ports[i.toNat]:=As hk
   rw[e1]at hc
   have hq:=Oy hb hk hc.2.1
   have e2:nth n.links n.ports[i.toNat].link=n.links[n.ports[i.toNat].link.toNat]:=As hq.1
   rw[e2]at hq
   have:=hf _ (List.getElem_mem hq.1)
   have e3:((i.toNat:Nat):Int)=i:=by omega
   rw[e3]at hq
   simp at this
   rcases hq.2 with h | h
   ·exact absurd h this.1
   ·exact absurd h this.2
  ·rfl
 | some l =>
  rw[List.find?_eq_some_iff_getElem]at hf
  obtain ⟨hl,k,hk,rfl,_⟩:=hf
  have h2:=hin k hk (by simpa using hl)
  have e2:nth n.links (nth n.ports i).link=n.links[k]:=by rw[h2.2];exact As (l:=n.links) (i:=(k:Int)) (by simpa using hk)
  rw[if_pos ⟨by omega,by omega,hb⟩,e2]
theorem Akd (n:Net) (hn:n.Fin) (hb:Ah n=true) (i:Int):Sy.Spec Tryz.prog 444 [Aj n,Aa i] [] (Aa (Hi n i)) []:=by
 rw[← Ak4 hb]
 exact otherS n i hn.links
end Go.Sy.YtjenpnjajjplkaaGreatDoor
namespace Go.Sy.YtjenpnjajjplkaaGreatDoor
open Go.Proofs
attribute [local irreducible] Go.Sy.G Go.Sy.DR
set_option maxRecDepth 100000
set_option maxHeartbeats 4000000
def By (d:UInt8):List UInt8→List UInt8→List ByteArray
 | cur,[]=>[mkT cur]
 | cur,c::r=>if c=d then mkT cur::By d [] r else By d (cur++[c]) r
theorem Ie (d:UInt8):∀ (l cur:List UInt8),d∉l→By d cur l=[mkT (cur++l)]
 | [],cur,_=>by rw[By,List.append_nil]
 | c::l,cur,h=>by
  simp only[List.mem_cons,not_or]at h
  rw[By,if_neg (Ne.symm h.1),Ie d l _ h.2]
  simp
theorem Lq (d:UInt8):∀ (l cur:List UInt8),d∈l→By d cur l=mkT (cur++l.take (I6 d l))::By d [] (l.drop (I6 d l+1))
 | [],cur,h=>by simp at h
 | c::l,cur,h=>by
  by_cases hc:c=d
  ·subst hc
   rw[By,if_pos rfl,I6]
   simp[Lib.indexByte]
  ·have h2:d∈l:=by
    simp only[List.mem_cons]at h
    exact h.resolve_left (Ne.symm hc)
   have h3:=(H5 h2).1
   have e:I6 d (c::l)=I6 d l+1:=by
    have e1:Lib.indexByte (c::l) d=Lib.indexByte l d+1:=by
     rw[Lib.indexByte.eq_def]
     dsimp only
     rw[if_neg (by simpa using hc),if_neg (by simp;omega)]
    rw[I6,I6,e1]
    omega
   rw[By,if_neg hc,Lq d l _ h2,e]
   simp
theorem M4 (d:UInt8) (l:List UInt8):∀ j,Cu d l (j+1)=Cu d (l.drop (I6 d l+1)) j
 | 0=>rfl
 | j+1=>by
  rw[Cu,M4 d l j]
  rfl
theorem Zr (d:UInt8):∀ (k:Nat) (l:List UInt8),l.length≤k→Bd d (mkT l)=By d [] l
 | 0,l,h=>by
  rw[List.length_eq_zero_iff.1 (by omega:l.length=0)]
  simp[Bd,By,Cu,mkT]
 | k+1,l,h=>by
  by_cases hd:d∈l
  ·have h1:=Mb hd
   have h2:=(H5 hd).2
   have h3:(l.drop (I6 d l+1)).length≤k:=by rw[List.length_drop];omega
   rw[Lq d l [] hd,← Zr d k _ h3]
   simp only[Bd,Bv]
   rw[← h1,List.range_succ_eq_map,List.map_cons,List.map_map,List.cons_append,List.nil_append,M4]
   congr 2
   apply List.map_congr_left
   intro j _
   show mkT (Oa d l (j+1))=_
   rw[Oa,Oa,M4]
  ·have h1:l.count d=0:=List.count_eq_zero.2 hd
   rw[Ie d l [] hd]
   simp[Bd,Bv,h1,Cu]
theorem I2 (d:UInt8) (s:ByteArray):Bd d s=By d [] s.data.toList:=by
 rw[← Zr d _ _ (Nat.le_refl _),Cv]
def digI (c:UInt8):Int:=if 48≤c.toNat∧c.toNat≤57 then (c.toNat:Int)-48 else if 97≤c.toNat∧c.toNat≤102 then (c.toNat:Int)-87 else 16
theorem Ws (c:UInt8):0≤digI c∧digI c≤16:=by
 unfold digI
 split
 ·omega
 split
 ·omega
 ·omega
end Go.Sy.YtjenpnjajjplkaaGreatDoor
namespace Go.Sy
open Go.RowKit
def Ajt {β:Type} (T:Nat→Prop) (J:β→World→Prop):Prop :=
 ∀ s W W' row,J s W→W.grownBy W' row→(∀ r,row=some r→T r)→J s W'
def OwnT {β:Type} (B:Nat) (T:Nat→Prop) (I:β→World→Prop):Prop :=
 ∀ s W W' row,I s W→W.grownBy W' row→(∀ r,row=some r→T r∨(B≤r∧∃ o:Obj,W.heap[r]? = some o∧o.isCells=false))→I s W'
theorem OwnT.putObj {β:Type} {B:Nat} {T:Nat→Prop} {I:β→World→Prop} (h:OwnT B T I) {s:β} {W:World} {l:Nat} {o:Obj} (o':Obj) (hs:I s W) (hB:B≤l) (hl:W.heap[l]? = some o) (ho:o.isCells=false):I s (W.putObj l o') :=
 h s W _ _ hs (grownBy_putObj' W l o') (fun r e=>by cases e;exact .inr ⟨hB,o,hl,ho⟩)
theorem OwnT.alloc {β:Type} {B:Nat} {T:Nat→Prop} {I:β→World→Prop} (h:OwnT B T I) {s:β} {W:World} (o:Obj) (hs:I s W):I s (W.alloc o) :=
 h s W _ none hs ⟨rfl,rfl,rfl,by simp,fun k hk _=>Below.heap_alloc _ _ _ hk⟩ (fun r e=>by cases e)
def Aas {α:Type} (F:Fence) (n:Nat) (P:Program) (g:Nat) (lb:Array Value) (encs:α→Array Value) (T:Nat→Prop) (Kp:World→World→Prop) (S Sp:List α→Prop) (N:Nat) (w:World):Prop :=
 ∀ (l:Nat) (J Jx:List α→World→Prop) (W:World),Below w.heap.size w W→Ajt T J→Ajt T Jx →
  (∀ pre x W1,J pre W1→pre.length<N→YieldAt F (n-1) P l (encs x) W1 fun e W' =>
   (e=.returned (.bool true)∧J (pre++[x]) W'∧Kp W1 W')∨(e=.returned (.bool false)∧Jx (pre++[x]) W')) →
  J [] W →
  CallsIn F n P g (#[.func (.yield l) #[] #[]]++lb) W fun e W'=>(∃ v,e=.returned v)∧((∃ xs,S xs∧J xs W')∨(∃ pre,Sp pre∧Jx pre W'))
theorem K1 {A B:World} {T:Nat→Prop} {row:Option Nat} {k:Nat} {o:Obj} (hg:A.grownBy B row) (hr:∀ r,row=some r→T r) (hk:¬ T k) (h:A.heap[k]? = some o):B.heap[k]? = some o:=by
 obtain ⟨_,_,_,_,h5⟩:=hg
 exact(h5 k (Array.getElem?_eq_some_iff.1 h).1 (fun e=>hk (hr k e.symm))).trans h
variable {F:Fence} {n:Nat} {P:Program}
theorem Qj {α:Type} {g:Operand} {ps:Array Tmp} {assign body:Code} {Q:Exit→Act→World→Prop} {a:Act} {w:World}
  (hro:F.round=none) (h1:1≤n) {gf:Nat} {lb:Array Value} (hg:a.eval g=.func (.func gf) #[] lb) (hFg:F.fn gf) (eg:∀ args w,(callFunc gf args).run P w=.ok (.enter gf args) w)
  {encs:α→Array Value} {T:Nat→Prop} {Kp:World→World→Prop} {S Sp:List α→Prop} {N:Nat} {w0:World} (hseq:Aas F (n-1) P gf lb encs T Kp S Sp N w0) (hT:∀ b,T b→b<w.heap.size)
  (hKt:∀ {A B C:World},Kp A B→Kp B C→Kp A C) (hKb:∀ (W:World) (l:Nat) (o o':Obj),w.heap.size≤l→W.heap[l]? = some o→o.isCells=false→o.isWalk=false→Kp W (W.putObj l o')) (hb0:Below w0.heap.size w0 w) (hps:∀ x,(encs x).size=ps.size)
  (I:List α→World→Prop) (Ix:Code→List α→World→Prop) (hI:OwnT w.heap.size T I) (hIx:∀ c,OwnT w.heap.size T (Ix c)) (h0:I [] w) (a₁:α→Act)
  (hassign:∀ (l:Nat) (x:α) (W:World) (K:Act→World→Prop),K (a₁ x) W →
   assign.wpIn (F.inRound l) (n-1-1) P (Exit.then K (fun _ _ _=>False)) { tmps:=(ps.zip (encs x)).foldl (fun t (p,v)=>t.setIfInBounds p v) a.tmps,defers:=[] } W)
  (hbody:∀ (l:Nat) (pre:List α) (x:α) (W:World),I pre W→pre.length<N→body.wpIn (F.inRound l) (n-1-1) P (ownPostK Kp I Ix (pre++[x]) W) (a₁ x) W)
  (hdone:∀ (D:Nat) (xs:List α) (W:World),w.heap.size≤D→S xs→I xs W→W.heap[D]? = some (.deferred (some []))→Q .normal { a with defers:={ target:=.collected D,args:=#[] }::a.defers } W)
  (hstop:∀ (D:Nat) (c:Code) (pre:List α) (W:World),w.heap.size≤D→Sp pre→Ix c pre W→W.heap[D]? = some (.deferred (some []))→c.wpIn F n P Q { a with defers:={ target:=.collected D,args:=#[] }::a.defers } W) :
  (Code.rangeFunc g ps assign body).wpIn F n P Q a w:=by
 refine wpIn_rangeFunc ?_
 intro fn hfn
 rw[hro]
 obtain ⟨rec,hrec⟩:∃ rec:LoopState→Option Code→Loop,rec=fun st pe=>{ state:=st,pending:=pe,fn,tmps:=a.tmps,params:=ps,assign,body,defers:=w.heap.size }:=⟨_,rfl⟩
 obtain ⟨W1,hW1⟩:∃ W1,(w.alloc (.deferred (some []))).alloc (.loop (rec .ready none))=W1:=⟨_,rfl⟩
 have hL1:W1.heap[w.heap.size+1]? = some (.loop (rec .ready none)):=by
  rw[← hW1];have:=World.alloc_heap_new (w.alloc (.deferred (some []))) (.loop (rec .ready none));rwa [World.size_alloc]at this
 have hK1:W1.heap[w.heap.size]? = some (.deferred (some [])):=by
  rw[← hW1];exact(Below.heap_alloc _ _ _ qe).trans (World.alloc_heap_new w _)
 have hI1:I [] W1:=by rw[← hW1];exact hI.alloc _ (hI.alloc _ h0)
 have hb1:Below w0.heap.size w0 W1:=by
  rw[← hW1];exact hb0.trans ((((Below.refl _ w).alloc (Nat.le_refl _) _).alloc qe _).mono hb0.size)
 have nT:∀ k,w.heap.size≤k→¬ T k:=fun k hk h=>Nat.lt_irrefl _ (Nat.lt_of_lt_of_le (hT k h) hk)
 refine⟨w.heap.size+1,[{ target:=.collected w.heap.size,args:=#[] }],W1,{ target:=.fn (.func gf) lb,args:=#[.func (.yield (w.heap.size+1)) #[] #[]] },W1,gf,
  #[.func (.yield (w.heap.size+1)) #[] #[]]++lb,W1,?_,?_,?_,?_,fun _=>h1,?_⟩
 ·rw[← hW1,hrec];exact run_enterLoop_outer _ _ _ _ _
 ·simp only[resolve,hg]
  simp[go_sem]
 ·intro f' hf';simp[Target.leads]at hf';subst hf';exact hFg
 ·simp[invoke,go_sem,eg]
 ·refine(hseq (w.heap.size+1)
   (fun pre W=>I pre W∧W.heap[w.heap.size+1]? = some (.loop (rec .ready none))∧W.heap[w.heap.size]? = some (.deferred (some [])))
   (fun pre W=>∃ c,Ix c pre W∧W.heap[w.heap.size+1]? = some (.loop (rec .done (some c)))∧W.heap[w.heap.size]? = some (.deferred (some [])))
   W1 hb1
   (fun s A B row hs hg' hr=>⟨hI s A B row hs.1 hg' (fun r e=>.inl (hr r e)),K1 hg' hr (nT _ z_) hs.2.1,K1 hg' hr (nT _ z_) hs.2.2⟩)
   (fun s A B row hs hg' hr=>by
    obtain ⟨c,hc,hl,hk⟩:=hs
    exact⟨c,hIx c s A B row hc hg' (fun r e=>.inl (hr r e)),K1 hg' hr (nT _ z_) hl,K1 hg' hr (nT _ z_) hk⟩)
   ?_ ⟨hI1,hL1,hK1⟩).mono ?_
  ·rintro pre x W ⟨hi,hl,hk⟩ hlen
   have hlt:w.heap.size+1<W.heap.size:=(Array.getElem?_eq_some_iff.1 hl).1
   have hy:=run_yield (P:=P) (args:=encs x) hl (by rw[hrec];exact hps x)
   rw[hrec]at hy
   refine⟨fn,_,assign,body,hy,roundIn_of_wpIn hfn (hassign _ x W _ ⟨_,run_beginRound hl (by rw[hrec]),?_⟩)⟩
   have hl2:(W.putObj (w.heap.size+1) (.loop { rec .ready none with state:=.busy })).heap[w.heap.size+1]? = some (.loop { rec .ready none with state:=.busy }):=World.putObj_heap_same hlt
   have hk2:(W.putObj (w.heap.size+1) (.loop { rec .ready none with state:=.busy })).heap[w.heap.size]? = some (.deferred (some [])):=(World.putObj_heap_other z_).trans hk
   have hw2:Kp W (W.putObj (w.heap.size+1) (.loop { rec .ready none with state:=.busy })):=hKb _ _ _ _ z_ hl rfl rfl
   refine wpIn_mono (hbody _ pre x _ (hI.putObj _ hi (Nat.le_succ _) hl Y) hlen) ?_
   have fin:∀ (jump:Option Code) (W3:World),KeepsOthers (W.putObj (w.heap.size+1) (.loop { rec .ready none with state:=.busy })) W3 →
     (Instr.endRound (w.heap.size+1) jump).run P W3=.ok (.bool jump.isNone) (W3.putObj (w.heap.size+1) (.loop (rec (if jump.isNone then .ready else .done) jump))) ∧
     W3.heap[w.heap.size+1]? = some (.loop { rec .ready none with state:=.busy }) ∧
     (W3.putObj (w.heap.size+1) (.loop (rec (if jump.isNone then .ready else .done) jump))).heap[w.heap.size+1]? = some (.loop (rec (if jump.isNone then .ready else .done) jump)) ∧
     (W3.putObj (w.heap.size+1) (.loop (rec (if jump.isNone then .ready else .done) jump))).heap[w.heap.size]? = some (.deferred (some [])):=fun jump W3 hk3=>by
    have hl3:=hk3.same _ _ hl2 rfl
    have:=run_endRound (P:=P) jump hl3
    rw[hrec]at this ⊢
    exact⟨this,by rw[hrec]at hl3;exact hl3,World.putObj_heap_same (Array.getElem?_eq_some_iff.1 hl3).1,(World.putObj_heap_other z_).trans (hk3.same _ _ hk2 Y)⟩
   rintro e a3 W3 hp
   cases e with
   | normal =>
    obtain ⟨hk3,hkp3,hi3⟩:=hp
    obtain ⟨hr,hl3,hl4,hk4⟩:=fin none W3 hk3
    exact⟨_,_,hr,.inl ⟨Y,⟨hI.putObj _ hi3 (Nat.le_succ _) hl3 Y,hl4,hk4⟩,hKt (hKt hw2 hkp3) (hKb _ _ _ _ z_ hl3 Y Y)⟩⟩
   | ret =>
    obtain ⟨hk3,hi3⟩:=hp
    obtain ⟨hr,hl3,hl4,hk4⟩:=fin (some .ret) W3 hk3
    exact⟨_,_,hr,.inr ⟨Y,.ret,(hIx _).putObj _ hi3 (Nat.le_succ _) hl3 Y,hl4,hk4⟩⟩
   | exit id =>
    obtain ⟨hk3,hi3⟩:=hp
    obtain ⟨hr,hl3,hl4,hk4⟩:=fin (some (.exit id)) W3 hk3
    exact⟨_,_,hr,.inr ⟨Y,.exit id,(hIx _).putObj _ hi3 (Nat.le_succ _) hl3 Y,hl4,hk4⟩⟩
   | goto t =>
    obtain ⟨hk3,hi3⟩:=hp
    obtain ⟨hr,hl3,hl4,hk4⟩:=fin (some (.goto t)) W3 hk3
    exact⟨_,_,hr,.inr ⟨Y,.goto t,(hIx _).putObj _ hi3 (Nat.le_succ _) hl3 Y,hl4,hk4⟩⟩
   | panic ch=>exact hp.elim
   | outgrown=>exact hp.elim
  ·rintro e W2 ⟨⟨v,rfl⟩,(⟨xs,hS,hi,hl,hk⟩ | ⟨pre,hSp,c,hi,hl,hk⟩)⟩
   ·exact⟨none,_,by have:=run_endLoop (P:=P) hl (by rw[hrec];simp);rw[hrec]at this;exact this,hdone _ xs _ (Nat.le_refl _) hS (hI.putObj _ hi (Nat.le_succ _) hl Y) ((World.putObj_heap_other z_).trans hk)⟩
   ·exact⟨some c,_,by have:=run_endLoop (P:=P) hl (by rw[hrec];simp);rw[hrec]at this;exact this,hstop _ c pre _ (Nat.le_refl _) hSp ((hIx c).putObj _ hi (Nat.le_succ _) hl Y) ((World.putObj_heap_other z_).trans hk)⟩
end Go.Sy
namespace Go.Proofs
open Go.RowKit Go.Shelf Go.Sy Go.Sy.YtjenpnjajjplkaaGreatDoor
attribute [local go_sem] Oper.semAt_some
structure SeqBox (W:World) (bp bs bv:Nat) (t:ByteArray):Prop where
 p:W.cell? ⟨bp,0,none⟩=some (.string ⟨#[46]⟩)
 s:W.cell? ⟨bs,0,none⟩=some (.string t)
 v:W.cell? ⟨bv,0,none⟩=some (.int .i64 0)
 f:W.frozen? ⟨bs,0,none⟩=false
def Apd (bp bs bv:Nat) (W W':World):Prop:=W'.heap[bp]? = W.heap[bp]? ∧ W'.heap[bs]? = W.heap[bs]? ∧ W'.heap[bv]? = W.heap[bv]?
theorem SeqBox.keep {W W':World} {bp bs bv:Nat} {t:ByteArray} (h:SeqBox W bp bs bv t) (k:Apd bp bs bv W W'):SeqBox W' bp bs bv t :=
 ⟨(World.cell?_of_block k.1).trans h.p,(World.cell?_of_block k.2.1).trans h.s,(World.cell?_of_block k.2.2).trans h.v,by
  have:W'.frozen? ⟨bs,0,none⟩=W.frozen? ⟨bs,0,none⟩:=by unfold World.frozen?;rw[k.2.1]
  rw[this];exact h.f⟩
theorem Aet:∀ {l:List UInt8} {c:UInt8},c∉l→Lib.indexByte l c=-1
 | [],_,_=>rfl
 | b::l,c,h=>by
  simp only[List.mem_cons,not_or]at h
  rw[Lib.indexByte,if_neg (by simpa using Ne.symm h.1),Aet h.2]
  rfl
def An5 (bs:Nat) (W:World):Nat:=match W.cell? ⟨bs,0,none⟩ with | some (.string t)=>t.size | _=>0
set_option maxRecDepth 100000 in
set_option maxHeartbeats 4000000 in
theorem Tryz.split_stops (s:ByteArray) (hs:s.size<100000) (n:Nat) (hn:1≤n) (bp bs bv:Nat) (hd:bp≠bs∧bv≠bs) (w:World) (hw:SeqBox w bp bs bv s) (hlt:bp<w.heap.size∧bs<w.heap.size∧bv<w.heap.size) :
  Aas Fence.wide n Tryz.prog 423 #[.pointer (some ⟨bp,0,none⟩),.pointer (some ⟨bs,0,none⟩),.pointer (some ⟨bv,0,none⟩)] (fun x:ByteArray=>#[.string x]) (fun b=>b=bs) (Apd bp bs bv)
   (fun xs=>xs=Bd 46 s) (fun pre=>pre <+: Bd 46 s) (Bd 46 s).length w:=fun l J Jx W hW hJ hJx hY h0=>by
 refine callsIn_of_wp Tryz.func423 Y Go.Sy.q_ ?_ Y
 simp only[Tryz.ntmps423,List.size_toArray,List.length_cons,List.length_nil,Nat.reduceAdd,Nat.reduceSub,Array.replicate_succ,Array.replicate_zero,List.push_toArray,List.append_toArray,List.nil_append,List.cons_append]
 have hW0:SeqBox W bp bs bv s:=hw.keep ⟨hW.block _ hlt.1,hW.block _ hlt.2.1,hW.block _ hlt.2.2⟩
 have c1:=hW0.p
 have c2:=hW0.s
 have c3:=hW0.v
 gi_wp2
 gi_loopw [] (fun wr=>∃ j:Nat,j≤Aim 46 s∧SeqBox wr bp bs bv (mkT (Cu 46 s.data.toList j))∧J ((Bd 46 s).take j) wr) (fun wr=>An5 bs wr)
 case atStart =>
  exact⟨0,Nat.zero_le _,by rw[Cu,Cv];exact hW0,h0⟩
 case round =>
  obtain ⟨j,hj,hb,hJj⟩:=hrel
  have d1:=hb.p
  have d2:=hb.s
  have d3:=hb.v
  have hlr:=Ac3 46 s.data.toList j
  have hsz:s.data.toList.length=s.size:=rfl
  have hwl:=D9 46 s
  have hsm:=Bp (Cu 46 s.data.toList j)
  by_cases hlt:j<Aim 46 s
  ·have hi:=H5 (Agt hlt)
   obtain ⟨m,hm'⟩:∃ m:Nat,Lib.indexByte (Cu 46 s.data.toList j) 46=m:=⟨(Lib.indexByte (Cu 46 s.data.toList j) 46).toNat,by omega⟩
   have q:=Tryz.strings_Index_one (mkT (Cu 46 s.data.toList j)) 46 wr
   rw[Bv,hm']at q
   rw[hm',Int.toNat_natCast]at hi
   have hpm:=Ani (c:=46) (s:=s) (j:=j) hm'
   have hqm:=Apr (c:=46) (s:=s) (j:=j) hm'
   have hget:(Bd 46 s)[j]? = some (mkT (Oa 46 s.data.toList j)):=by
    have hlt':j<s.data.toList.count 46:=hlt
    rw[Bd,List.getElem?_append_left (by rw[List.length_map,List.length_range];exact hlt'),List.getElem?_map,List.getElem?_range hlt']
    rfl
   have hx:(mkT (Cu 46 s.data.toList j)).extract 0 m=mkT (Oa 46 s.data.toList j):=by
    rw[Cr,hpm];simp
   have hx2:(mkT (Cu 46 s.data.toList j)).extract (m+1) (mkT (Cu 46 s.data.toList j)).size=mkT (Cu 46 s.data.toList (j+1)):=by
    rw[Cr,hqm,hsm,List.take_length]
   have htk:(Bd 46 s).take j++[mkT ((Cu 46 s.data.toList j).take m)]=(Bd 46 s).take (j+1):=by
    rw[List.take_add_one,hget,hpm];rfl
   obtain ⟨fn,tmps,assign,body,hy,hR⟩:=hY _ (mkT ((Cu 46 s.data.toList j).take m)) wr hJj (by rw[List.length_take];omega)
   rw[htk]at hR
   gi_wp2
   refine⟨Go.Sy.q_,?_⟩
   refine(callsIn_wide.2 q).mono ?_
   rintro e w' ⟨rfl,rfl⟩
   gi_wp2
   refine hR.mono ?_
   rintro e W' (⟨rfl,hJ',hk⟩ | ⟨rfl,hJx'⟩)
   ·have hb':=hb.keep hk
    have d1:=hb'.p
    have d2:=hb'.s
    have d3:=hb'.v
    have d4:=hb'.f
    have hsm1:(mkT (Cu 46 s.data.toList (j+1))).size+(m+1)=(mkT (Cu 46 s.data.toList j)).size:=by
     rw[hsm,Bp,hqm,List.length_drop];omega
    rw[hsm]at hx2
    gi_wp2
    rw[← hqm]
    have e2:(W'.setCell ⟨bs,0,none⟩ (.string (mkT (Cu 46 s.data.toList (j+1))))).cell? ⟨bs,0,none⟩=some (.string (mkT (Cu 46 s.data.toList (j+1)))):=World.cell?_setCell_same' _ _ _ (by rw[d2];rfl)
    refine⟨⟨j+1,hlt,⟨?_,e2,?_,?_⟩,hJ _ _ _ (some bs) hJ' (grownBy_setCell' _ _ _) (fun r e=>by cases e;rfl)⟩,?_⟩
    ·rw[World.cell?_setCell_other _ _ _ _ (by intro e;cases e;exact hd.1 rfl)];exact d1
    ·rw[World.cell?_setCell_other _ _ _ _ (by intro e;cases e;exact hd.2 rfl)];exact d3
    ·rw[World.frozen?_setCell];exact d4
    ·unfold An5
     rw[e2,hb.s]
     simp only
     omega
   ·gi_wp2
    refine bodyPost_ret (results_none Y _ _ _) Y ?_
    exact⟨⟨_,Y⟩,.inr ⟨_,List.take_prefix _ _,hJx'⟩⟩
  ·have hje:j=Aim 46 s:=by omega
   have hno:(46:UInt8)∉Cu 46 s.data.toList j:=by
    have:=Sw 46 s.data.toList j hj
    have e:Aim 46 s=s.data.toList.count 46:=rfl
    exact List.count_eq_zero.1 Go.Sy.z_
   have q:=Tryz.strings_Index_one (mkT (Cu 46 s.data.toList j)) 46 wr
   rw[Bv,Aet hno]at q
   have hget:(Bd 46 s)[j]? = some (mkT (Cu 46 s.data.toList j)):=by
    rw[hje,Bd,List.getElem?_append_right (by simp[Aim])]
    simp[Aim]
   have htk:(Bd 46 s).take j++[mkT (Cu 46 s.data.toList j)]=Bd 46 s:=by
    have:(Bd 46 s).take (j+1)=Bd 46 s:=List.take_of_length_le Go.Sy.z_
    rw[List.take_add_one,hget]at this
    exact this
   have hlen:((Bd 46 s).take j).length<(Bd 46 s).length:=by rw[List.length_take];omega
   clear hje
   obtain ⟨fn,tmps,assign,body,hy,hR⟩:=hY _ (mkT (Cu 46 s.data.toList j)) wr hJj hlen
   rw[htk]at hR
   gi_wp2
   refine⟨Go.Sy.q_,?_⟩
   refine(callsIn_wide.2 q).mono ?_
   rintro e w' ⟨rfl,rfl⟩
   gi_wp2
   refine hR.mono ?_
   rintro e W' (⟨rfl,hJ',hk⟩ | ⟨rfl,hJx'⟩)
   ·gi_wp2
    go_end0
    exact⟨⟨_,Y⟩,.inl ⟨_,Y,hJ'⟩⟩
   ·gi_wp2
    go_end0
    exact⟨⟨_,Y⟩,.inr ⟨_,List.prefix_rfl,hJx'⟩⟩
end Go.Proofs
namespace Go.Sy
theorem Ab3 (w:World) {b:Nat} {cs:Array Value} {T:TypeId} {fr:Nat × Nat} (h:w.heap[b]? = some (.cells cs T fr)) (n:Nat) :
  (w.freeze ⟨b,n,none⟩ 1).heap[b]? = some (.cells cs T (if fr.1 == fr.2 then (n,n+1) else (min fr.1 n,max fr.2 (n+1))))∧(w.freeze ⟨b,n,none⟩ 1).os=w.os∧(w.freeze ⟨b,n,none⟩ 1).tape=w.tape∧(w.freeze ⟨b,n,none⟩ 1).output=w.output ∧
   (w.freeze ⟨b,n,none⟩ 1).heap.size=w.heap.size∧∀ i,i≠b→(w.freeze ⟨b,n,none⟩ 1).heap[i]? = w.heap[i]?:=by
 unfold World.freeze
 rw[if_neg y_]
 refine⟨?_,Y,Y,Y,by simp,fun i hi=>?_⟩
 ·simp[Array.getElem?_modify,h]
 ·simp[Array.getElem?_modify,Ne.symm hi]
theorem K2 {P:Program} (Γ:Ty P) {o:Oper} {s:SS} {t:TypeId} {ti ei:TI} {x:Operand} {et:TypeId} {sz eb k:Nat} {ez:List Value} {svs:List SV} (h:o.op=.convert t t x)
  (ht:Γ.get t=some ti) (hk:ti.k=.slice et sz eb ez) (he:Γ.get et=some ei) (hek:ei.k=.int .u8) (hx:ev s x=.osl k) (hl:s.h k=.lit sz svs):Good P o s ⟨.osl k,[],[(k,.lit sz svs)]⟩:=by
 intro κ a w hi hr ho N Q hN
 have h1:=hr x (by simp[h,Op.operands])
 have h3:=ho k (.inr (by simp[Up.ws]))
 rw[hl]at h3
 rw[hx]at h1
 obtain ⟨b,cap,cs,T,fr,f1,f2,f3,f4,f5,f6⟩:=h3
 simp only[Rd,f1]at h1
 obtain ⟨hu,_⟩:=Em Γ ht hk
 have he':=Aab Γ he hek
 obtain ⟨q1,q2,q3,q4,q5,q6⟩:=Ab3 w f2 cs.length
 have hsh:w.shape? b=some (T,cs.length):=by
  unfold World.shape?
  rw[f2]
  simp
 have hrun:(execOp a.eval o).run P w=.ok (.value (.slice (some ⟨b,0,none⟩) svs.length cap)) (w.freeze ⟨b,cs.length,none⟩ 1):=by
  simp[execOp,h,h1,convert,run_underlying hu,run_underlying he',markStringish,hsh]
 simp only[Oper.wp,hrun,Oper.upon]
 obtain ⟨st,inv⟩:=Kb hi (k:=k) (b:=b) (by rw[f1];rfl) q2 q3 q4 q5 q6
 refine hN _ κ _ (st.weaken (by simp[Up.ws])) inv (by simp[Rd,f1]) (fun p hp=>?_)
 simp only[List.mem_singleton]at hp
 subst hp
 refine⟨b,cap,cs,T,_,f1,q1,?_,f4,f5,fun i x hx=>?_⟩
 ·rcases f3 with h0 | h0
  ·rw[if_pos (by simpa using h0)];exact .inr (Nat.le_refl _)
  ·split
   ·exact .inr (Nat.le_refl _)
   ·exact .inr (by simp only;omega)
 obtain ⟨g0,u,g1,g2,g3,g4⟩:=f6 i x hx
 exact⟨g0,u,RdD.keep st.keeps _ _ g1,g2,g3,g4⟩
end Go.Sy
namespace Go.Sy
open Go.ChangeShapes Go.WideShapes Go.ChangeAt Go.RowKit
def κ0:Ka:=⟨fun _=>.new,fun _=>False⟩
theorem inv0 (w:World):Inv κ0 w :=
 ⟨fun i j b h=>(by cases h),fun k b h=>(by cases h),fun k b h=>(by cases h),fun b h=>False.elim h⟩
theorem Ub {w w':World} {κ':Ka} (c:Ctx ⟨w,κ0,[]⟩ κ' w'):Below w.heap.size w w' :=
 ⟨c.os,c.tape,c.output,c.size,fun k hk=>c.old k hk (fun j h=>by cases h)⟩
section
variable {H:Type} {enc:TypeId × Value→H} {P:Program}
theorem Qr {W W':World} (hl:laidOutB P=true) (hb:Below W.heap.size W W'):∀ {ts:List TypeId} {vs:List Value} {ds:List (DataW H)} {ps:List MemPlace},(∀ t∈ts,P.readableRec t=true∧t<P.types.size) →
  (∀ x∈ps,x.block<W.heap.size)→DataW.TrodAll enc P W 0 (fun _=>true) true ts vs ds ps→DataW.TrodAll enc P W' 0 (fun b=>decide (b<W.heap.size)) true ts vs ds ps
 | [],_,_,_,_,_,h=>by
  obtain ⟨rfl,rfl,rfl⟩:=trodAll_nil h
  rfl
 | t::ts,_,_,_,ht,hp,h=>by
  obtain ⟨v,vs,d,ds,p,q,rfl,rfl,rfl,h1,h2⟩:=trodAll_cons h
  have:=ht t qe
  exact⟨p,q,Below.trod hl this.1 this.2 h1 hb (fun x hx=>hp x (by simp[hx])),Qr hl hb (fun t h=>ht t (by simp[h])) (fun x hx=>hp x (by simp[hx])) h2,Y⟩
theorem Alk {f:FuncId} {fn:Func} {s:ChangeSpec} {W:World} {args:Array Value} {ds gs:List (DataW H)} {before:List MemPlace} {tb:TypeId} {A:List SV} (hv:s.vars=[]) (hl:laidOutB P=true)
  (hW:DataW.Whole enc P fn.params.toList s.vars false W args.toList ds gs before) (hts:∀ t∈fn.params.toList,P.readableRec t=true∧t<P.types.size) (hrt:fn.resultTypes=#[tb]) (hbt:P.underlying tb=some .bool)
  (hfn:∀ gs:List (DataW H),gs=[]→s.fn H (ds++gs)={ results:=[.lit (.bool true)],args:=ds }) (hA:RdL κ0 W A args.toList) (hs:Sy.Spec P f A [] (Ab true) []) :
  Calls P f args W fun e W'=>∃ v,e=.returned v∧s.post enc P fn false true false false W args v W':=by
 have hc:=hs κ0 W args.toList (inv0 W) (fun k hk=>absurd rfl hk) hA (fun p hp=>by cases hp)
 simp only[Array.toArray_toList]at hc
 refine hc.mono ?_
 rintro e W' ⟨v,κ',rfl,ctx,inv,hR,_⟩
 have hvv:v=.bool true:=by simpa [Ab,Rd] using hR
 subst hvv
 have hb:=Ub ctx
 have hW':=hW
 obtain ⟨p,q,h1,h2,h3,h4,h5⟩:=hW
 have hgs:gs=[]∧q=[]:=by
  rw[hv]at h2
  exact trodVars_none h2
 obtain ⟨rfl,rfl⟩:=hgs
 rw[List.append_nil]at h3
 subst h3
 have hlt:∀ x∈before,x.block<W.heap.size:=fun x hx=>by simpa using hW'.lt x hx
 refine⟨_,rfl,ds,[],before,[],before,[],hW',?_,?_,?_,?_,fun h=>by cases h⟩
 ·rw[hfn [] rfl,hrt]
  exact trodAll_mk1 (shut_bool hbt true)
 ·rw[hfn [] rfl]
  exact Qr hl hb hts hlt h1
 ·rw[hv,hfn [] rfl]
  rfl
 ·exact hb.frame _
end
end Go.Sy
namespace Go.Sy
open Go.RowKit
theorem Spec.calls {P:Program} {f:FuncId} {A:List SV} {R:SV} (h:Sy.Spec P f A [] R []) {w:World} {vs:List Value} (hA:RdL κ0 w A vs) :
  Calls P f vs.toArray w fun e w'=>∃ v κ',e=.returned v∧Rd κ' w' R v∧Below w.heap.size w w':=by
 refine(h κ0 w vs (inv0 w) (fun k hk=>absurd rfl hk) hA (fun p hp=>by cases hp)).mono ?_
 rintro e w' ⟨v,κ',rfl,ctx,inv,hR,_⟩
 exact⟨v,κ',Y,hR,Ub ctx⟩
theorem Spec.calls_tup2 {P:Program} {f:FuncId} {A:List SV} {a b:Value} (h:Sy.Spec P f A [] (.tup [.val a,.val b]) []) {w:World} {vs:List Value} (hA:RdL κ0 w A vs) :
  Calls P f vs.toArray w fun e w'=>e=.returned (.tuple #[a,b])∧Below w.heap.size w w' :=
 (h.calls hA).mono fun e w' ⟨v,κ',he,hv,hb⟩=>by
  simp only[Rd,RdL]at hv
  obtain ⟨cs,rfl,_,_,rfl,rfl,_,_,rfl,rfl,rfl⟩:=hv
  exact⟨he,hb⟩
theorem Spec.of_calls2 {P:Program} {f:FuncId} {A:List SV} {H:Obs} {a b:Value}
  (h:∀ (κ:Ka) (w:World) (vs:List Value),Inv κ w→RdL κ w A vs→H.ok κ w→Calls P f vs.toArray w fun e w'=>e=.returned (.tuple #[a,b])∧Below w.heap.size w w'):Spec P f A H (.tup [.val a,.val b]) H:=by
 intro κ w vs hi _ hr ho
 refine(h κ w vs hi hr ho).mono fun e w' hw=>?_
 obtain ⟨he,hw⟩:=hw
 have g:Grew w w':=⟨hw.os,hw.tape,hw.output,hw.size,hw.block⟩
 have st:=Zq hi g
 exact⟨.tuple #[a,b],κ,he,(Ctx.refl κ w).step st.2 st.1,st.2,by simp[Rd,RdL],fun p hp=>ObOK.step st.1 qe p.2 (ho p hp)⟩
theorem X6 {w w':World} (h:Below w.heap.size w w'):KeepsOthers w w':=⟨h.size,fun k o hk _=>(h.block k (Array.getElem?_eq_some_iff.1 hk).1).trans hk⟩
theorem Yp {A B:World} {row:Option Nat} {k:Nat} {v:Value} (h:A.cell? ⟨k,0,none⟩=some v) (hg:A.grownBy B row) (hr:row≠some k):B.cell? ⟨k,0,none⟩=some v∧B.frozen? ⟨k,0,none⟩=A.frozen? ⟨k,0,none⟩:=by
 obtain ⟨o,ho,_⟩:=cells_of_cell h
 obtain ⟨_,_,_,_,h5⟩:=hg
 have e:B.heap[k]? = A.heap[k]?:=h5 k (Array.getElem?_eq_some_iff.1 ho).1 (fun e=>hr e.symm)
 refine⟨(World.cell?_of_block e).trans h,?_⟩
 unfold World.frozen?
 rw[e]
def Var1 (W:World) (k:Nat) (v:Value):Prop:=W.cell? ⟨k,0,none⟩=some v∧W.frozen? ⟨k,0,none⟩=false
theorem Var1.at {W:World} {B:Nat} {v:Value} {t:TypeId} (h:W.heap[B]? = some (.cells #[v] t (0,0))):Var1 W B v:=by
 constructor<;>simp[World.cell?,World.frozen?,h]
theorem Var1.below {A B:World} {k:Nat} {v:Value} (h:Var1 A k v) (hb:Below A.heap.size A B):Var1 B k v:=by
 obtain ⟨o,ho,_⟩:=cells_of_cell h.1
 have e:B.heap[k]? = A.heap[k]?:=hb.block k (Array.getElem?_eq_some_iff.1 ho).1
 refine⟨(World.cell?_of_block e).trans h.1,?_⟩
 rw[← h.2]
 unfold World.frozen?
 rw[e]
theorem Var1.new (W:World) (v:Value) (t:TypeId) {k:Nat} (hk:k=W.heap.size):Var1 (W.alloc (.cells #[v] t)) k v:=by
 subst hk
 exact Var1.at (World.alloc_heap_new W _)
theorem Var1.grown {A B:World} {row:Option Nat} {k:Nat} {v:Value} (h:Var1 A k v) (hg:A.grownBy B row) (hr:row≠some k):Var1 B k v :=
 ⟨(Yp h.1 hg hr).1,(Yp h.1 hg hr).2.trans h.2⟩
theorem Var1.alloc {A:World} {k:Nat} {v:Value} (h:Var1 A k v) (o:Obj):Var1 (A.alloc o) k v:=h.grown (World.grownBy_alloc A o none) qe
theorem Var1.set {A:World} {k:Nat} {v:Value} (h:Var1 A k v) (u:Value):Var1 (A.setCell ⟨k,0,none⟩ u) k u :=
 ⟨World.cell?_setCell_same' _ _ _ (by rw[h.1];rfl),by rw[World.frozen?_setCell];exact h.2⟩
theorem Var1.other {A:World} {k b:Nat} {v:Value} (h:Var1 A k v) (hb:b≠k) (u:Value):Var1 (A.setCell ⟨b,0,none⟩ u) k v :=
 ⟨(World.cell?_setCell_other _ _ _ _ (by intro e;cases e;exact hb rfl)).trans h.1,by rw[World.frozen?_setCell];exact h.2⟩
end Go.Sy
namespace Go.Proofs
open Go.RowKit Go.Shelf Go.Sy Go.Sy.YtjenpnjajjplkaaGreatDoor
attribute [local go_sem] Oper.semAt_some
theorem Tryz.splitSeq_calls (s:ByteArray) (w:World):Calls Tryz.prog 303 #[.string s,.string ⟨#[46]⟩] w fun e w' =>
  e=.returned (.func (.func 423) #[] #[.pointer (some ⟨w.heap.size+1,0,none⟩),.pointer (some ⟨w.heap.size,0,none⟩),.pointer (some ⟨w.heap.size+2,0,none⟩)]) ∧
   w'=((w.alloc (.cells #[.string s] 9)).alloc (.cells #[.string ⟨#[46]⟩] 9)).alloc (.cells #[.int .i64 0] 3):=by
 have q:Calls Tryz.prog 367 #[.string s,.string ⟨#[46]⟩,.int .i64 0] w fun e w' =>
  e=.returned (.func (.func 423) #[] #[.pointer (some ⟨w.heap.size+1,0,none⟩),.pointer (some ⟨w.heap.size,0,none⟩),.pointer (some ⟨w.heap.size+2,0,none⟩)]) ∧
   w'=((w.alloc (.cells #[.string s] 9)).alloc (.cells #[.string ⟨#[46]⟩] 9)).alloc (.cells #[.int .i64 0] 3):=by
  refine(callsIn_wide (n:=3)).1 ?_
  refine callsIn_of_wp Tryz.func367 Y Go.Sy.q_ ?_ Y
  simp only[Tryz.ntmps367,List.size_toArray,List.length_cons,List.length_nil,Nat.reduceAdd,Nat.reduceSub,Array.replicate_succ,Array.replicate_zero,List.push_toArray,List.append_toArray,List.nil_append,List.cons_append]
  gi_wp2
  go_ret
  exact⟨Y,Y⟩
 refine(callsIn_wide (n:=3)).1 ?_
 refine callsIn_of_wp Tryz.func303 Y Go.Sy.q_ ?_ Y
 simp only[Tryz.ntmps303,List.size_toArray,List.length_cons,List.length_nil,Nat.reduceAdd,Nat.reduceSub,Array.replicate_succ,Array.replicate_zero,List.push_toArray,List.append_toArray,List.nil_append,List.cons_append]
 gi_wp2
 refine⟨Go.Sy.q_,?_⟩
 refine(callsIn_wide.2 q).mono ?_
 rintro e w' ⟨rfl,rfl⟩
 gi_wp2
 go_ret
 exact⟨Y,Y⟩
def O3:List ByteArray→Int
 | []=>0
 | l=>l.foldl (fun a x=>bits .or .u32 (IntKind.u32.wrap (a * 2 ^ 8)) (IntKind.u32.wrap (smallT x 255).1)) 0
def Le (x:ByteArray):Bool:=(smallT x 255).2
def Bo (s:ByteArray):Int × Bool:=if (Bd 46 s).length=4∧(Bd 46 s).all Le=true then (O3 (Bd 46 s),true) else (0,false)
theorem Mh (l:List ByteArray) (x:ByteArray):O3 (l++[x])=bits .or .u32 (IntKind.u32.wrap (O3 l * 2 ^ 8)) (IntKind.u32.wrap (smallT x 255).1):=by
 cases l with
 | nil=>rfl
 | cons y l=>simp[O3]
set_option maxRecDepth 100000 in
set_option maxHeartbeats 4000000 in
theorem Tryz.addrRead_calls (s:ByteArray) (hs:s.size<100000) (w:World):Calls Tryz.prog 237 #[.string s] w fun e w'=>e=.returned (.tuple #[.int .u32 (Bo s).1,.bool (Bo s).2])∧Below w.heap.size w w':=by
 refine(callsIn_wide (n:=5)).1 ?_
 refine callsIn_of_wp_marks Tryz.func237 Y Go.Sy.q_ ?_ Y
 simp only[Tryz.ntmps237,List.size_toArray,List.length_cons,List.length_nil,Nat.reduceAdd,Nat.reduceSub,Array.replicate_succ,Array.replicate_zero,List.push_toArray,List.append_toArray,List.nil_append,List.cons_append]
 gi_wp2
 refine wpIn_wide.2 (wp_scope_straight ((wpIn_wide (n:=5)).1 ?_))
 gi_wp2
 refine wpIn_label ?_
 gi_wp2
 refine⟨Go.Sy.q_,?_⟩
 refine(callsIn_wide.2 (Tryz.splitSeq_calls s _)).mono ?_
 rintro e w' ⟨rfl,rfl⟩
 gi_wp2
 obtain ⟨W0,hW0⟩:∃ W0,((((w.alloc (.cells #[.int .u32 0] 62)).alloc (.cells #[.int .i64 0] 3)).alloc (.cells #[.string s] 9)).alloc (.cells #[.string ⟨#[46]⟩] 9)).alloc (.cells #[.int .i64 0] 3)=W0:=⟨_,rfl⟩
 have hsz:W0.heap.size=w.heap.size+5:=by rw[← hW0];simp
 have hB0:Below w.heap.size w W0:=by
  rw[← hW0]
  exact(((((Below.refl _ w).alloc (Nat.le_refl _) _).alloc qe _).alloc (by simp;omega) _).alloc (by simp;omega) _).alloc (by simp;omega) _
 have ca:Var1 W0 w.heap.size (.int .u32 0):=by rw[← hW0];exact((((Var1.new _ _ _ rfl).alloc _).alloc _).alloc _).alloc _
 have ci:Var1 W0 (w.heap.size+1) (.int .i64 0):=by rw[← hW0];exact(((Var1.new (w.alloc _) _ _ qe).alloc _).alloc _).alloc _
 have cs:Var1 W0 (w.heap.size+2) (.string s):=by rw[← hW0];exact((Var1.new ((w.alloc _).alloc _) _ _ qe).alloc _).alloc _
 have cp:Var1 W0 (w.heap.size+3) (.string ⟨#[46]⟩):=by rw[← hW0];exact(Var1.new (((w.alloc _).alloc _).alloc _) _ _ qe).alloc _
 have cv:Var1 W0 (w.heap.size+4) (.int .i64 0):=by rw[← hW0];exact Var1.new ((((w.alloc _).alloc _).alloc _).alloc _) _ _ qe
 have cb:SeqBox W0 (w.heap.size+3) (w.heap.size+2) (w.heap.size+4) s:=⟨cp.1,cs.1,cv.1,cs.2⟩
 rw[hW0]
 clear hW0
 have hrow:∀ {k:Nat} {W:World} {row:Option Nat},k≤w.heap.size+1→(∀ r,row=some r→r=w.heap.size+2∨(W0.heap.size≤r∧∃ o:Obj,W.heap[r]? = some o∧o.isCells=false))→row≠some k:=fun hk hr e=>by
  rcases hr _ e with h | ⟨h,_⟩<;>omega
 have hge:∀ {W:World} {row:Option Nat},(∀ r,row=some r→r=w.heap.size+2∨(W0.heap.size≤r∧∃ o:Obj,W.heap[r]? = some o∧o.isCells=false))→∀ r,row=some r→w.heap.size≤r:=fun hr r e=>by
  rcases hr _ e with h | ⟨h,_⟩<;>omega
 refine Qj Y Go.Sy.z_ (gf:=423) (lb:=#[.pointer (some ⟨w.heap.size+3,0,none⟩),.pointer (some ⟨w.heap.size+2,0,none⟩),.pointer (some ⟨w.heap.size+4,0,none⟩)]) Y Go.Sy.q_ (enters_of Tryz.func423 Go.Sy.j_ Y)
  (Tryz.split_stops s hs 4 Go.Sy.z_ (w.heap.size+3) (w.heap.size+2) (w.heap.size+4) ⟨by omega,by omega⟩ W0 cb Go.Sy.z_) (fun b hb=>by omega)
  (fun h k=>⟨k.1.trans h.1,k.2.1.trans h.2.1,k.2.2.trans h.2.2⟩)
  (fun W l o o' hl _ _ _=>⟨World.putObj_heap_other Go.Sy.z_,World.putObj_heap_other Go.Sy.z_,World.putObj_heap_other Go.Sy.z_⟩) (Below.refl _ _) (fun _=>rfl)
  (fun pre W=>Var1 W w.heap.size (.int .u32 (O3 pre))∧Var1 W (w.heap.size+1) (.int .i64 pre.length)∧(pre.length≤4∧pre.all Le=true)∧Below w.heap.size w W∧w.heap.size+5≤W.heap.size)
  (fun c pre W=>c=.exit 0∧Var1 W (w.heap.size+1) (.int .i64 0)∧¬ (pre.length≤4∧pre.all Le=true)∧Below w.heap.size w W)
  (fun pre A B row hs hg hr=>⟨hs.1.grown hg (hrow Go.Sy.z_ hr),hs.2.1.grown hg (hrow Go.Sy.z_ hr),hs.2.2.1,hs.2.2.2.1.grown hg hs.2.2.2.1.size (hge hr),Nat.le_trans hs.2.2.2.2 hg.size⟩)
  (fun c pre A B row hs hg hr=>⟨hs.1,hs.2.1.grown hg (hrow Go.Sy.z_ hr),hs.2.2.1,hs.2.2.2.grown hg hs.2.2.2.size (hge hr)⟩)
  ⟨ca,ci,⟨by simp,rfl⟩,hB0,by omega⟩
  (fun x=>{ tmps:=#[.string s,undef,.int .u32 0,.bool false,.pointer (some ⟨w.heap.size,0,none⟩),.pointer (some ⟨w.heap.size+1,0,none⟩),.string x,undef,undef,.string s,
   .func (.func 423) #[] #[.pointer (some ⟨w.heap.size+3,0,none⟩),.pointer (some ⟨w.heap.size+2,0,none⟩),.pointer (some ⟨w.heap.size+4,0,none⟩)],.string x,
   undef,undef,undef,undef,undef,undef,undef,undef,undef,undef,undef,undef,undef,undef,undef,undef,undef,undef,undef,undef,undef],defers:=[] }) ?assign ?body ?done ?stop
 case assign =>
  intro l x W K hK
  gi_wp2
  exact hK
 case body =>
  rintro l pre x W ⟨ha,hi,⟨hp1,hp2⟩,hB,hB5⟩ _
  have q:=(Yt x 255).calls_tup2 (w:=W) (vs:=[.string x,.int .i64 255]) (by simp only[RdL];exact⟨_,_,rfl,by simp[Rd,Ad],_,_,rfl,by simp[Rd,Aa],rfl⟩)
  have hsn:=Mh pre x
  have hal:((pre++[x]).all Le)=Le x:=by rw[List.all_append,hp2];simp
  have hll:(pre++[x]).length=pre.length+1:=by simp
  have hox:Le x=(smallT x 255).2:=rfl
  generalize smallT x 255=sm at *
  obtain ⟨v,ok⟩:=sm
  dsimp only at hsn hox q
  gi_wp2
  refine⟨Go.Sy.q_,?_⟩
  refine(CallsIn.inRound l (callsIn_wide.2 q)).mono ?_
  rintro e w' ⟨rfl,hb⟩
  have ha':=ha.below hb
  have hi':=hi.below hb
  have hB':Below w.heap.size w w':=hB.trans (hb.mono hB.size)
  have hk1:=X6 hb
  have a1:=ha'.1
  have a2:=ha'.2
  have b1:=hi'.1
  have b2:=hi'.2
  have s1:∀ (u v:Value),Below w.heap.size w ((w'.setCell ⟨w.heap.size+1,0,none⟩ u).setCell ⟨w.heap.size+1,0,none⟩ v):=fun u v =>
   (hB'.setCell (p:=⟨w.heap.size+1,0,none⟩) (Nat.le_succ _) u).setCell (p:=⟨w.heap.size+1,0,none⟩) (Nat.le_succ _) v
  cases ok
  ·gi_wp2
   exact⟨hk1.trans ((KeepsOthers.setCell _ _ _).trans (KeepsOthers.setCell _ _ _)),rfl,(hi'.set _).set _,(fun e=>by rw[hal,hox]at e;cases e.2),s1 _ _⟩
  ·by_cases h4:pre.length+1≤4
   ·have hsn':O3 (pre++[x])=bits .or .u32 (O3 pre * 256 % 4294967296) (v % 4294967296):=by rw[hsn,IntKind.wrap_u32,IntKind.wrap_u32];rfl
    gi_wp2
    refine⟨hk1.trans ((KeepsOthers.setCell _ _ _).trans (KeepsOthers.setCell _ _ _)),⟨?_,?_,?_⟩,?_,?_,⟨by omega,by rw[hal,hox]⟩,?_,?_⟩
    ·rw[Below.heap_setCell _ _ _ _ qe,Below.heap_setCell _ _ _ _ qe]
     exact hb.block _ Go.Sy.z_
    ·rw[Below.heap_setCell _ _ _ _ qe,Below.heap_setCell _ _ _ _ qe]
     exact hb.block _ Go.Sy.z_
    ·rw[Below.heap_setCell _ _ _ _ qe,Below.heap_setCell _ _ _ _ qe]
     exact hb.block _ Go.Sy.z_
    ·rw[hsn']
     exact(ha'.other qe _).set _
    ·rw[hll]
     exact(hi'.set _).other qe _
    ·exact(hB'.setCell (p:=⟨w.heap.size+1,0,none⟩) (Nat.le_succ _) _).setCell (p:=⟨w.heap.size,0,none⟩) (Nat.le_refl _) _
    ·have:=hb.size
     simp
     omega
   ·gi_wp2
    exact⟨hk1.trans ((KeepsOthers.setCell _ _ _).trans (KeepsOthers.setCell _ _ _)),Y,(hi'.set _).set _,fun e=>by omega,s1 _ _⟩
 case done =>
  rintro D xs W hD rfl ⟨ha,hi,⟨hp1,hp2⟩,hB,_⟩ hK
  have a1:=ha.1
  have a2:=ha.2
  have b1:=hi.1
  have b2:=hi.2
  by_cases h4:(Bd 46 s).length=4
  ·have hr:Bo s=(O3 (Bd 46 s),true):=by rw[Bo,if_pos ⟨h4,hp2⟩]
   gi_wp2
   refine⟨by simp,.inl ⟨_,_,Y,run_takeDeferred hK,?_⟩⟩
   exact⟨_,results_tmp2 Y _ _ _,by rw[hr];rfl,hB.trans (belowK_b (w:=w) (Nat.le_refl _) W D _ _ Go.Sy.z_ hK Y Y)⟩
  ·have hr:Bo s=(0,false):=by rw[Bo,if_neg (fun e=>h4 e.1)]
   gi_wp2
   refine⟨by simp,.inl ⟨_,_,Y,run_takeDeferred hK,?_⟩⟩
   exact⟨_,results_tmp2 Y _ _ _,by rw[hr];rfl,hB.trans (belowK_b (w:=w) (Nat.le_refl _) W D _ _ Go.Sy.z_ hK Y Y)⟩
 case stop =>
  rintro D c pre W hD hpre ⟨rfl,hi,hbad,hB⟩ hK
  have b1:=hi.1
  have b2:=hi.2
  have hr:Bo s=(0,false):=by
   rw[Bo,if_neg]
   intro e
   refine hbad ⟨by have:=hpre.length_le;omega,?_⟩
   rw[List.all_eq_true]at e ⊢
   exact fun x hx=>e.2 x (hpre.subset hx)
  gi_wp2
  refine⟨by simp,.inl ⟨_,_,Y,run_takeDeferred hK,?_⟩⟩
  exact⟨_,results_tmp2 Y _ _ _,by rw[hr];rfl,hB.trans (belowK_b (w:=w) (Nat.le_refl _) W D _ _ Go.Sy.z_ hK Y Y)⟩
end Go.Proofs
namespace Go.Sy.YtjenpnjajjplkaaGreatDoor
open Go.Proofs
theorem U8 (s:ByteArray) (hs:s.size<100000):Sy.Spec Tryz.prog 237 [Ad s] [] (.tup [A3 (Bo s).1,Ab (Bo s).2]) [] :=
 Spec.of_calls2 fun κ w vs _ hr _=>by
  simp only[RdL]at hr
  obtain ⟨v,r,rfl,hv,rfl⟩:=hr
  simp only[Ad,Rd]at hv
  subst hv
  exact Tryz.addrRead_calls s hs w
end Go.Sy.YtjenpnjajjplkaaGreatDoor
namespace Go.Sy.YtjenpnjajjplkaaGreatDoor
open Go.Proofs
attribute [local irreducible] Go.Sy.G Go.Sy.DR
set_option maxRecDepth 100000
set_option maxHeartbeats 4000000
def be:Nat→Nat→List UInt8
 | 0,_=>[]
 | k+1,m=>UInt8.ofNat (m / 256 ^ k)::be k m
theorem J8 (m:Nat):∀ k,(be k m).length=k
 | 0=>rfl
 | k+1=>by simp[be,J8 m k]
theorem Ajp (m:Nat):∀ (k j:Nat) (_h:j<k),(be k m).take (j+1)=(be k m).take j++[UInt8.ofNat (m / 256 ^ (k-1-j))]
 | 0,j,h=>by omega
 | k+1,0,h=>by simp[be]
 | k+1,j+1,h=>by
  have:=Ajp m k j z_
  simp only[be,List.take_succ_cons,List.cons_append,this]
  rw[show k+1-1-(j+1)=k-1-j by omega]
theorem Aqv (m k:Nat):m / 256 ^ k / 256=m / 256 ^ (k+1):=by rw[Nat.div_div_eq_div_mul,Nat.pow_succ]
theorem Aip (m:Nat) (hm64:m<18446744073709551616):Sy.Spec Tryz.prog 425 [B4 m] [] (.osl 0) [(0,.row 1 Bn (be 6 m))]:=cT F425 Tryz.ntmps425 fun F hF=>by
 conv=>whnf
 refine C4 3 1000 1 Bn Y Y ?_
 refine Dz 6 (fun j=>[(0,B4 m),(3,.osl 1000),(4,Aa (5-(j:Int)))]) (fun j=>[(1000,.row 1 Bn ((be 6 m).take j))]) [] ⟨⟨Y,Y,Y,Y,Y,Y,q_⟩,⟨.inl Y,Y,q_⟩,Y,Y⟩ ?_
 intro j hj
 refine oO ?_
 refine⟨fun h=>?_,fun h=>?_⟩
 ·have hlt:j<6:=qA h
  refine oO ?_
  refine Dz (5-j) (fun k=>[(0,B4 m),(3,.osl 1000),(4,Aa (5-(j:Int))),(5,B4 (m / 256 ^ k:Nat)),(6,Aa k)]) (fun _=>[(1000,.row 1 Bn ((be 6 m).take j))]) [] ⟨⟨Y,Y,Y,Y,Y,Y,by simp;rfl,Y,Y,Y,q_⟩,⟨.inl Y,Y,q_⟩,Y,Y⟩ ?_
  intro k hk
  refine oO ?_
  refine⟨fun h2=>?_,fun h2=>?_⟩
  ·have hlt2:k<5-j:=by have:=of_decide_eq_true h2;omega
   refine oO ?_
   refine⟨by decide,?_⟩
   conv=>whnf
   refine iW ?_
   refine D3 [] z_ ⟨⟨Y,Y,Y,Y,Y,Y,congrArg (fun z=>SV.val (.int .u64 z)) ?_,Y,Y,Y,q_⟩,⟨.inl Y,Y,q_⟩,Y,Y⟩
   have h5:m / 256 ^ k≤m:=Nat.div_le_self _ _
   rw[Int.tdiv_eq_ediv_of_nonneg (Int.natCast_nonneg _),IntKind.wrap_u64,← Aqv]
   generalize m / 256 ^ k=q at *
   omega
  ·have:k=5-j:=by have:=of_decide_eq_false h2;omega
   subst this
   refine oO ?_
   refine⟨by decide,?_⟩
   conv=>whnf
   refine C0 (Ak Γ.toTy 24 Y Y Y Y Y (.row Y) (.lit (l:=[UInt8.ofNat (m / 256 ^ (5-j))]) Y ?_) qe ?_ ?_) Y Y ?_
   ·simp only[List.map_cons,List.map_nil,Bn]
    congr 3
    rw[Int.tmod_eq_emod_of_nonneg (Int.natCast_nonneg _),IntKind.wrap_u8]
    simp
   ·simp[J8];omega
   ·simp[J8];omega
   refine oO ?_
   refine iW ?_
   exact D3 [(1000,24)] hlt ⟨⟨Y,Y,Y,Y,congrArg (fun z=>SV.val (.int .i64 z)) z_,Y,q_⟩,⟨.inl (congrArg (Ob.row 1 Bn) (Ajp _ _ _ hlt)),Y,q_⟩,Y,Y⟩
 ·have:j=6:=qB h
  subst this
  refine oO ?_
  exact done Y (.cons .tmp .nil) [(0,1000)] _ (fun _ h=>h) Y Y ⟨q_,⟨.inl Y,Y,q_⟩,Y,Y⟩
end Go.Sy.YtjenpnjajjplkaaGreatDoor
namespace Go.Sy.YtjenpnjajjplkaaGreatDoor
def Ed (a bits:Int):Int:=if 0≤bits∧bits≤32 then a-a % 2 ^ (32-bits).toNat else 0
end Go.Sy.YtjenpnjajjplkaaGreatDoor
namespace Go.Sy.YtjenpnjajjplkaaGreatDoor
open Go.Proofs
attribute [local irreducible] Go.Sy.G Go.Sy.DR
set_option maxRecDepth 100000
set_option maxHeartbeats 4000000
def Di (a bits:Int):SV:=.agg [A3 a,Aa bits]
theorem Yu (a bits:Int):Sy.Spec Tryz.prog 370 [Di a bits] [] (Ab (decide (0≤bits∧bits≤32))) []:=cT F370 Tryz.ntmps370 fun F hF=>by
 conv=>whnf
 (repeat' (first | (refine⟨fun h=>?_,fun h=>?_⟩<;>(repeat (first | simp only[decide_eq_true_eq]at h | simp only[decide_eq_false_iff_not]at h))<;>((refine oO ?_))) | (refine Ar rfl (.cons .tmp .nil) ?_ rfl)))
 all_goals (refine congrArg Ab ?_;clear hF;grind)
theorem Aar (a bits:Int) (h:0≤bits∧bits≤32):Sy.Spec Tryz.prog 371 [Di a bits] [] (A3 (2 ^ (32-bits).toNat-1)) []:=cT F371 Tryz.ntmps371 fun F hF=>by
 conv=>whnf
 refine iW ?_
 refine⟨by omega,?_⟩
 conv=>whnf
 refine Ar Y (.cons .tmp .nil) ?_ Y
 refine congrArg (fun z=>SV.val (.int .u32 z)) ?_
 obtain ⟨k,hk,hk2⟩:∃ k:Nat,(32-bits).toNat=k∧k≤32:=⟨_,rfl,by omega⟩
 have h1:min (32-bits).toNat IntKind.u32.bits=k:=by show min (32-bits).toNat 32=k;omega
 rw[h1,hk,IntKind.wrap_u32,IntKind.wrap_u32]
 have h2:(2:Int) ^ k≤4294967296:=by
  have:=Nat.pow_le_pow_right (n:=2) y_ hk2
  rw[show (2:Int) ^ k=((2 ^ k:Nat):Int) by rw[Int.natCast_pow];rfl]
  have e:(2:Nat) ^ 32=4294967296:=rfl
  rw[e]at this
  omega
 have h0:(1:Int)≤2 ^ k:=by
  have:=Nat.one_le_two_pow (n:=k)
  rw[show (2:Int) ^ k=((2 ^ k:Nat):Int) by rw[Int.natCast_pow];rfl]
  omega
 generalize (2:Int) ^ k=q at *
 omega
theorem Ys (a k:Nat) (ha:a<4294967296) (hk:k≤32):bits .andNot .u32 (a:Int) ((2 ^ k-1:Nat):Int)=((a-a % 2 ^ k:Nat):Int):=by
 have hp:=Nat.pow_le_pow_right (n:=2) y_ hk
 have e32:(2:Nat) ^ 32=4294967296:=rfl
 rw[e32]at hp
 have h1:=Nat.one_le_two_pow (n:=k)
 have x1:(BitVec.ofInt 32 (a:Int)).toNat=a:=by rw[BitVec.ofInt_natCast,BitVec.toNat_ofNat];exact Nat.mod_eq_of_lt z_
 have x2:(BitVec.ofInt 32 ((2 ^ k-1:Nat):Int)).toNat=2 ^ k-1:=by rw[BitVec.ofInt_natCast,BitVec.toNat_ofNat];exact Nat.mod_eq_of_lt z_
 have key:(BitVec.ofInt 32 (a:Int) &&& ~~~ BitVec.ofInt 32 ((2 ^ k-1:Nat):Int)).toNat=a-a % 2 ^ k:=by
  have hd:a-a % 2 ^ k=2 ^ k * (a / 2 ^ k):=by have:=Nat.div_add_mod a (2 ^ k);omega
  rw[hd]
  refine Nat.eq_of_testBit_eq fun i=>?_
  rw[BitVec.testBit_toNat,BitVec.getLsbD_and,BitVec.getLsbD_not,← BitVec.testBit_toNat,← BitVec.testBit_toNat,x1,x2,Nat.testBit_two_pow_sub_one,Nat.testBit_two_pow_mul,Nat.testBit_div_two_pow]
  by_cases hi:i<k
  ·have:¬ i≥k:=by omega
   simp[hi,this]
  ·have h2:i≥k:=by omega
   have h3:i-k+k=i:=by omega
   by_cases h4:i<32
   ·simp[hi,h2,h4,h3]
   ·have h5:a.testBit i=false:=Nat.testBit_lt_two_pow (Nat.lt_of_lt_of_le (by rw[← e32]at ha;exact ha) (Nat.pow_le_pow_right y_ z_))
    rw[h3,h5]
    simp
 show IntKind.u32.wrap (((BitVec.ofInt 32 (a:Int) &&& ~~~ BitVec.ofInt 32 ((2 ^ k-1:Nat):Int)).toNat:Nat):Int)=_
 rw[key,IntKind.wrap_u32]
 omega
theorem H2 (a k:Nat) (bits:Int) (h:0≤bits∧bits≤32) (hk:(32-bits).toNat=k):Ed a bits=((a-a % 2 ^ k:Nat):Int):=by
 rw[Ed,if_pos h,hk]
 have h1:=Nat.mod_le a (2 ^ k)
 rw[show (2:Int) ^ k=((2 ^ k:Nat):Int) by rw[Int.natCast_pow];rfl]
 omega
theorem Aiw (a:Nat) (bits:Int) (ha:a<4294967296):Sy.Spec Tryz.prog 307 [Di a bits] [] (A3 (Ed a bits)) []:=cT F307 Tryz.ntmps307 fun F hF=>by
 have hr:=Yu a bits
 by_cases hb:0≤bits∧bits≤32
 ·have hrest:=Aar a bits hb
  rw[decide_eq_true hb]at hr
  obtain ⟨k,hk,hk2⟩:∃ k:Nat,(32-bits).toNat=k∧k≤32:=⟨_,rfl,by omega⟩
  have hn:=Ys a k ha hk2
  have hf:=H2 a k bits hb hk
  have h1:=Nat.one_le_two_pow (n:=k)
  have e2:(2:Int) ^ k-1=((2 ^ k-1:Nat):Int):=by
   rw[show (2:Int) ^ k=((2 ^ k:Nat):Int) by rw[Int.natCast_pow];rfl]
   omega
  rw[hk,e2]at hrest
  rw[hf,← hn]
  ((conv=>whnf);repeat((first|refine aF ?_|refine aT ?_);(first|refine rG Γ hm ?_|refine rD Γ hm j_ ?_);conv=>whnf))
  refine c0 hr F370 ?_
  ((first|refine rG Γ hm ?_|refine rD Γ hm j_ ?_);(conv=>whnf);repeat((first|refine aF ?_|refine aT ?_);(first|refine rG Γ hm ?_|refine rD Γ hm j_ ?_);conv=>whnf))
  first | refine cD hrest F371 ?_ | refine c0 hrest F371 ?_
  ((first|refine rG Γ hm ?_|refine rD Γ hm j_ ?_);(conv=>whnf);repeat((first|refine aF ?_|refine aT ?_);(first|refine rG Γ hm ?_|refine rD Γ hm j_ ?_);conv=>whnf))
  first | (refine⟨j_,?_⟩;((conv=>whnf);repeat((first|refine aF ?_|refine aT ?_);(first|refine rG Γ hm ?_|refine rD Γ hm j_ ?_);conv=>whnf))) | skip
  exact dN
 ·rw[decide_eq_false hb]at hr
  have hf:Ed a bits=0:=by rw[Ed,if_neg hb]
  rw[hf]
  ((conv=>whnf);repeat((first|refine aF ?_|refine aT ?_);(first|refine rG Γ hm ?_|refine rD Γ hm j_ ?_);conv=>whnf))
  refine c0 hr F370 ?_
  ((first|refine rG Γ hm ?_|refine rD Γ hm j_ ?_);(conv=>whnf);repeat((first|refine aF ?_|refine aT ?_);(first|refine rG Γ hm ?_|refine rD Γ hm j_ ?_);conv=>whnf))
  exact dN
def lastI (a bits:Int):Int:=if 0≤bits∧bits≤32 then Ed a bits+2 ^ (32-bits).toNat-1 else 0
theorem or_low (a k:Nat) (ha:a<4294967296) (hk:k≤32):bits .or .u32 (a:Int) ((2 ^ k-1:Nat):Int)=((a-a % 2 ^ k+(2 ^ k-1):Nat):Int):=by
 have hp:=Nat.pow_le_pow_right (n:=2) y_ hk
 have e32:(2:Nat) ^ 32=4294967296:=rfl
 rw[e32]at hp
 have h1:=Nat.one_le_two_pow (n:=k)
 have x1:(BitVec.ofInt 32 (a:Int)).toNat=a:=by rw[BitVec.ofInt_natCast,BitVec.toNat_ofNat];exact Nat.mod_eq_of_lt z_
 have x2:(BitVec.ofInt 32 ((2 ^ k-1:Nat):Int)).toNat=2 ^ k-1:=by rw[BitVec.ofInt_natCast,BitVec.toNat_ofNat];exact Nat.mod_eq_of_lt z_
 have hd:a-a % 2 ^ k=2 ^ k * (a / 2 ^ k):=by have:=Nat.div_add_mod a (2 ^ k);omega
 have hsum:=Nat.two_pow_add_eq_or_of_lt (i:=k) (b:=2 ^ k-1) z_ (a / 2 ^ k)
 have key:(BitVec.ofInt 32 (a:Int) ||| BitVec.ofInt 32 ((2 ^ k-1:Nat):Int)).toNat=a-a % 2 ^ k+(2 ^ k-1):=by
  rw[hd,hsum]
  refine Nat.eq_of_testBit_eq fun i=>?_
  rw[BitVec.testBit_toNat,BitVec.getLsbD_or,← BitVec.testBit_toNat,← BitVec.testBit_toNat,x1,x2,Nat.testBit_or,Nat.testBit_two_pow_sub_one,Nat.testBit_two_pow_mul,Nat.testBit_div_two_pow]
  by_cases hi:i<k
  ·simp[hi]
  ·have h2:i≥k:=by omega
   have h3:i-k+k=i:=by omega
   simp[hi,h2,h3]
 show IntKind.u32.wrap (((BitVec.ofInt 32 (a:Int) ||| BitVec.ofInt 32 ((2 ^ k-1:Nat):Int)).toNat:Nat):Int)=_
 have hlt:(BitVec.ofInt 32 (a:Int) ||| BitVec.ofInt 32 ((2 ^ k-1:Nat):Int)).toNat<4294967296:=BitVec.isLt _
 rw[key]at hlt
 rw[key,IntKind.wrap_u32]
 omega
theorem U1 (a k:Nat) (bits:Int) (h:0≤bits∧bits≤32) (hk:(32-bits).toNat=k):lastI a bits=((a-a % 2 ^ k+(2 ^ k-1):Nat):Int):=by
 rw[lastI,if_pos h,hk,H2 a k bits h hk]
 have h1:=Nat.one_le_two_pow (n:=k)
 rw[show (2:Int) ^ k=((2 ^ k:Nat):Int) by rw[Int.natCast_pow];rfl]
 omega
theorem Al7 (a:Nat) (bits:Int) (ha:a<4294967296):Sy.Spec Tryz.prog 308 [Di a bits] [] (A3 (lastI a bits)) []:=cT F308 Tryz.ntmps308 fun F hF=>by
 have hr:=Yu a bits
 by_cases hb:0≤bits∧bits≤32
 ·have hrest:=Aar a bits hb
  rw[decide_eq_true hb]at hr
  obtain ⟨k,hk,hk2⟩:∃ k:Nat,(32-bits).toNat=k∧k≤32:=⟨_,rfl,by omega⟩
  have hn:=or_low a k ha hk2
  have hf:=U1 a k bits hb hk
  have h1:=Nat.one_le_two_pow (n:=k)
  have e2:(2:Int) ^ k-1=((2 ^ k-1:Nat):Int):=by
   rw[show (2:Int) ^ k=((2 ^ k:Nat):Int) by rw[Int.natCast_pow];rfl]
   omega
  rw[hk,e2]at hrest
  rw[hf,← hn]
  ((conv=>whnf);repeat((first|refine aF ?_|refine aT ?_);(first|refine rG Γ hm ?_|refine rD Γ hm j_ ?_);conv=>whnf))
  refine c0 hr F370 ?_
  ((first|refine rG Γ hm ?_|refine rD Γ hm j_ ?_);(conv=>whnf);repeat((first|refine aF ?_|refine aT ?_);(first|refine rG Γ hm ?_|refine rD Γ hm j_ ?_);conv=>whnf))
  first | refine cD hrest F371 ?_ | refine c0 hrest F371 ?_
  ((first|refine rG Γ hm ?_|refine rD Γ hm j_ ?_);(conv=>whnf);repeat((first|refine aF ?_|refine aT ?_);(first|refine rG Γ hm ?_|refine rD Γ hm j_ ?_);conv=>whnf))
  first | (refine⟨j_,?_⟩;((conv=>whnf);repeat((first|refine aF ?_|refine aT ?_);(first|refine rG Γ hm ?_|refine rD Γ hm j_ ?_);conv=>whnf))) | skip
  exact dN
 ·rw[decide_eq_false hb]at hr
  have hf:lastI a bits=0:=by rw[lastI,if_neg hb]
  rw[hf]
  ((conv=>whnf);repeat((first|refine aF ?_|refine aT ?_);(first|refine rG Γ hm ?_|refine rD Γ hm j_ ?_);conv=>whnf))
  refine c0 hr F370 ?_
  ((first|refine rG Γ hm ?_|refine rD Γ hm j_ ?_);(conv=>whnf);repeat((first|refine aF ?_|refine aT ?_);(first|refine rG Γ hm ?_|refine rD Γ hm j_ ?_);conv=>whnf))
  exact dN
theorem Apk (a b:Nat) (ha:a<4294967296) (hb:b<4294967296):bits .xor .u32 (a:Int) (b:Int)=((a ^^^ b:Nat):Int):=by
 have x1:(BitVec.ofInt 32 (a:Int)).toNat=a:=by rw[BitVec.ofInt_natCast,BitVec.toNat_ofNat];exact Nat.mod_eq_of_lt z_
 have x2:(BitVec.ofInt 32 (b:Int)).toNat=b:=by rw[BitVec.ofInt_natCast,BitVec.toNat_ofNat];exact Nat.mod_eq_of_lt z_
 show IntKind.u32.wrap (((BitVec.ofInt 32 (a:Int) ^^^ BitVec.ofInt 32 (b:Int)).toNat:Nat):Int)=_
 have hlt:(BitVec.ofInt 32 (a:Int) ^^^ BitVec.ofInt 32 (b:Int)).toNat<4294967296:=BitVec.isLt _
 rw[BitVec.toNat_xor,x1,x2]at hlt ⊢
 rw[IntKind.wrap_u32]
 omega
theorem Anx (a x k:Nat) (ha:a<4294967296) (hx:x<4294967296) (hk:k≤32):(bits .andNot .u32 (bits .xor .u32 (a:Int) (x:Int)) ((2 ^ k-1:Nat):Int) == 0)=decide (a / 2 ^ k=x / 2 ^ k):=by
 have hxl:a ^^^ x<4294967296:=Nat.xor_lt_two_pow (n:=32) ha hx
 rw[Apk a x ha hx,Ys _ k hxl hk]
 have hd:(a ^^^ x)-(a ^^^ x) % 2 ^ k=2 ^ k * ((a ^^^ x) / 2 ^ k):=by have:=Nat.div_add_mod (a ^^^ x) (2 ^ k);omega
 rw[hd,Nat.xor_div_two_pow]
 have h1:=Nat.one_le_two_pow (n:=k)
 by_cases h:a / 2 ^ k=x / 2 ^ k
 ·rw[h,Nat.xor_self]
  simp
 ·rw[decide_eq_false h]
  have:a / 2 ^ k ^^^ x / 2 ^ k≠0:=fun e=>h (by
   have:=congrArg (fun z=>z ^^^ x / 2 ^ k) e
   simpa [Nat.xor_assoc] using this)
  rw[beq_eq_false_iff_ne]
  intro e
  have e:=Int.natCast_eq_zero.1 e
  rcases Nat.mul_eq_zero.1 e with e | e
  ·omega
  ·exact this e
theorem Aka (a x q:Nat) (hq:0<q):(a / q=x / q)↔(a-a % q≤x∧x≤a-a % q+(q-1)):=by
 have h1:=Nat.div_add_mod a q
 have hd:a-a % q=q * (a / q):=by omega
 rw[hd]
 constructor
 ·intro e
  have h2:=Nat.div_add_mod x q
  have h3:=Nat.mod_lt x hq
  rw[← e]at h2
  omega
 ·rintro ⟨h2,h3⟩
  symm
  rw[Nat.div_eq_iff hq]
  generalize a / q=m at *
  have:q * m=m * q:=Nat.mul_comm ..
  constructor<;>omega
def Ha (n:Net):Prop:=∀ x∈n.irbs,0≤x.addr∧x.addr<4294967296
theorem Ho (a bits:Int):Sy.Spec Tryz.prog 358 [Di a bits] [] (Ab (decide (0≤bits∧bits≤32))) []:=cT F358 Tryz.ntmps358 fun F hF=>by
 conv=>whnf
 (repeat' (first | (refine⟨fun h=>?_,fun h=>?_⟩<;>(repeat (first | simp only[decide_eq_true_eq]at h | simp only[decide_eq_false_iff_not]at h))<;>((refine oO ?_))) | (refine Ar rfl (.cons .tmp .nil) ?_ rfl)))
 all_goals (refine congrArg Ab ?_;clear hF;grind)
theorem Ac6 (a bits:Int) (h:0≤bits∧bits≤32):Sy.Spec Tryz.prog 421 [Di a bits] [] (Aa (2 ^ (32-bits).toNat:Nat)) []:=cT F421 Tryz.ntmps421 fun F hF=>by
 obtain ⟨k,hk,hk2⟩:∃ k:Nat,(32-bits).toNat=k∧k≤32:=⟨_,rfl,by omega⟩
 rw[hk]
 conv=>whnf
 refine Dz k (fun j=>[(1,.ptr 1 0),(3,Aa (2 ^ j:Nat)),(4,Aa (bits+j))]) (fun _=>[(1,.box [A3 a,Aa bits])]) [] ⟨⟨Y,Y,Y,Y,congrArg (fun z=>SV.val (.int .i64 z)) qe,Y,q_⟩,⟨.inl Y,Y,q_⟩,Y,Y⟩ ?_
 intro j hj
 have hp:2 ^ j≤2 ^ 32:=Nat.pow_le_pow_right y_ z_
 have e32:(2:Nat) ^ 32=4294967296:=rfl
 have hs:2 ^ (j+1)=2 ^ j * 2:=Nat.pow_succ ..
 rw[e32]at hp
 obtain ⟨q,hq⟩:∃ q:Nat,2 ^ j=q:=⟨_,rfl⟩
 rw[hq]at hp hs ⊢
 refine oO ?_
 refine⟨fun h2=>?_,fun h2=>?_⟩
 ·have hlt:j<k:=by have:=of_decide_eq_true h2;omega
  refine oO ?_
  refine iW ?_
  refine iW ?_
  refine D3 [] hlt ⟨⟨Y,Y,congrArg (fun z=>SV.val (.int .i64 z)) ?_,Y,congrArg (fun z=>SV.val (.int .i64 z)) ?_,Y,q_⟩,⟨.inl Y,Y,q_⟩,Y,Y⟩
  ·rw[hs];omega
  ·omega
 ·have hjk:j=k:=by have:=of_decide_eq_false h2;omega
  subst hjk
  rw[hq]
  refine oO ?_
  exact dN
theorem Ur (a:Nat) (bits:Int) (ha:a<4294967296):Sy.Spec Tryz.prog 359 [Di a bits] [] (A3 (Ed a bits)) []:=cT F359 Tryz.ntmps359 fun F hF=>by
 have hr:=Ho a bits
 by_cases hb:0≤bits∧bits≤32
 ·have hsz:=Ac6 a bits hb
  rw[decide_eq_true hb]at hr
  obtain ⟨k,hk,hk2⟩:∃ k:Nat,(32-bits).toNat=k∧k≤32:=⟨_,rfl,by omega⟩
  have hf:=H2 a k bits hb hk
  have h1:=Nat.one_le_two_pow (n:=k)
  have hp:2 ^ k≤2 ^ 32:=Nat.pow_le_pow_right y_ hk2
  have e32:(2:Nat) ^ 32=4294967296:=rfl
  have hdm:=Nat.div_add_mod a (2 ^ k)
  have hml:=Nat.mod_le a (2 ^ k)
  have hdl:=Nat.div_le_self a (2 ^ k)
  rw[e32]at hp
  rw[hk]at hsz
  rw[hf]
  generalize 2 ^ k=q at *
  have w1:IntKind.i64.wrap (a:Int)=a:=by rw[IntKind.wrap_i64];omega
  have w2:IntKind.i64.wrap ((IntKind.i64.wrap (a:Int)).tdiv (q:Int))=((a / q:Nat):Int):=by
   rw[w1,Int.tdiv_eq_ediv_of_nonneg z_,IntKind.wrap_i64]
   have:((a:Int) / (q:Int))=((a / q:Nat):Int):=by simp
   rw[this]
   obtain ⟨d,hd⟩:∃ d:Nat,a / q=d:=⟨_,rfl⟩
   rw[hd]at hdl ⊢
   omega
  have hmul:((a / q:Nat):Int) * (q:Int)=((q * (a / q):Nat):Int):=by rw[Int.natCast_mul,Int.mul_comm]
  conv=>whnf
  refine c0 hr F358 ?_
  refine oF ?_
  refine cD hsz F421 ?_
  refine oD ?_
  refine⟨by omega,?_⟩
  conv=>whnf
  refine cD hsz F421 ?_
  refine oD ?_
  refine⟨(by rw[w2,hmul];unfold I64;omega),?_⟩
  conv=>whnf
  refine kW ?_
  refine Ar Y (.cons .tmp .nil) ?_ Y
  refine congrArg (fun z=>SV.val (.int .u32 z)) ?_
  rw[w2,hmul,IntKind.wrap_u32]
  omega
 ·rw[decide_eq_false hb]at hr
  have hf:Ed a bits=0:=by rw[Ed,if_neg hb]
  rw[hf]
  conv=>whnf
  refine c0 hr F358 ?_
  refine oT ?_
  exact dN
end Go.Sy.YtjenpnjajjplkaaGreatDoor
namespace Go.Sy.YtjenpnjajjplkaaGreatDoor
open Go.Proofs
def Wx (l:List UInt8):Nat:=l.foldl (fun n c=>n * 256+c.toNat) 0
theorem Zn (l:List UInt8) (c:UInt8):Wx (l++[c])=Wx l * 256+c.toNat:=by
 rw[Wx,List.foldl_append];rfl
theorem Aiz:∀ (k:Nat) (l:List UInt8),l.length=k→Wx l<256 ^ k
 | 0,l,h=>by rw[List.length_eq_zero_iff.1 h];decide
 | k+1,l,h=>by
  have hne:l≠[]:=fun e=>by rw[e]at h;cases h
  have e:=List.dropLast_concat_getLast hne
  have h1:=Aiz k l.dropLast (by rw[List.length_dropLast];omega)
  have h2:=(l.getLast hne).toNat_lt
  rw[← e,Zn,Nat.pow_succ]
  omega
theorem Ajv (l:List UInt8) {j:Nat} (h:j<l.length):Wx (l.take (j+1))=Wx (l.take j) * 256+l[j].toNat:=by
 rw[List.take_succ_eq_append_getElem h,Zn]
def Ot (m:Nat):Bool:=decide (m / 1099511627776 % 2=1)
theorem Aqy (m k:Nat):m &&& 2 ^ k=if m / 2 ^ k % 2=1 then 2 ^ k else 0:=by
 apply Nat.eq_of_testBit_eq
 intro i
 rw[Nat.testBit_and,Nat.testBit_two_pow]
 by_cases hi:k=i
 ·subst hi
  rw[decide_eq_true rfl,Bool.and_true,Nat.testBit_eq_decide_div_mod_eq]
  split
  ·rename_i h;rw[decide_eq_true h,Nat.testBit_two_pow_self]
  ·rename_i h;rw[decide_eq_false h,Nat.zero_testBit]
 ·rw[decide_eq_false hi,Bool.and_false]
  split
  ·rw[Nat.testBit_two_pow,decide_eq_false hi]
  ·rw[Nat.zero_testBit]
theorem Alp (m:Nat) (h:m<18446744073709551616):(bits .and .u64 (m:Int) 1099511627776 != 0)=Ot m:=by
 have e:=bits_and_u64_nat m 1099511627776 h y_
 rw[show ((1099511627776:Nat):Int)=1099511627776 from rfl]at e
 rw[e,show (1099511627776:Nat)=2 ^ 40 from rfl,Aqy,Ot,show (1099511627776:Nat)=2 ^ 40 from rfl]
 split
 ·rename_i h;rw[decide_eq_true h];rfl
 ·rename_i h;rw[decide_eq_false h];rfl
theorem Aoj (m:Nat):decide ((UInt8.ofNat (m / 256 ^ 5)).toNat % 2=1)=Ot m:=by
 rw[Ot]
 refine decide_eq_decide.2 ?_
 rw[show (256:Nat) ^ 5=1099511627776 from rfl,UInt8.toNat_ofNat']
 omega
end Go.Sy.YtjenpnjajjplkaaGreatDoor
