/-
  Sy22 Ty N1 R1 R2 R3 R5 R6 A5 A6 R7 R8 K0 Sy25 Sy26 Sy27 Sy28 Sh E1 N2 N3 N4 E2 E3 N5 N6 N7 E4 E5: parts of a proof, joined by program.
-/
import Derived.Test.YtmelpejjondedaaGreatW2
import Derived.Test.YtmelpejjondedaaGreatProg
import Derived.Laws.Bits64b
import Derived.ChangeKeysEq
import Derived.Below
import Derived.Lib.Join
import Derived.Lib.Strings
import Derived.Lib.Bytealg
namespace Go.Sy
mutual
def frb (d sz:Nat) (x:SV):SV→SV
 | .ptr k o=>bif Nat.beq k d then .ref sz x o else .ptr k o
 | .agg l=>.agg (Yi d sz x l)
 | .tup l=>.tup (Yi d sz x l)
 | .ifc t y=>.ifc t (frb d sz x y)
 | .clo f g l=>.clo f (Yi d sz x g) (Yi d sz x l)
 | y=>y
def Yi (d sz:Nat) (x:SV):List SV→List SV
 | []=>[]
 | y::l=>frb d sz x y::Yi d sz x l
end
mutual
theorem Ac8 {κ κ':Ka} {w:World} {K:Nat→Prop} {d sz:Nat} {x:SV} (st:Step K κ w κ' w) (hx:∀ o v,Rd κ w (.ptr d o) v→Rd κ' w (.ref sz x o) v):∀ (y:SV) (v:Value),Rd κ w y v→Rd κ' w (frb d sz x y) v
 | .ptr k o,v,h=>by
  unfold frb
  by_cases hk:k=d
  ·subst hk;rw[show Nat.beq k k=true from Nat.beq_refl k];exact hx o v h
  ·rw[show Nat.beq k d=false from by cases hb:Nat.beq k d with | false=>rfl | true=>exact absurd (Nat.eq_of_beq_eq_true hb) hk];exact Rd.step st _ _ h
 | .agg l,v,h=>by
  simp only[Rd]at h
  unfold frb
  simp only[Rd]
  obtain ⟨cs,h1,h2,h3⟩:=h
  exact⟨cs,h1,h2,Lp st hx l cs h3⟩
 | .tup l,v,h=>by
  simp only[Rd]at h
  unfold frb
  simp only[Rd]
  obtain ⟨cs,h1,h3⟩:=h
  exact⟨cs,h1,Lp st hx l cs h3⟩
 | .ifc t y,v,h=>by
  simp only[Rd]at h
  unfold frb
  simp only[Rd]
  obtain ⟨u,h1,h3⟩:=h
  exact⟨u,h1,Ac8 st hx y u h3⟩
 | .clo f g l,v,h=>by
  simp only[Rd]at h
  unfold frb
  simp only[Rd]
  obtain ⟨fs,cs,h1,h2,h3⟩:=h
  exact⟨fs,cs,h1,Lp st hx g fs h2,Lp st hx l cs h3⟩
 | .top,v,h=>by unfold frb;exact Rd.step st _ _ h
 | .val u,v,h=>by unfold frb;exact Rd.step st _ _ h
 | .sl sz e l,v,h=>by unfold frb;exact Rd.step st _ _ h
 | .ref sz z o,v,h=>by unfold frb;exact Rd.step st _ _ h
 | .rpt k sz i o,v,h=>by unfold frb;exact Rd.step st _ _ h
 | .osl k,v,h=>by unfold frb;exact Rd.step st _ _ h
theorem Lp {κ κ':Ka} {w:World} {K:Nat→Prop} {d sz:Nat} {x:SV} (st:Step K κ w κ' w) (hx:∀ o v,Rd κ w (.ptr d o) v→Rd κ' w (.ref sz x o) v):∀ (l:List SV) (vs:List Value),RdL κ w l vs→RdL κ' w (Yi d sz x l) vs
 | [],vs,h=>by
  unfold Yi
  simpa [RdL] using h
 | y::l,vs,h=>by
  simp only[RdL]at h
  unfold Yi
  simp only[RdL]
  obtain ⟨v,r,h1,h2,h3⟩:=h
  exact⟨v,r,h1,Ac8 st hx y v h2,Lp st hx l r h3⟩
end
def frbO (d sz:Nat) (x:SV):Ob→Ob
 | .box l=>.box (Yi d sz x l)
 | o=>o
theorem Adn {κ κ':Ka} {w:World} {d sz:Nat} {l:List SV} {x:SV} (h:ObOK κ w d (.box l)) (hl:cellsOf x=l) (hb:x.boxed=true) (_hd:Jg l=true) (hsz:l.length=sz) (ho:∀ b,b<w.heap.size→¬ Own κ b→¬ Own κ' b)
  (hdead:∀ b,(κ d).block? = some b→b<w.heap.size∧¬ Own κ' b) (hxd:x.data=true) (o:Nat) (v:Value) (hv:Rd κ w (.ptr d o) v):Rd κ' w (.ref sz x o) v:=by
 obtain ⟨b,cs,T,fr,e1,e2,e3,e4,e5⟩:=h
 simp only[Rd,e1]at hv
 obtain ⟨h1,h2⟩:=hdead b (by rw[e1];rfl)
 rw[← hl]at e5
 obtain ⟨u,f1,f2⟩:=Rd.of_cells hb e4 e5
 simp only[Rd,RdD]
 refine⟨b,0,u,by rw[Nat.zero_add];exact hv,h2,h1,RdD.keep ⟨Nat.le_refl _,fun _ _ _=>rfl,ho⟩ _ _ (Rd.data _ _ hxd f1),?_,by rw[f2];exact e4,fun j hj=>?_⟩
 ·have:=e5.length
  rw[← hsz,← hl,← this,← f2]
  simp
 ·rw[Nat.zero_add,cell_of_row w b _ cs.toArray T fr e2,← f2]
theorem B0 {C:Cx} {k:List KI} {s:SS} (d sz:Nat) (x:SV) {l:List SV} (h:s.h d=.box l) (hl:cellsOf x=l) (hc:(x.boxed && x.data && Jg l && Nat.beq l.length sz)=true)
  (hg:G C k ⟨fun i=>frb d sz x (s.σ i),fun j=>bif Nat.beq j d then .non else frbO d sz x (s.h j)⟩):G C k s:=fun κ a w hs=>by
 simp only[Bool.and_eq_true]at hc
 obtain ⟨⟨⟨hb,hxd⟩,hd⟩,hsz⟩:=hc
 have hsz:=Nat.eq_of_beq_eq_true hsz
 have hob:=hs.obj d
 rw[h]at hob
 have st:=Eh (κ:=κ) (w:=w) (some d)
 have inv:=Hd hs.inv (some d)
 have hx:∀ o v,Rd κ w (.ptr d o) v→Rd (Ci κ d .dead) w (.ref sz x o) v:=fun o v hv =>
  Adn hob hl hb hd hsz st.keeps.out (fun b hb=>⟨hs.inv.bnd d b hb,by
   rintro (⟨q,hq⟩ | hq)
   ·by_cases hqd:q=d
    ·subst hqd;change (Ci κ q .dead q).block? = some b at hq;rw[Ap]at hq;cases hq
    ·change (Ci κ d .dead q).block? = some b at hq
     rw[Bi _ _ hqd]at hq
     exact hqd (hs.inv.inj q d b hq hb)
   ·exact hs.inv.apart d b hb hq⟩) hxd o v hv
 refine hg (Ci κ d .dead) a w ⟨hs.defers,hs.size,inv,hs.ctx.step inv st,fun j=>Ac8 st hx _ _ (hs.slot j),fun j=>?_⟩
 show ObOK _ w j (bif Nat.beq j d then .non else frbO d sz x (s.h j))
 by_cases hj:j=d
 ·subst hj;rw[show Nat.beq j j=true from Nat.beq_refl j];trivial
 ·rw[show Nat.beq j d=false from by cases hb:Nat.beq j d with | false=>rfl | true=>exact absurd (Nat.eq_of_beq_eq_true hb) hj]
  have hb:=ObOK.step st (fun e=>hj (Option.some.inj e).symm) _ (hs.obj j)
  have h0:=hs.obj j
  show ObOK _ w j (frbO d sz x (s.h j))
  cases hh:s.h j with
  | box m =>
   rw[hh]at h0 hb
   obtain ⟨b,cs,T,fr,e1,e2,e3,e4,e5⟩:=h0
   exact⟨b,cs,T,fr,by show Ci κ d .dead j=_;rw[Bi _ _ hj];exact e1,e2,e3,e4,Lp st hx m cs e5⟩
  | fresh=>rw[hh]at hb;exact hb
  | non=>rw[hh]at hb;exact hb
  | row sz' e' l'=>rw[hh]at hb;exact hb
  | lit sz' svs=>rw[hh]at hb;exact hb
  | glob sz' x' g'=>rw[hh]at hb;exact hb
  | pin b' n' cap' sz' e' l'=>rw[hh]at hb;exact hb
  | dat v' sz' e' l'=>rw[hh]at hb;exact hb
theorem Ao {C:Cx} {k:List KI} {s:SS} (d sz:Nat) {α:Type} (e:α→SV) (h:s.σ d=.val (.slice none 0 0)) (hg:G C k ⟨upd s.σ d (.sl sz e []),s.h⟩):G C k s :=
 G_set d (fun κ w v hv=>by
  rw[h]at hv
  simp only[Rd]at hv
  simp only[Rd,RdD]
  exact .inl ⟨Y,none,0,hv⟩) hg
end Go.Sy
namespace Go.Sy.YtmelpejjondedaaGreat
open Go.Proofs
set_option maxRecDepth 100000
theorem ty1:A3 Tryz.prog 1=some ⟨.func,1,[.nilFunc]⟩:=by kernel_rfl
theorem ty2:A3 Tryz.prog 2=some ⟨.int .i64,1,[.int .i64 0]⟩:=by kernel_rfl
theorem ty3:A3 Tryz.prog 3=some ⟨.int .i64,1,[.int .i64 0]⟩:=by kernel_rfl
theorem ty4:A3 Tryz.prog 4=some ⟨.bool,1,[.bool false]⟩:=by kernel_rfl
theorem ty5:A3 Tryz.prog 5=some ⟨.int .u8,1,[.int .u8 0]⟩:=by kernel_rfl
theorem ty9:A3 Tryz.prog 9=some ⟨.string,1,[.string .empty]⟩:=by kernel_rfl
theorem ty20:A3 Tryz.prog 20=some ⟨.iface,1,[.nilIface]⟩:=by kernel_rfl
theorem ty22:A3 Tryz.prog 22=some ⟨.slice 92 5 48 [.int .i64 0,.int .i64 0,.string .empty,.int .u64 0,.int .u32 0],1,[.slice none 0 0]⟩:=by kernel_rfl
theorem ty23:A3 Tryz.prog 23=some ⟨.slice 81 7 80 [.int .i64 0,.int .i64 0,.int .i64 0,.int .i64 0,.int .i64 0,.string .empty,.slice none 0 0],1,[.slice none 0 0]⟩:=by kernel_rfl
theorem ty24:A3 Tryz.prog 24=some ⟨.slice 167 3 24 [.int .i64 0,.int .i64 0,.int .i64 0],1,[.slice none 0 0]⟩:=by kernel_rfl
theorem ty25:A3 Tryz.prog 25=some ⟨.slice 83 6 64 [.int .i64 0,.int .i64 0,.int .i64 0,.int .i64 0,.int .i64 0,.slice none 0 0],1,[.slice none 0 0]⟩:=by kernel_rfl
theorem ty26:A3 Tryz.prog 26=some ⟨.slice 196 4 32 [.int .i64 0,.int .i64 0,.int .i64 0,.int .u64 0],1,[.slice none 0 0]⟩:=by kernel_rfl
theorem ty27:A3 Tryz.prog 27=some ⟨.slice 86 4 48 [.int .i64 0,.int .i64 0,.int .i64 0,.slice none 0 0],1,[.slice none 0 0]⟩:=by kernel_rfl
theorem ty28:A3 Tryz.prog 28=some ⟨.slice 88 5 80 [.int .i64 0,.int .i64 0,.string .empty,.slice none 0 0,.slice none 0 0],1,[.slice none 0 0]⟩:=by kernel_rfl
theorem ty29:A3 Tryz.prog 29=some ⟨.slice 203 5 40 [.int .i64 0,.int .i64 0,.int .i64 0,.int .u32 0,.int .i64 0],1,[.slice none 0 0]⟩:=by kernel_rfl
theorem ty31:A3 Tryz.prog 31=some ⟨.struct [(0,1),(1,1),(2,1),(3,1),(4,1),(5,1),(6,1),(7,1)],8,[.slice none 0 0,.slice none 0 0,.slice none 0 0,.slice none 0 0,.slice none 0 0,.slice none 0 0,.slice none 0 0,.slice none 0 0]⟩:=by kernel_rfl
theorem ty32:A3 Tryz.prog 32=some ⟨.slice 47 6 80 [.int .i64 0,.int .i64 0,.int .i64 0,.int .i64 0,.slice none 0 0,.slice none 0 0],1,[.slice none 0 0]⟩:=by kernel_rfl
theorem ty36:A3 Tryz.prog 36=some ⟨.slice 67 3 40 [.int .i64 0,.int .i64 0,.slice none 0 0],1,[.slice none 0 0]⟩:=by kernel_rfl
theorem ty37:A3 Tryz.prog 37=some ⟨.int .i64,1,[.int .i64 0]⟩:=by kernel_rfl
theorem ty44:A3 Tryz.prog 44=some ⟨.slice 5 1 1 [.int .u8 0],1,[.slice none 0 0]⟩:=by kernel_rfl
theorem ty45:A3 Tryz.prog 45=some ⟨.slice 4 1 1 [.bool false],1,[.slice none 0 0]⟩:=by kernel_rfl
theorem ty47:A3 Tryz.prog 47=some ⟨.struct [(0,1),(1,1),(2,1),(3,1),(4,1),(5,1)],6,[.int .i64 0,.int .i64 0,.int .i64 0,.int .i64 0,.slice none 0 0,.slice none 0 0]⟩:=by kernel_rfl
theorem ty51:A3 Tryz.prog 51=some ⟨.slice 55 1 24 [.slice none 0 0],1,[.slice none 0 0]⟩:=by kernel_rfl
theorem ty52:A3 Tryz.prog 52=some ⟨.ptr,1,[.pointer none]⟩:=by kernel_rfl
theorem ty55:A3 Tryz.prog 55=some ⟨.slice 137 3 24 [.int .u64 0,.int .i64 0,.int .i64 0],1,[.slice none 0 0]⟩:=by kernel_rfl
theorem ty57:A3 Tryz.prog 57=some ⟨.slice 143 1 24 [.slice none 0 0],1,[.slice none 0 0]⟩:=by kernel_rfl
theorem ty65:A3 Tryz.prog 65=some ⟨.slice 3 1 8 [.int .i64 0],1,[.slice none 0 0]⟩:=by kernel_rfl
theorem ty67:A3 Tryz.prog 67=some ⟨.struct [(0,1),(1,1),(2,1)],3,[.int .i64 0,.int .i64 0,.slice none 0 0]⟩:=by kernel_rfl
theorem ty81:A3 Tryz.prog 81=some ⟨.struct [(0,1),(1,1),(2,1),(3,1),(4,1),(5,1),(6,1)],7,[.int .i64 0,.int .i64 0,.int .i64 0,.int .i64 0,.int .i64 0,.string .empty,.slice none 0 0]⟩:=by kernel_rfl
theorem ty83:A3 Tryz.prog 83=some ⟨.struct [(0,1),(1,1),(2,1),(3,1),(4,1),(5,1)],6,[.int .i64 0,.int .i64 0,.int .i64 0,.int .i64 0,.int .i64 0,.slice none 0 0]⟩:=by kernel_rfl
theorem ty84:A3 Tryz.prog 84=some ⟨.slice 90 1 4 [.int .u32 0],1,[.slice none 0 0]⟩:=by kernel_rfl
theorem ty86:A3 Tryz.prog 86=some ⟨.struct [(0,1),(1,1),(2,1),(3,1)],4,[.int .i64 0,.int .i64 0,.int .i64 0,.slice none 0 0]⟩:=by kernel_rfl
theorem ty88:A3 Tryz.prog 88=some ⟨.struct [(0,1),(1,1),(2,1),(3,1),(4,1)],5,[.int .i64 0,.int .i64 0,.string .empty,.slice none 0 0,.slice none 0 0]⟩:=by kernel_rfl
theorem ty89:A3 Tryz.prog 89=some ⟨.int .u64,1,[.int .u64 0]⟩:=by kernel_rfl
theorem ty90:A3 Tryz.prog 90=some ⟨.int .u32,1,[.int .u32 0]⟩:=by kernel_rfl
theorem ty92:A3 Tryz.prog 92=some ⟨.struct [(0,1),(1,1),(2,1),(3,1),(4,1)],5,[.int .i64 0,.int .i64 0,.string .empty,.int .u64 0,.int .u32 0]⟩:=by kernel_rfl
theorem ty96:A3 Tryz.prog 96=some ⟨.struct [(0,1),(1,1),(2,1),(3,1)],4,[.int .u64 0,.int .u64 0,.int .i64 0,.slice none 0 0]⟩:=by kernel_rfl
theorem ty99:A3 Tryz.prog 99=some ⟨.func,1,[.nilFunc]⟩:=by kernel_rfl
theorem ty104:A3 Tryz.prog 104=some ⟨.struct [(0,1),(1,1),(2,1),(3,4)],7,[.int .i64 0,.int .i64 0,.int .i64 0,.int .u64 0,.int .u64 0,.int .i64 0,.slice none 0 0]⟩:=by kernel_rfl
theorem ty114:A3 Tryz.prog 114=some ⟨.ptr,1,[.pointer none]⟩:=by kernel_rfl
theorem ty119:A3 Tryz.prog 119=some ⟨.struct [(0,0),(0,1)],1,[.int .u32 0]⟩:=by kernel_rfl
theorem ty123:A3 Tryz.prog 123=some ⟨.struct [(0,0),(0,2)],2,[.int .i32 0,.int .u32 0]⟩:=by kernel_rfl
theorem ty125:A3 Tryz.prog 125=some ⟨.struct [(0,0),(0,1),(1,2)],3,[.int .u32 0,.int .i32 0,.int .u32 0]⟩:=by kernel_rfl
theorem ty127:A3 Tryz.prog 127=some ⟨.struct [(0,1),(1,3),(4,1)],5,[.slice none 0 0,.int .u32 0,.int .i32 0,.int .u32 0,.slice none 0 0]⟩:=by kernel_rfl
theorem ty130:A3 Tryz.prog 130=some ⟨.struct [(0,0),(0,0),(0,1)],1,[.int .i64 0]⟩:=by kernel_rfl
theorem ty131:A3 Tryz.prog 131=some ⟨.array 130 64 1,64,[.int .i64 0,.int .i64 0,.int .i64 0,.int .i64 0,.int .i64 0,.int .i64 0,.int .i64 0,.int .i64 0,.int .i64 0,.int .i64 0,.int .i64 0,.int .i64 0,.int .i64 0,.int .i64 0,.int .i64 0,.int .i64 0,.int .i64 0,.int .i64 0,.int .i64 0,.int .i64 0,.int .i64 0,.int .i64 0,.int .i64 0,.int .i64 0,.int .i64 0,.int .i64 0,.int .i64 0,.int .i64 0,.int .i64 0,.int .i64 0,.int .i64 0,.int .i64 0,.int .i64 0,.int .i64 0,.int .i64 0,.int .i64 0,.int .i64 0,.int .i64 0,.int .i64 0,.int .i64 0,.int .i64 0,.int .i64 0,.int .i64 0,.int .i64 0,.int .i64 0,.int .i64 0,.int .i64 0,.int .i64 0,.int .i64 0,.int .i64 0,.int .i64 0,.int .i64 0,.int .i64 0,.int .i64 0,.int .i64 0,.int .i64 0,.int .i64 0,.int .i64 0,.int .i64 0,.int .i64 0,.int .i64 0,.int .i64 0,.int .i64 0,.int .i64 0]⟩:=by kernel_rfl
theorem ty133:A3 Tryz.prog 133=some ⟨.struct [(0,8),(8,1),(9,1),(10,1),(11,1),(12,1),(13,64)],77,[.slice none 0 0,.slice none 0 0,.slice none 0 0,.slice none 0 0,.slice none 0 0,.slice none 0 0,.slice none 0 0,.slice none 0 0,.pointer none,.slice none 0 0,.slice none 0 0,.int .i64 0,.int .i64 0,.int .i64 0,.int .i64 0,.int .i64 0,.int .i64 0,.int .i64 0,.int .i64 0,.int .i64 0,.int .i64 0,.int .i64 0,.int .i64 0,.int .i64 0,.int .i64 0,.int .i64 0,.int .i64 0,.int .i64 0,.int .i64 0,.int .i64 0,.int .i64 0,.int .i64 0,.int .i64 0,.int .i64 0,.int .i64 0,.int .i64 0,.int .i64 0,.int .i64 0,.int .i64 0,.int .i64 0,.int .i64 0,.int .i64 0,.int .i64 0,.int .i64 0,.int .i64 0,.int .i64 0,.int .i64 0,.int .i64 0,.int .i64 0,.int .i64 0,.int .i64 0,.int .i64 0,.int .i64 0,.int .i64 0,.int .i64 0,.int .i64 0,.int .i64 0,.int .i64 0,.int .i64 0,.int .i64 0,.int .i64 0,.int .i64 0,.int .i64 0,.int .i64 0,.int .i64 0,.int .i64 0,.int .i64 0,.int .i64 0,.int .i64 0,.int .i64 0,.int .i64 0,.int .i64 0,.int .i64 0,.int .i64 0,.int .i64 0,.int .i64 0,.int .i64 0]⟩:=by kernel_rfl
theorem ty134:A3 Tryz.prog 134=some ⟨.func,1,[.nilFunc]⟩:=by kernel_rfl
theorem ty137:A3 Tryz.prog 137=some ⟨.struct [(0,1),(1,1),(2,1)],3,[.int .u64 0,.int .i64 0,.int .i64 0]⟩:=by kernel_rfl
theorem ty143:A3 Tryz.prog 143=some ⟨.slice 104 7 72 [.int .i64 0,.int .i64 0,.int .i64 0,.int .u64 0,.int .u64 0,.int .i64 0,.slice none 0 0],1,[.slice none 0 0]⟩:=by kernel_rfl
theorem ty152:A3 Tryz.prog 152=some ⟨.ptr,1,[.pointer none]⟩:=by kernel_rfl
theorem ty154:A3 Tryz.prog 154=some ⟨.struct [(0,1),(1,1),(2,1)],3,[.slice none 0 0,.int .i64 0,.slice none 0 0]⟩:=by kernel_rfl
theorem ty163:A3 Tryz.prog 163=some ⟨.int .u64,1,[.int .u64 0]⟩:=by kernel_rfl
theorem ty167:A3 Tryz.prog 167=some ⟨.struct [(0,1),(1,1),(2,1)],3,[.int .i64 0,.int .i64 0,.int .i64 0]⟩:=by kernel_rfl
theorem ty185:A3 Tryz.prog 185=some ⟨.ptr,1,[.pointer none]⟩:=by kernel_rfl
theorem ty196:A3 Tryz.prog 196=some ⟨.struct [(0,1),(1,1),(2,1),(3,1)],4,[.int .i64 0,.int .i64 0,.int .i64 0,.int .u64 0]⟩:=by kernel_rfl
theorem ty201:A3 Tryz.prog 201=some ⟨.struct [(0,1),(1,1)],2,[.int .u32 0,.int .i64 0]⟩:=by kernel_rfl
theorem ty203:A3 Tryz.prog 203=some ⟨.struct [(0,1),(1,1),(2,1),(3,2)],5,[.int .i64 0,.int .i64 0,.int .i64 0,.int .u32 0,.int .i64 0]⟩:=by kernel_rfl
theorem ty211:A3 Tryz.prog 211=some ⟨.slice 217 9 104 [.int .i64 0,.int .i64 0,.int .i64 0,.slice none 0 0,.int .u64 0,.int .u64 0,.int .i64 0,.slice none 0 0,.int .i64 0],1,[.slice none 0 0]⟩:=by kernel_rfl
theorem ty217:A3 Tryz.prog 217=some ⟨.struct [(0,1),(1,1),(2,1),(3,1),(4,4),(8,1)],9,[.int .i64 0,.int .i64 0,.int .i64 0,.slice none 0 0,.int .u64 0,.int .u64 0,.int .i64 0,.slice none 0 0,.int .i64 0]⟩:=by kernel_rfl
theorem ty221:A3 Tryz.prog 221=some ⟨.func,1,[.nilFunc]⟩:=by kernel_rfl
theorem ty225:A3 Tryz.prog 225=some ⟨.struct [(0,8)],8,[.slice none 0 0,.slice none 0 0,.slice none 0 0,.slice none 0 0,.slice none 0 0,.slice none 0 0,.slice none 0 0,.slice none 0 0]⟩:=by kernel_rfl
theorem ty227:A3 Tryz.prog 227=some ⟨.func,1,[.nilFunc]⟩:=by kernel_rfl
theorem ty229:A3 Tryz.prog 229=some ⟨.func,1,[.nilFunc]⟩:=by kernel_rfl
theorem ty231:A3 Tryz.prog 231=some ⟨.func,1,[.nilFunc]⟩:=by kernel_rfl
theorem ty233:A3 Tryz.prog 233=some ⟨.func,1,[.nilFunc]⟩:=by kernel_rfl
theorem ty236:A3 Tryz.prog 236=some ⟨.func,1,[.nilFunc]⟩:=by kernel_rfl
theorem ty238:A3 Tryz.prog 238=some ⟨.func,1,[.nilFunc]⟩:=by kernel_rfl
theorem ty240:A3 Tryz.prog 240=some ⟨.func,1,[.nilFunc]⟩:=by kernel_rfl
theorem ty272:A3 Tryz.prog 272=some ⟨.struct [(0,8),(8,1),(9,1),(10,1),(11,1)],12,[.slice none 0 0,.slice none 0 0,.slice none 0 0,.slice none 0 0,.slice none 0 0,.slice none 0 0,.slice none 0 0,.slice none 0 0,.slice none 0 0,.slice none 0 0,.slice none 0 0,.slice none 0 0]⟩:=by kernel_rfl
theorem ty275:A3 Tryz.prog 275=some ⟨.func,1,[.nilFunc]⟩:=by kernel_rfl
theorem ty297:A3 Tryz.prog 297=some ⟨.ptr,1,[.pointer none]⟩:=by kernel_rfl
theorem ty299:A3 Tryz.prog 299=some ⟨.ptr,1,[.pointer none]⟩:=by kernel_rfl
theorem ty301:A3 Tryz.prog 301=some ⟨.func,1,[.nilFunc]⟩:=by kernel_rfl
theorem ty319:A3 Tryz.prog 319=some ⟨.struct [(0,1),(1,1),(2,1),(3,1),(4,1),(5,1),(6,1)],7,[.int .i64 0,.int .i64 0,.int .i64 0,.int .i64 0,.int .u32 0,.int .u32 0,.slice none 0 0]⟩:=by kernel_rfl
theorem ty336:A3 Tryz.prog 336=some ⟨.func,1,[.nilFunc]⟩:=by kernel_rfl
theorem ty340:A3 Tryz.prog 340=some ⟨.ptr,1,[.pointer none]⟩:=by kernel_rfl
theorem ty342:A3 Tryz.prog 342=some ⟨.slice 345 3 24 [.int .i64 0,.int .i64 0,.int .i64 0],1,[.slice none 0 0]⟩:=by kernel_rfl
theorem ty345:A3 Tryz.prog 345=some ⟨.struct [(0,1),(1,1),(2,1)],3,[.int .i64 0,.int .i64 0,.int .i64 0]⟩:=by kernel_rfl
theorem ty348:A3 Tryz.prog 348=some ⟨.slice 349 5 40 [.int .i64 0,.int .i64 0,.int .i64 0,.int .i64 0,.int .i64 0],1,[.slice none 0 0]⟩:=by kernel_rfl
theorem ty349:A3 Tryz.prog 349=some ⟨.struct [(0,1),(1,1),(2,1),(3,1),(4,1)],5,[.int .i64 0,.int .i64 0,.int .i64 0,.int .i64 0,.int .i64 0]⟩:=by kernel_rfl
theorem ty353:A3 Tryz.prog 353=some ⟨.func,1,[.nilFunc]⟩:=by kernel_rfl
theorem ty354:A3 Tryz.prog 354=some ⟨.ptr,1,[.pointer none]⟩:=by kernel_rfl
theorem ty359:A3 Tryz.prog 359=some ⟨.struct [(0,8),(8,1),(9,1),(10,1),(11,1)],12,[.slice none 0 0,.slice none 0 0,.slice none 0 0,.slice none 0 0,.slice none 0 0,.slice none 0 0,.slice none 0 0,.slice none 0 0,.slice none 0 0,.int .i64 0,.int .i64 0,.slice none 0 0]⟩:=by kernel_rfl
theorem ty367:A3 Tryz.prog 367=some ⟨.struct [(0,8)],8,[.slice none 0 0,.slice none 0 0,.slice none 0 0,.slice none 0 0,.slice none 0 0,.slice none 0 0,.slice none 0 0,.slice none 0 0]⟩:=by kernel_rfl
theorem ty371:A3 Tryz.prog 371=some ⟨.ptr,1,[.pointer none]⟩:=by kernel_rfl
theorem ty392:A3 Tryz.prog 392=some ⟨.iface,1,[.nilIface]⟩:=by kernel_rfl
theorem ty409:A3 Tryz.prog 409=some ⟨.ptr,1,[.pointer none]⟩:=by kernel_rfl
theorem ty411:A3 Tryz.prog 411=some ⟨.ptr,1,[.pointer none]⟩:=by kernel_rfl
theorem ty413:A3 Tryz.prog 413=some ⟨.ptr,1,[.pointer none]⟩:=by kernel_rfl
theorem ty415:A3 Tryz.prog 415=some ⟨.struct [(0,7),(7,1)],8,[.int .i64 0,.int .i64 0,.int .i64 0,.int .i64 0,.int .u32 0,.int .u32 0,.slice none 0 0,.int .i64 0]⟩:=by kernel_rfl
theorem ty417:A3 Tryz.prog 417=some ⟨.struct [(0,8),(8,1)],9,[.int .i64 0,.int .i64 0,.int .i64 0,.int .i64 0,.int .u32 0,.int .u32 0,.slice none 0 0,.int .i64 0,.int .i64 0]⟩:=by kernel_rfl
theorem ty421:A3 Tryz.prog 421=some ⟨.func,1,[.nilFunc]⟩:=by kernel_rfl
theorem ty427:A3 Tryz.prog 427=some ⟨.array 3 4 1,4,[.int .i64 0,.int .i64 0,.int .i64 0,.int .i64 0]⟩:=by kernel_rfl
theorem ty439:A3 Tryz.prog 439=some ⟨.func,1,[.nilFunc]⟩:=by kernel_rfl
theorem tq92:Mi Tryz.prog 92=some [.int .i64,.int .i64,.string,.int .u64,.int .u32]:=by kernel_rfl
theorem tq137:Mi Tryz.prog 137=some [.int .u64,.int .i64,.int .i64]:=by kernel_rfl
theorem tq167:Mi Tryz.prog 167=some [.int .i64,.int .i64,.int .i64]:=by kernel_rfl
theorem tq196:Mi Tryz.prog 196=some [.int .i64,.int .i64,.int .i64,.int .u64]:=by kernel_rfl
theorem tq201:Mi Tryz.prog 201=some [.int .u32,.int .i64]:=by kernel_rfl
theorem tq345:Mi Tryz.prog 345=some [.int .i64,.int .i64,.int .i64]:=by kernel_rfl
theorem tq349:Mi Tryz.prog 349=some [.int .i64,.int .i64,.int .i64,.int .i64,.int .i64]:=by kernel_rfl
def tab:Tr TI:=(.nd 134 (⟨.func,1,[.nilFunc]⟩) (.nd 52 (⟨.ptr,1,[.pointer none]⟩) (.nd 26 (⟨.slice 196 4 32 [.int .i64 0,.int .i64 0,.int .i64 0,.int .u64 0],1,[.slice none 0 0]⟩) (.nd 9 (⟨.string,1,[.string .empty]⟩) (.nd 3 (⟨.int .i64,1,[.int .i64 0]⟩) (.nd 2 (⟨.int .i64,1,[.int .i64 0]⟩) (.nd 1 (⟨.func,1,[.nilFunc]⟩) .lf .lf) .lf) (.nd 5 (⟨.int .u8,1,[.int .u8 0]⟩) (.nd 4 (⟨.bool,1,[.bool false]⟩) .lf .lf) .lf)) (.nd 23 (⟨.slice 81 7 80 [.int .i64 0,.int .i64 0,.int .i64 0,.int .i64 0,.int .i64 0,.string .empty,.slice none 0 0],1,[.slice none 0 0]⟩) (.nd 22 (⟨.slice 92 5 48 [.int .i64 0,.int .i64 0,.string .empty,.int .u64 0,.int .u32 0],1,[.slice none 0 0]⟩) (.nd 20 (⟨.iface,1,[.nilIface]⟩) .lf .lf) .lf) (.nd 25 (⟨.slice 83 6 64 [.int .i64 0,.int .i64 0,.int .i64 0,.int .i64 0,.int .i64 0,.slice none 0 0],1,[.slice none 0 0]⟩) (.nd 24 (⟨.slice 167 3 24 [.int .i64 0,.int .i64 0,.int .i64 0],1,[.slice none 0 0]⟩) .lf .lf) .lf))) (.nd 36 (⟨.slice 67 3 40 [.int .i64 0,.int .i64 0,.slice none 0 0],1,[.slice none 0 0]⟩) (.nd 29 (⟨.slice 203 5 40 [.int .i64 0,.int .i64 0,.int .i64 0,.int .u32 0,.int .i64 0],1,[.slice none 0 0]⟩) (.nd 28 (⟨.slice 88 5 80 [.int .i64 0,.int .i64 0,.string .empty,.slice none 0 0,.slice none 0 0],1,[.slice none 0 0]⟩) (.nd 27 (⟨.slice 86 4 48 [.int .i64 0,.int .i64 0,.int .i64 0,.slice none 0 0],1,[.slice none 0 0]⟩) .lf .lf) .lf) (.nd 32 (⟨.slice 47 6 80 [.int .i64 0,.int .i64 0,.int .i64 0,.int .i64 0,.slice none 0 0,.slice none 0 0],1,[.slice none 0 0]⟩) (.nd 31 (⟨.struct [(0,1),(1,1),(2,1),(3,1),(4,1),(5,1),(6,1),(7,1)],8,[.slice none 0 0,.slice none 0 0,.slice none 0 0,.slice none 0 0,.slice none 0 0,.slice none 0 0,.slice none 0 0,.slice none 0 0]⟩) .lf .lf) .lf)) (.nd 45 (⟨.slice 4 1 1 [.bool false],1,[.slice none 0 0]⟩) (.nd 44 (⟨.slice 5 1 1 [.int .u8 0],1,[.slice none 0 0]⟩) (.nd 37 (⟨.int .i64,1,[.int .i64 0]⟩) .lf .lf) .lf) (.nd 51 (⟨.slice 55 1 24 [.slice none 0 0],1,[.slice none 0 0]⟩) (.nd 47 (⟨.struct [(0,1),(1,1),(2,1),(3,1),(4,1),(5,1)],6,[.int .i64 0,.int .i64 0,.int .i64 0,.int .i64 0,.slice none 0 0,.slice none 0 0]⟩) .lf .lf) .lf)))) (.nd 92 (⟨.struct [(0,1),(1,1),(2,1),(3,1),(4,1)],5,[.int .i64 0,.int .i64 0,.string .empty,.int .u64 0,.int .u32 0]⟩) (.nd 83 (⟨.struct [(0,1),(1,1),(2,1),(3,1),(4,1),(5,1)],6,[.int .i64 0,.int .i64 0,.int .i64 0,.int .i64 0,.int .i64 0,.slice none 0 0]⟩) (.nd 65 (⟨.slice 3 1 8 [.int .i64 0],1,[.slice none 0 0]⟩) (.nd 57 (⟨.slice 143 1 24 [.slice none 0 0],1,[.slice none 0 0]⟩) (.nd 55 (⟨.slice 137 3 24 [.int .u64 0,.int .i64 0,.int .i64 0],1,[.slice none 0 0]⟩) .lf .lf) .lf) (.nd 81 (⟨.struct [(0,1),(1,1),(2,1),(3,1),(4,1),(5,1),(6,1)],7,[.int .i64 0,.int .i64 0,.int .i64 0,.int .i64 0,.int .i64 0,.string .empty,.slice none 0 0]⟩) (.nd 67 (⟨.struct [(0,1),(1,1),(2,1)],3,[.int .i64 0,.int .i64 0,.slice none 0 0]⟩) .lf .lf) .lf)) (.nd 88 (⟨.struct [(0,1),(1,1),(2,1),(3,1),(4,1)],5,[.int .i64 0,.int .i64 0,.string .empty,.slice none 0 0,.slice none 0 0]⟩) (.nd 86 (⟨.struct [(0,1),(1,1),(2,1),(3,1)],4,[.int .i64 0,.int .i64 0,.int .i64 0,.slice none 0 0]⟩) (.nd 84 (⟨.slice 90 1 4 [.int .u32 0],1,[.slice none 0 0]⟩) .lf .lf) .lf) (.nd 90 (⟨.int .u32,1,[.int .u32 0]⟩) (.nd 89 (⟨.int .u64,1,[.int .u64 0]⟩) .lf .lf) .lf))) (.nd 123 (⟨.struct [(0,0),(0,2)],2,[.int .i32 0,.int .u32 0]⟩) (.nd 104 (⟨.struct [(0,1),(1,1),(2,1),(3,4)],7,[.int .i64 0,.int .i64 0,.int .i64 0,.int .u64 0,.int .u64 0,.int .i64 0,.slice none 0 0]⟩) (.nd 99 (⟨.func,1,[.nilFunc]⟩) (.nd 96 (⟨.struct [(0,1),(1,1),(2,1),(3,1)],4,[.int .u64 0,.int .u64 0,.int .i64 0,.slice none 0 0]⟩) .lf .lf) .lf) (.nd 119 (⟨.struct [(0,0),(0,1)],1,[.int .u32 0]⟩) (.nd 114 (⟨.ptr,1,[.pointer none]⟩) .lf .lf) .lf)) (.nd 130 (⟨.struct [(0,0),(0,0),(0,1)],1,[.int .i64 0]⟩) (.nd 127 (⟨.struct [(0,1),(1,3),(4,1)],5,[.slice none 0 0,.int .u32 0,.int .i32 0,.int .u32 0,.slice none 0 0]⟩) (.nd 125 (⟨.struct [(0,0),(0,1),(1,2)],3,[.int .u32 0,.int .i32 0,.int .u32 0]⟩) .lf .lf) .lf) (.nd 133 (⟨.struct [(0,8),(8,1),(9,1),(10,1),(11,1),(12,1),(13,64)],77,[.slice none 0 0,.slice none 0 0,.slice none 0 0,.slice none 0 0,.slice none 0 0,.slice none 0 0,.slice none 0 0,.slice none 0 0,.pointer none,.slice none 0 0,.slice none 0 0,.int .i64 0,.int .i64 0,.int .i64 0,.int .i64 0,.int .i64 0,.int .i64 0,.int .i64 0,.int .i64 0,.int .i64 0,.int .i64 0,.int .i64 0,.int .i64 0,.int .i64 0,.int .i64 0,.int .i64 0,.int .i64 0,.int .i64 0,.int .i64 0,.int .i64 0,.int .i64 0,.int .i64 0,.int .i64 0,.int .i64 0,.int .i64 0,.int .i64 0,.int .i64 0,.int .i64 0,.int .i64 0,.int .i64 0,.int .i64 0,.int .i64 0,.int .i64 0,.int .i64 0,.int .i64 0,.int .i64 0,.int .i64 0,.int .i64 0,.int .i64 0,.int .i64 0,.int .i64 0,.int .i64 0,.int .i64 0,.int .i64 0,.int .i64 0,.int .i64 0,.int .i64 0,.int .i64 0,.int .i64 0,.int .i64 0,.int .i64 0,.int .i64 0,.int .i64 0,.int .i64 0,.int .i64 0,.int .i64 0,.int .i64 0,.int .i64 0,.int .i64 0,.int .i64 0,.int .i64 0,.int .i64 0,.int .i64 0,.int .i64 0,.int .i64 0,.int .i64 0,.int .i64 0]⟩) (.nd 131 (⟨.array 130 64 1,64,[.int .i64 0,.int .i64 0,.int .i64 0,.int .i64 0,.int .i64 0,.int .i64 0,.int .i64 0,.int .i64 0,.int .i64 0,.int .i64 0,.int .i64 0,.int .i64 0,.int .i64 0,.int .i64 0,.int .i64 0,.int .i64 0,.int .i64 0,.int .i64 0,.int .i64 0,.int .i64 0,.int .i64 0,.int .i64 0,.int .i64 0,.int .i64 0,.int .i64 0,.int .i64 0,.int .i64 0,.int .i64 0,.int .i64 0,.int .i64 0,.int .i64 0,.int .i64 0,.int .i64 0,.int .i64 0,.int .i64 0,.int .i64 0,.int .i64 0,.int .i64 0,.int .i64 0,.int .i64 0,.int .i64 0,.int .i64 0,.int .i64 0,.int .i64 0,.int .i64 0,.int .i64 0,.int .i64 0,.int .i64 0,.int .i64 0,.int .i64 0,.int .i64 0,.int .i64 0,.int .i64 0,.int .i64 0,.int .i64 0,.int .i64 0,.int .i64 0,.int .i64 0,.int .i64 0,.int .i64 0,.int .i64 0,.int .i64 0,.int .i64 0,.int .i64 0]⟩) .lf .lf) .lf))))) (.nd 297 (⟨.ptr,1,[.pointer none]⟩) (.nd 217 (⟨.struct [(0,1),(1,1),(2,1),(3,1),(4,4),(8,1)],9,[.int .i64 0,.int .i64 0,.int .i64 0,.slice none 0 0,.int .u64 0,.int .u64 0,.int .i64 0,.slice none 0 0,.int .i64 0]⟩) (.nd 167 (⟨.struct [(0,1),(1,1),(2,1)],3,[.int .i64 0,.int .i64 0,.int .i64 0]⟩) (.nd 152 (⟨.ptr,1,[.pointer none]⟩) (.nd 143 (⟨.slice 104 7 72 [.int .i64 0,.int .i64 0,.int .i64 0,.int .u64 0,.int .u64 0,.int .i64 0,.slice none 0 0],1,[.slice none 0 0]⟩) (.nd 137 (⟨.struct [(0,1),(1,1),(2,1)],3,[.int .u64 0,.int .i64 0,.int .i64 0]⟩) .lf .lf) .lf) (.nd 163 (⟨.int .u64,1,[.int .u64 0]⟩) (.nd 154 (⟨.struct [(0,1),(1,1),(2,1)],3,[.slice none 0 0,.int .i64 0,.slice none 0 0]⟩) .lf .lf) .lf)) (.nd 201 (⟨.struct [(0,1),(1,1)],2,[.int .u32 0,.int .i64 0]⟩) (.nd 196 (⟨.struct [(0,1),(1,1),(2,1),(3,1)],4,[.int .i64 0,.int .i64 0,.int .i64 0,.int .u64 0]⟩) (.nd 185 (⟨.ptr,1,[.pointer none]⟩) .lf .lf) .lf) (.nd 211 (⟨.slice 217 9 104 [.int .i64 0,.int .i64 0,.int .i64 0,.slice none 0 0,.int .u64 0,.int .u64 0,.int .i64 0,.slice none 0 0,.int .i64 0],1,[.slice none 0 0]⟩) (.nd 203 (⟨.struct [(0,1),(1,1),(2,1),(3,2)],5,[.int .i64 0,.int .i64 0,.int .i64 0,.int .u32 0,.int .i64 0]⟩) .lf .lf) .lf))) (.nd 233 (⟨.func,1,[.nilFunc]⟩) (.nd 227 (⟨.func,1,[.nilFunc]⟩) (.nd 225 (⟨.struct [(0,8)],8,[.slice none 0 0,.slice none 0 0,.slice none 0 0,.slice none 0 0,.slice none 0 0,.slice none 0 0,.slice none 0 0,.slice none 0 0]⟩) (.nd 221 (⟨.func,1,[.nilFunc]⟩) .lf .lf) .lf) (.nd 231 (⟨.func,1,[.nilFunc]⟩) (.nd 229 (⟨.func,1,[.nilFunc]⟩) .lf .lf) .lf)) (.nd 240 (⟨.func,1,[.nilFunc]⟩) (.nd 238 (⟨.func,1,[.nilFunc]⟩) (.nd 236 (⟨.func,1,[.nilFunc]⟩) .lf .lf) .lf) (.nd 275 (⟨.func,1,[.nilFunc]⟩) (.nd 272 (⟨.struct [(0,8),(8,1),(9,1),(10,1),(11,1)],12,[.slice none 0 0,.slice none 0 0,.slice none 0 0,.slice none 0 0,.slice none 0 0,.slice none 0 0,.slice none 0 0,.slice none 0 0,.slice none 0 0,.slice none 0 0,.slice none 0 0,.slice none 0 0]⟩) .lf .lf) .lf)))) (.nd 359 (⟨.struct [(0,8),(8,1),(9,1),(10,1),(11,1)],12,[.slice none 0 0,.slice none 0 0,.slice none 0 0,.slice none 0 0,.slice none 0 0,.slice none 0 0,.slice none 0 0,.slice none 0 0,.slice none 0 0,.int .i64 0,.int .i64 0,.slice none 0 0]⟩) (.nd 342 (⟨.slice 345 3 24 [.int .i64 0,.int .i64 0,.int .i64 0],1,[.slice none 0 0]⟩) (.nd 319 (⟨.struct [(0,1),(1,1),(2,1),(3,1),(4,1),(5,1),(6,1)],7,[.int .i64 0,.int .i64 0,.int .i64 0,.int .i64 0,.int .u32 0,.int .u32 0,.slice none 0 0]⟩) (.nd 301 (⟨.func,1,[.nilFunc]⟩) (.nd 299 (⟨.ptr,1,[.pointer none]⟩) .lf .lf) .lf) (.nd 340 (⟨.ptr,1,[.pointer none]⟩) (.nd 336 (⟨.func,1,[.nilFunc]⟩) .lf .lf) .lf)) (.nd 349 (⟨.struct [(0,1),(1,1),(2,1),(3,1),(4,1)],5,[.int .i64 0,.int .i64 0,.int .i64 0,.int .i64 0,.int .i64 0]⟩) (.nd 348 (⟨.slice 349 5 40 [.int .i64 0,.int .i64 0,.int .i64 0,.int .i64 0,.int .i64 0],1,[.slice none 0 0]⟩) (.nd 345 (⟨.struct [(0,1),(1,1),(2,1)],3,[.int .i64 0,.int .i64 0,.int .i64 0]⟩) .lf .lf) .lf) (.nd 354 (⟨.ptr,1,[.pointer none]⟩) (.nd 353 (⟨.func,1,[.nilFunc]⟩) .lf .lf) .lf))) (.nd 413 (⟨.ptr,1,[.pointer none]⟩) (.nd 392 (⟨.iface,1,[.nilIface]⟩) (.nd 371 (⟨.ptr,1,[.pointer none]⟩) (.nd 367 (⟨.struct [(0,8)],8,[.slice none 0 0,.slice none 0 0,.slice none 0 0,.slice none 0 0,.slice none 0 0,.slice none 0 0,.slice none 0 0,.slice none 0 0]⟩) .lf .lf) .lf) (.nd 411 (⟨.ptr,1,[.pointer none]⟩) (.nd 409 (⟨.ptr,1,[.pointer none]⟩) .lf .lf) .lf)) (.nd 421 (⟨.func,1,[.nilFunc]⟩) (.nd 417 (⟨.struct [(0,8),(8,1)],9,[.int .i64 0,.int .i64 0,.int .i64 0,.int .i64 0,.int .u32 0,.int .u32 0,.slice none 0 0,.int .i64 0,.int .i64 0]⟩) (.nd 415 (⟨.struct [(0,7),(7,1)],8,[.int .i64 0,.int .i64 0,.int .i64 0,.int .i64 0,.int .u32 0,.int .u32 0,.slice none 0 0,.int .i64 0]⟩) .lf .lf) .lf) (.nd 439 (⟨.func,1,[.nilFunc]⟩) (.nd 427 (⟨.array 3 4 1,4,[.int .i64 0,.int .i64 0,.int .i64 0,.int .i64 0]⟩) .lf .lf) .lf))))))
def etab:Tr (List EK):=(.nd 196 ([.int .i64,.int .i64,.int .i64,.int .u64]) (.nd 137 ([.int .u64,.int .i64,.int .i64]) (.nd 92 ([.int .i64,.int .i64,.string,.int .u64,.int .u32]) .lf .lf) (.nd 167 ([.int .i64,.int .i64,.int .i64]) .lf .lf)) (.nd 345 ([.int .i64,.int .i64,.int .i64]) (.nd 201 ([.int .u32,.int .i64]) .lf .lf) (.nd 349 ([.int .i64,.int .i64,.int .i64,.int .i64,.int .i64]) .lf .lf)))
theorem tab_ok:tab.all (fun t i=>A3 Tryz.prog t=some i):=⟨ty134,⟨ty52,⟨ty26,⟨ty9,⟨ty3,⟨ty2,⟨ty1,trivial,trivial⟩,trivial⟩,⟨ty5,⟨ty4,trivial,trivial⟩,trivial⟩⟩,⟨ty23,⟨ty22,⟨ty20,trivial,trivial⟩,trivial⟩,⟨ty25,⟨ty24,trivial,trivial⟩,trivial⟩⟩⟩,⟨ty36,⟨ty29,⟨ty28,⟨ty27,trivial,trivial⟩,trivial⟩,⟨ty32,⟨ty31,trivial,trivial⟩,trivial⟩⟩,⟨ty45,⟨ty44,⟨ty37,trivial,trivial⟩,trivial⟩,⟨ty51,⟨ty47,trivial,trivial⟩,trivial⟩⟩⟩⟩,⟨ty92,⟨ty83,⟨ty65,⟨ty57,⟨ty55,trivial,trivial⟩,trivial⟩,⟨ty81,⟨ty67,trivial,trivial⟩,trivial⟩⟩,⟨ty88,⟨ty86,⟨ty84,trivial,trivial⟩,trivial⟩,⟨ty90,⟨ty89,trivial,trivial⟩,trivial⟩⟩⟩,⟨ty123,⟨ty104,⟨ty99,⟨ty96,trivial,trivial⟩,trivial⟩,⟨ty119,⟨ty114,trivial,trivial⟩,trivial⟩⟩,⟨ty130,⟨ty127,⟨ty125,trivial,trivial⟩,trivial⟩,⟨ty133,⟨ty131,trivial,trivial⟩,trivial⟩⟩⟩⟩⟩,⟨ty297,⟨ty217,⟨ty167,⟨ty152,⟨ty143,⟨ty137,trivial,trivial⟩,trivial⟩,⟨ty163,⟨ty154,trivial,trivial⟩,trivial⟩⟩,⟨ty201,⟨ty196,⟨ty185,trivial,trivial⟩,trivial⟩,⟨ty211,⟨ty203,trivial,trivial⟩,trivial⟩⟩⟩,⟨ty233,⟨ty227,⟨ty225,⟨ty221,trivial,trivial⟩,trivial⟩,⟨ty231,⟨ty229,trivial,trivial⟩,trivial⟩⟩,⟨ty240,⟨ty238,⟨ty236,trivial,trivial⟩,trivial⟩,⟨ty275,⟨ty272,trivial,trivial⟩,trivial⟩⟩⟩⟩,⟨ty359,⟨ty342,⟨ty319,⟨ty301,⟨ty299,trivial,trivial⟩,trivial⟩,⟨ty340,⟨ty336,trivial,trivial⟩,trivial⟩⟩,⟨ty349,⟨ty348,⟨ty345,trivial,trivial⟩,trivial⟩,⟨ty354,⟨ty353,trivial,trivial⟩,trivial⟩⟩⟩,⟨ty413,⟨ty392,⟨ty371,⟨ty367,trivial,trivial⟩,trivial⟩,⟨ty411,⟨ty409,trivial,trivial⟩,trivial⟩⟩,⟨ty421,⟨ty417,⟨ty415,trivial,trivial⟩,trivial⟩,⟨ty439,⟨ty427,trivial,trivial⟩,trivial⟩⟩⟩⟩⟩⟩
theorem Ald:etab.all (fun t i=>Mi Tryz.prog t=some i):=⟨tq196,⟨tq137,⟨tq92,trivial,trivial⟩,⟨tq167,trivial,trivial⟩⟩,⟨tq345,⟨tq201,trivial,trivial⟩,⟨tq349,trivial,trivial⟩⟩⟩
def Γ:TyE Tryz.prog:=⟨⟨fun t=>tab.look t,fun _ _ h=>Akj (Tr.look_ok tab_ok h)⟩,fun t=>etab.look t,fun _ _ h=>Ajk (Tr.look_ok Ald h)⟩
theorem hm:Tryz.prog.follows .mixedOrders=true:=by kernel_rfl
theorem F7:Fun Tryz.prog 7 Tryz.f7 (Ae Tryz.f7):=⟨Tryz.func7,rfl,by kernel_rfl⟩
theorem F10:Fun Tryz.prog 10 Tryz.f10 (Ae Tryz.f10):=⟨Tryz.func10,rfl,by kernel_rfl⟩
theorem F11:Fun Tryz.prog 11 Tryz.f11 (Ae Tryz.f11):=⟨Tryz.func11,rfl,by kernel_rfl⟩
theorem F18:Fun Tryz.prog 18 Tryz.f18 (Ae Tryz.f18):=⟨Tryz.func18,rfl,by kernel_rfl⟩
theorem F19:Fun Tryz.prog 19 Tryz.f19 (Ae Tryz.f19):=⟨Tryz.func19,rfl,by kernel_rfl⟩
theorem F21:Fun Tryz.prog 21 Tryz.f21 (Ae Tryz.f21):=⟨Tryz.func21,rfl,by kernel_rfl⟩
theorem F23:Fun Tryz.prog 23 Tryz.f23 (Ae Tryz.f23):=⟨Tryz.func23,rfl,by kernel_rfl⟩
theorem F24:Fun Tryz.prog 24 Tryz.f24 (Ae Tryz.f24):=⟨Tryz.func24,rfl,by kernel_rfl⟩
theorem F26:Fun Tryz.prog 26 Tryz.f26 (Ae Tryz.f26):=⟨Tryz.func26,rfl,by kernel_rfl⟩
theorem F27:Fun Tryz.prog 27 Tryz.f27 (Ae Tryz.f27):=⟨Tryz.func27,rfl,by kernel_rfl⟩
theorem F28:Fun Tryz.prog 28 Tryz.f28 (Ae Tryz.f28):=⟨Tryz.func28,rfl,by kernel_rfl⟩
theorem F33:Fun Tryz.prog 33 Tryz.f33 (Ae Tryz.f33):=⟨Tryz.func33,rfl,by kernel_rfl⟩
theorem F43:Fun Tryz.prog 43 Tryz.f43 (Ae Tryz.f43):=⟨Tryz.func43,rfl,by kernel_rfl⟩
theorem F44:Fun Tryz.prog 44 Tryz.f44 (Ae Tryz.f44):=⟨Tryz.func44,rfl,by kernel_rfl⟩
theorem F45:Fun Tryz.prog 45 Tryz.f45 (Ae Tryz.f45):=⟨Tryz.func45,rfl,by kernel_rfl⟩
theorem F46:Fun Tryz.prog 46 Tryz.f46 (Ae Tryz.f46):=⟨Tryz.func46,rfl,by kernel_rfl⟩
theorem F47:Fun Tryz.prog 47 Tryz.f47 (Ae Tryz.f47):=⟨Tryz.func47,rfl,by kernel_rfl⟩
theorem F48:Fun Tryz.prog 48 Tryz.f48 (Ae Tryz.f48):=⟨Tryz.func48,rfl,by kernel_rfl⟩
theorem F51:Fun Tryz.prog 51 Tryz.f51 (Ae Tryz.f51):=⟨Tryz.func51,rfl,by kernel_rfl⟩
theorem F52:Fun Tryz.prog 52 Tryz.f52 (Ae Tryz.f52):=⟨Tryz.func52,rfl,by kernel_rfl⟩
theorem F53:Fun Tryz.prog 53 Tryz.f53 (Ae Tryz.f53):=⟨Tryz.func53,rfl,by kernel_rfl⟩
theorem F54:Fun Tryz.prog 54 Tryz.f54 (Ae Tryz.f54):=⟨Tryz.func54,rfl,by kernel_rfl⟩
theorem F55:Fun Tryz.prog 55 Tryz.f55 (Ae Tryz.f55):=⟨Tryz.func55,rfl,by kernel_rfl⟩
theorem F57:Fun Tryz.prog 57 Tryz.f57 (Ae Tryz.f57):=⟨Tryz.func57,rfl,by kernel_rfl⟩
theorem F63:Fun Tryz.prog 63 Tryz.f63 (Ae Tryz.f63):=⟨Tryz.func63,rfl,by kernel_rfl⟩
theorem F64:Fun Tryz.prog 64 Tryz.f64 (Ae Tryz.f64):=⟨Tryz.func64,rfl,by kernel_rfl⟩
theorem F65:Fun Tryz.prog 65 Tryz.f65 (Ae Tryz.f65):=⟨Tryz.func65,rfl,by kernel_rfl⟩
theorem F66:Fun Tryz.prog 66 Tryz.f66 (Ae Tryz.f66):=⟨Tryz.func66,rfl,by kernel_rfl⟩
theorem F67:Fun Tryz.prog 67 Tryz.f67 (Ae Tryz.f67):=⟨Tryz.func67,rfl,by kernel_rfl⟩
theorem F72:Fun Tryz.prog 72 Tryz.f72 (Ae Tryz.f72):=⟨Tryz.func72,rfl,by kernel_rfl⟩
theorem F83:Fun Tryz.prog 83 Tryz.f83 (Ae Tryz.f83):=⟨Tryz.func83,rfl,by kernel_rfl⟩
theorem F84:Fun Tryz.prog 84 Tryz.f84 (Ae Tryz.f84):=⟨Tryz.func84,rfl,by kernel_rfl⟩
theorem F85:Fun Tryz.prog 85 Tryz.f85 (Ae Tryz.f85):=⟨Tryz.func85,rfl,by kernel_rfl⟩
theorem F86:Fun Tryz.prog 86 Tryz.f86 (Ae Tryz.f86):=⟨Tryz.func86,rfl,by kernel_rfl⟩
theorem F87:Fun Tryz.prog 87 Tryz.f87 (Ae Tryz.f87):=⟨Tryz.func87,rfl,by kernel_rfl⟩
theorem F88:Fun Tryz.prog 88 Tryz.f88 (Ae Tryz.f88):=⟨Tryz.func88,rfl,by kernel_rfl⟩
theorem F89:Fun Tryz.prog 89 Tryz.f89 (Ae Tryz.f89):=⟨Tryz.func89,rfl,by kernel_rfl⟩
theorem F90:Fun Tryz.prog 90 Tryz.f90 (Ae Tryz.f90):=⟨Tryz.func90,rfl,by kernel_rfl⟩
theorem F91:Fun Tryz.prog 91 Tryz.f91 (Ae Tryz.f91):=⟨Tryz.func91,rfl,by kernel_rfl⟩
theorem F92:Fun Tryz.prog 92 Tryz.f92 (Ae Tryz.f92):=⟨Tryz.func92,rfl,by kernel_rfl⟩
theorem F93:Fun Tryz.prog 93 Tryz.f93 (Ae Tryz.f93):=⟨Tryz.func93,rfl,by kernel_rfl⟩
theorem F94:Fun Tryz.prog 94 Tryz.f94 (Ae Tryz.f94):=⟨Tryz.func94,rfl,by kernel_rfl⟩
theorem F95:Fun Tryz.prog 95 Tryz.f95 (Ae Tryz.f95):=⟨Tryz.func95,rfl,by kernel_rfl⟩
theorem F96:Fun Tryz.prog 96 Tryz.f96 (Ae Tryz.f96):=⟨Tryz.func96,rfl,by kernel_rfl⟩
theorem F97:Fun Tryz.prog 97 Tryz.f97 (Ae Tryz.f97):=⟨Tryz.func97,rfl,by kernel_rfl⟩
theorem F98:Fun Tryz.prog 98 Tryz.f98 (Ae Tryz.f98):=⟨Tryz.func98,rfl,by kernel_rfl⟩
theorem F99:Fun Tryz.prog 99 Tryz.f99 (Ae Tryz.f99):=⟨Tryz.func99,rfl,by kernel_rfl⟩
theorem F100:Fun Tryz.prog 100 Tryz.f100 (Ae Tryz.f100):=⟨Tryz.func100,rfl,by kernel_rfl⟩
theorem F101:Fun Tryz.prog 101 Tryz.f101 (Ae Tryz.f101):=⟨Tryz.func101,rfl,by kernel_rfl⟩
theorem F102:Fun Tryz.prog 102 Tryz.f102 (Ae Tryz.f102):=⟨Tryz.func102,rfl,by kernel_rfl⟩
theorem F103:Fun Tryz.prog 103 Tryz.f103 (Ae Tryz.f103):=⟨Tryz.func103,rfl,by kernel_rfl⟩
theorem F104:Fun Tryz.prog 104 Tryz.f104 (Ae Tryz.f104):=⟨Tryz.func104,rfl,by kernel_rfl⟩
theorem F105:Fun Tryz.prog 105 Tryz.f105 (Ae Tryz.f105):=⟨Tryz.func105,rfl,by kernel_rfl⟩
theorem F106:Fun Tryz.prog 106 Tryz.f106 (Ae Tryz.f106):=⟨Tryz.func106,rfl,by kernel_rfl⟩
theorem F107:Fun Tryz.prog 107 Tryz.f107 (Ae Tryz.f107):=⟨Tryz.func107,rfl,by kernel_rfl⟩
theorem F110:Fun Tryz.prog 110 Tryz.f110 (Ae Tryz.f110):=⟨Tryz.func110,rfl,by kernel_rfl⟩
theorem F111:Fun Tryz.prog 111 Tryz.f111 (Ae Tryz.f111):=⟨Tryz.func111,rfl,by kernel_rfl⟩
theorem F112:Fun Tryz.prog 112 Tryz.f112 (Ae Tryz.f112):=⟨Tryz.func112,rfl,by kernel_rfl⟩
theorem F113:Fun Tryz.prog 113 Tryz.f113 (Ae Tryz.f113):=⟨Tryz.func113,rfl,by kernel_rfl⟩
theorem F114:Fun Tryz.prog 114 Tryz.f114 (Ae Tryz.f114):=⟨Tryz.func114,rfl,by kernel_rfl⟩
theorem F115:Fun Tryz.prog 115 Tryz.f115 (Ae Tryz.f115):=⟨Tryz.func115,rfl,by kernel_rfl⟩
theorem F116:Fun Tryz.prog 116 Tryz.f116 (Ae Tryz.f116):=⟨Tryz.func116,rfl,by kernel_rfl⟩
theorem F117:Fun Tryz.prog 117 Tryz.f117 (Ae Tryz.f117):=⟨Tryz.func117,rfl,by kernel_rfl⟩
theorem F118:Fun Tryz.prog 118 Tryz.f118 (Ae Tryz.f118):=⟨Tryz.func118,rfl,by kernel_rfl⟩
theorem F119:Fun Tryz.prog 119 Tryz.f119 (Ae Tryz.f119):=⟨Tryz.func119,rfl,by kernel_rfl⟩
theorem F120:Fun Tryz.prog 120 Tryz.f120 (Ae Tryz.f120):=⟨Tryz.func120,rfl,by kernel_rfl⟩
theorem F121:Fun Tryz.prog 121 Tryz.f121 (Ae Tryz.f121):=⟨Tryz.func121,rfl,by kernel_rfl⟩
theorem F122:Fun Tryz.prog 122 Tryz.f122 (Ae Tryz.f122):=⟨Tryz.func122,rfl,by kernel_rfl⟩
theorem F123:Fun Tryz.prog 123 Tryz.f123 (Ae Tryz.f123):=⟨Tryz.func123,rfl,by kernel_rfl⟩
theorem F124:Fun Tryz.prog 124 Tryz.f124 (Ae Tryz.f124):=⟨Tryz.func124,rfl,by kernel_rfl⟩
theorem F125:Fun Tryz.prog 125 Tryz.f125 (Ae Tryz.f125):=⟨Tryz.func125,rfl,by kernel_rfl⟩
theorem F126:Fun Tryz.prog 126 Tryz.f126 (Ae Tryz.f126):=⟨Tryz.func126,rfl,by kernel_rfl⟩
theorem F127:Fun Tryz.prog 127 Tryz.f127 (Ae Tryz.f127):=⟨Tryz.func127,rfl,by kernel_rfl⟩
theorem F128:Fun Tryz.prog 128 Tryz.f128 (Ae Tryz.f128):=⟨Tryz.func128,rfl,by kernel_rfl⟩
theorem F129:Fun Tryz.prog 129 Tryz.f129 (Ae Tryz.f129):=⟨Tryz.func129,rfl,by kernel_rfl⟩
theorem F130:Fun Tryz.prog 130 Tryz.f130 (Ae Tryz.f130):=⟨Tryz.func130,rfl,by kernel_rfl⟩
theorem F131:Fun Tryz.prog 131 Tryz.f131 (Ae Tryz.f131):=⟨Tryz.func131,rfl,by kernel_rfl⟩
theorem F132:Fun Tryz.prog 132 Tryz.f132 (Ae Tryz.f132):=⟨Tryz.func132,rfl,by kernel_rfl⟩
theorem F154:Fun Tryz.prog 154 Tryz.f154 (Ae Tryz.f154):=⟨Tryz.func154,rfl,by kernel_rfl⟩
theorem F155:Fun Tryz.prog 155 Tryz.f155 (Ae Tryz.f155):=⟨Tryz.func155,rfl,by kernel_rfl⟩
theorem F156:Fun Tryz.prog 156 Tryz.f156 (Ae Tryz.f156):=⟨Tryz.func156,rfl,by kernel_rfl⟩
theorem F157:Fun Tryz.prog 157 Tryz.f157 (Ae Tryz.f157):=⟨Tryz.func157,rfl,by kernel_rfl⟩
theorem F158:Fun Tryz.prog 158 Tryz.f158 (Ae Tryz.f158):=⟨Tryz.func158,rfl,by kernel_rfl⟩
theorem F159:Fun Tryz.prog 159 Tryz.f159 (Ae Tryz.f159):=⟨Tryz.func159,rfl,by kernel_rfl⟩
theorem F160:Fun Tryz.prog 160 Tryz.f160 (Ae Tryz.f160):=⟨Tryz.func160,rfl,by kernel_rfl⟩
theorem F161:Fun Tryz.prog 161 Tryz.f161 (Ae Tryz.f161):=⟨Tryz.func161,rfl,by kernel_rfl⟩
theorem F162:Fun Tryz.prog 162 Tryz.f162 (Ae Tryz.f162):=⟨Tryz.func162,rfl,by kernel_rfl⟩
theorem F163:Fun Tryz.prog 163 Tryz.f163 (Ae Tryz.f163):=⟨Tryz.func163,rfl,by kernel_rfl⟩
theorem F164:Fun Tryz.prog 164 Tryz.f164 (Ae Tryz.f164):=⟨Tryz.func164,rfl,by kernel_rfl⟩
theorem F165:Fun Tryz.prog 165 Tryz.f165 (Ae Tryz.f165):=⟨Tryz.func165,rfl,by kernel_rfl⟩
theorem F166:Fun Tryz.prog 166 Tryz.f166 (Ae Tryz.f166):=⟨Tryz.func166,rfl,by kernel_rfl⟩
theorem F167:Fun Tryz.prog 167 Tryz.f167 (Ae Tryz.f167):=⟨Tryz.func167,rfl,by kernel_rfl⟩
theorem F168:Fun Tryz.prog 168 Tryz.f168 (Ae Tryz.f168):=⟨Tryz.func168,rfl,by kernel_rfl⟩
theorem F169:Fun Tryz.prog 169 Tryz.f169 (Ae Tryz.f169):=⟨Tryz.func169,rfl,by kernel_rfl⟩
theorem F170:Fun Tryz.prog 170 Tryz.f170 (Ae Tryz.f170):=⟨Tryz.func170,rfl,by kernel_rfl⟩
theorem F171:Fun Tryz.prog 171 Tryz.f171 (Ae Tryz.f171):=⟨Tryz.func171,rfl,by kernel_rfl⟩
theorem F172:Fun Tryz.prog 172 Tryz.f172 (Ae Tryz.f172):=⟨Tryz.func172,rfl,by kernel_rfl⟩
theorem F173:Fun Tryz.prog 173 Tryz.f173 (Ae Tryz.f173):=⟨Tryz.func173,rfl,by kernel_rfl⟩
theorem F174:Fun Tryz.prog 174 Tryz.f174 (Ae Tryz.f174):=⟨Tryz.func174,rfl,by kernel_rfl⟩
theorem F175:Fun Tryz.prog 175 Tryz.f175 (Ae Tryz.f175):=⟨Tryz.func175,rfl,by kernel_rfl⟩
theorem F176:Fun Tryz.prog 176 Tryz.f176 (Ae Tryz.f176):=⟨Tryz.func176,rfl,by kernel_rfl⟩
theorem F177:Fun Tryz.prog 177 Tryz.f177 (Ae Tryz.f177):=⟨Tryz.func177,rfl,by kernel_rfl⟩
theorem F178:Fun Tryz.prog 178 Tryz.f178 (Ae Tryz.f178):=⟨Tryz.func178,rfl,by kernel_rfl⟩
theorem F179:Fun Tryz.prog 179 Tryz.f179 (Ae Tryz.f179):=⟨Tryz.func179,rfl,by kernel_rfl⟩
theorem F180:Fun Tryz.prog 180 Tryz.f180 (Ae Tryz.f180):=⟨Tryz.func180,rfl,by kernel_rfl⟩
theorem F181:Fun Tryz.prog 181 Tryz.f181 (Ae Tryz.f181):=⟨Tryz.func181,rfl,by kernel_rfl⟩
theorem F182:Fun Tryz.prog 182 Tryz.f182 (Ae Tryz.f182):=⟨Tryz.func182,rfl,by kernel_rfl⟩
theorem F183:Fun Tryz.prog 183 Tryz.f183 (Ae Tryz.f183):=⟨Tryz.func183,rfl,by kernel_rfl⟩
theorem F184:Fun Tryz.prog 184 Tryz.f184 (Ae Tryz.f184):=⟨Tryz.func184,rfl,by kernel_rfl⟩
theorem F185:Fun Tryz.prog 185 Tryz.f185 (Ae Tryz.f185):=⟨Tryz.func185,rfl,by kernel_rfl⟩
theorem F186:Fun Tryz.prog 186 Tryz.f186 (Ae Tryz.f186):=⟨Tryz.func186,rfl,by kernel_rfl⟩
theorem F187:Fun Tryz.prog 187 Tryz.f187 (Ae Tryz.f187):=⟨Tryz.func187,rfl,by kernel_rfl⟩
theorem F190:Fun Tryz.prog 190 Tryz.f190 (Ae Tryz.f190):=⟨Tryz.func190,rfl,by kernel_rfl⟩
theorem F191:Fun Tryz.prog 191 Tryz.f191 (Ae Tryz.f191):=⟨Tryz.func191,rfl,by kernel_rfl⟩
theorem F192:Fun Tryz.prog 192 Tryz.f192 (Ae Tryz.f192):=⟨Tryz.func192,rfl,by kernel_rfl⟩
theorem F193:Fun Tryz.prog 193 Tryz.f193 (Ae Tryz.f193):=⟨Tryz.func193,rfl,by kernel_rfl⟩
theorem F194:Fun Tryz.prog 194 Tryz.f194 (Ae Tryz.f194):=⟨Tryz.func194,rfl,by kernel_rfl⟩
theorem F195:Fun Tryz.prog 195 Tryz.f195 (Ae Tryz.f195):=⟨Tryz.func195,rfl,by kernel_rfl⟩
theorem F196:Fun Tryz.prog 196 Tryz.f196 (Ae Tryz.f196):=⟨Tryz.func196,rfl,by kernel_rfl⟩
theorem F197:Fun Tryz.prog 197 Tryz.f197 (Ae Tryz.f197):=⟨Tryz.func197,rfl,by kernel_rfl⟩
theorem F198:Fun Tryz.prog 198 Tryz.f198 (Ae Tryz.f198):=⟨Tryz.func198,rfl,by kernel_rfl⟩
theorem F199:Fun Tryz.prog 199 Tryz.f199 (Ae Tryz.f199):=⟨Tryz.func199,rfl,by kernel_rfl⟩
theorem F200:Fun Tryz.prog 200 Tryz.f200 (Ae Tryz.f200):=⟨Tryz.func200,rfl,by kernel_rfl⟩
theorem F226:Fun Tryz.prog 226 Tryz.f226 (Ae Tryz.f226):=⟨Tryz.func226,rfl,by kernel_rfl⟩
theorem F227:Fun Tryz.prog 227 Tryz.f227 (Ae Tryz.f227):=⟨Tryz.func227,rfl,by kernel_rfl⟩
theorem F228:Fun Tryz.prog 228 Tryz.f228 (Ae Tryz.f228):=⟨Tryz.func228,rfl,by kernel_rfl⟩
theorem F229:Fun Tryz.prog 229 Tryz.f229 (Ae Tryz.f229):=⟨Tryz.func229,rfl,by kernel_rfl⟩
theorem F230:Fun Tryz.prog 230 Tryz.f230 (Ae Tryz.f230):=⟨Tryz.func230,rfl,by kernel_rfl⟩
theorem F231:Fun Tryz.prog 231 Tryz.f231 (Ae Tryz.f231):=⟨Tryz.func231,rfl,by kernel_rfl⟩
theorem F232:Fun Tryz.prog 232 Tryz.f232 (Ae Tryz.f232):=⟨Tryz.func232,rfl,by kernel_rfl⟩
theorem F233:Fun Tryz.prog 233 Tryz.f233 (Ae Tryz.f233):=⟨Tryz.func233,rfl,by kernel_rfl⟩
theorem F234:Fun Tryz.prog 234 Tryz.f234 (Ae Tryz.f234):=⟨Tryz.func234,rfl,by kernel_rfl⟩
theorem F235:Fun Tryz.prog 235 Tryz.f235 (Ae Tryz.f235):=⟨Tryz.func235,rfl,by kernel_rfl⟩
theorem F236:Fun Tryz.prog 236 Tryz.f236 (Ae Tryz.f236):=⟨Tryz.func236,rfl,by kernel_rfl⟩
theorem F237:Fun Tryz.prog 237 Tryz.f237 (Ae Tryz.f237):=⟨Tryz.func237,rfl,by kernel_rfl⟩
theorem F238:Fun Tryz.prog 238 Tryz.f238 (Ae Tryz.f238):=⟨Tryz.func238,rfl,by kernel_rfl⟩
theorem F239:Fun Tryz.prog 239 Tryz.f239 (Ae Tryz.f239):=⟨Tryz.func239,rfl,by kernel_rfl⟩
theorem F240:Fun Tryz.prog 240 Tryz.f240 (Ae Tryz.f240):=⟨Tryz.func240,rfl,by kernel_rfl⟩
theorem F241:Fun Tryz.prog 241 Tryz.f241 (Ae Tryz.f241):=⟨Tryz.func241,rfl,by kernel_rfl⟩
theorem F242:Fun Tryz.prog 242 Tryz.f242 (Ae Tryz.f242):=⟨Tryz.func242,rfl,by kernel_rfl⟩
theorem F243:Fun Tryz.prog 243 Tryz.f243 (Ae Tryz.f243):=⟨Tryz.func243,rfl,by kernel_rfl⟩
theorem F244:Fun Tryz.prog 244 Tryz.f244 (Ae Tryz.f244):=⟨Tryz.func244,rfl,by kernel_rfl⟩
theorem F245:Fun Tryz.prog 245 Tryz.f245 (Ae Tryz.f245):=⟨Tryz.func245,rfl,by kernel_rfl⟩
theorem F246:Fun Tryz.prog 246 Tryz.f246 (Ae Tryz.f246):=⟨Tryz.func246,rfl,by kernel_rfl⟩
theorem F247:Fun Tryz.prog 247 Tryz.f247 (Ae Tryz.f247):=⟨Tryz.func247,rfl,by kernel_rfl⟩
theorem F248:Fun Tryz.prog 248 Tryz.f248 (Ae Tryz.f248):=⟨Tryz.func248,rfl,by kernel_rfl⟩
theorem F249:Fun Tryz.prog 249 Tryz.f249 (Ae Tryz.f249):=⟨Tryz.func249,rfl,by kernel_rfl⟩
theorem F250:Fun Tryz.prog 250 Tryz.f250 (Ae Tryz.f250):=⟨Tryz.func250,rfl,by kernel_rfl⟩
theorem F251:Fun Tryz.prog 251 Tryz.f251 (Ae Tryz.f251):=⟨Tryz.func251,rfl,by kernel_rfl⟩
theorem F252:Fun Tryz.prog 252 Tryz.f252 (Ae Tryz.f252):=⟨Tryz.func252,rfl,by kernel_rfl⟩
theorem F253:Fun Tryz.prog 253 Tryz.f253 (Ae Tryz.f253):=⟨Tryz.func253,rfl,by kernel_rfl⟩
theorem F254:Fun Tryz.prog 254 Tryz.f254 (Ae Tryz.f254):=⟨Tryz.func254,rfl,by kernel_rfl⟩
theorem F255:Fun Tryz.prog 255 Tryz.f255 (Ae Tryz.f255):=⟨Tryz.func255,rfl,by kernel_rfl⟩
theorem F256:Fun Tryz.prog 256 Tryz.f256 (Ae Tryz.f256):=⟨Tryz.func256,rfl,by kernel_rfl⟩
theorem F258:Fun Tryz.prog 258 Tryz.f258 (Ae Tryz.f258):=⟨Tryz.func258,rfl,by kernel_rfl⟩
theorem F259:Fun Tryz.prog 259 Tryz.f259 (Ae Tryz.f259):=⟨Tryz.func259,rfl,by kernel_rfl⟩
theorem F260:Fun Tryz.prog 260 Tryz.f260 (Ae Tryz.f260):=⟨Tryz.func260,rfl,by kernel_rfl⟩
theorem F261:Fun Tryz.prog 261 Tryz.f261 (Ae Tryz.f261):=⟨Tryz.func261,rfl,by kernel_rfl⟩
theorem F262:Fun Tryz.prog 262 Tryz.f262 (Ae Tryz.f262):=⟨Tryz.func262,rfl,by kernel_rfl⟩
theorem F263:Fun Tryz.prog 263 Tryz.f263 (Ae Tryz.f263):=⟨Tryz.func263,rfl,by kernel_rfl⟩
theorem F264:Fun Tryz.prog 264 Tryz.f264 (Ae Tryz.f264):=⟨Tryz.func264,rfl,by kernel_rfl⟩
theorem F281:Fun Tryz.prog 281 Tryz.f281 (Ae Tryz.f281):=⟨Tryz.func281,rfl,by kernel_rfl⟩
theorem F282:Fun Tryz.prog 282 Tryz.f282 (Ae Tryz.f282):=⟨Tryz.func282,rfl,by kernel_rfl⟩
theorem F283:Fun Tryz.prog 283 Tryz.f283 (Ae Tryz.f283):=⟨Tryz.func283,rfl,by kernel_rfl⟩
theorem F284:Fun Tryz.prog 284 Tryz.f284 (Ae Tryz.f284):=⟨Tryz.func284,rfl,by kernel_rfl⟩
theorem F285:Fun Tryz.prog 285 Tryz.f285 (Ae Tryz.f285):=⟨Tryz.func285,rfl,by kernel_rfl⟩
theorem F286:Fun Tryz.prog 286 Tryz.f286 (Ae Tryz.f286):=⟨Tryz.func286,rfl,by kernel_rfl⟩
theorem F287:Fun Tryz.prog 287 Tryz.f287 (Ae Tryz.f287):=⟨Tryz.func287,rfl,by kernel_rfl⟩
theorem F288:Fun Tryz.prog 288 Tryz.f288 (Ae Tryz.f288):=⟨Tryz.func288,rfl,by kernel_rfl⟩
theorem F289:Fun Tryz.prog 289 Tryz.f289 (Ae Tryz.f289):=⟨Tryz.func289,rfl,by kernel_rfl⟩
theorem F290:Fun Tryz.prog 290 Tryz.f290 (Ae Tryz.f290):=⟨Tryz.func290,rfl,by kernel_rfl⟩
theorem F291:Fun Tryz.prog 291 Tryz.f291 (Ae Tryz.f291):=⟨Tryz.func291,rfl,by kernel_rfl⟩
theorem F292:Fun Tryz.prog 292 Tryz.f292 (Ae Tryz.f292):=⟨Tryz.func292,rfl,by kernel_rfl⟩
theorem F293:Fun Tryz.prog 293 Tryz.f293 (Ae Tryz.f293):=⟨Tryz.func293,rfl,by kernel_rfl⟩
theorem F294:Fun Tryz.prog 294 Tryz.f294 (Ae Tryz.f294):=⟨Tryz.func294,rfl,by kernel_rfl⟩
theorem F295:Fun Tryz.prog 295 Tryz.f295 (Ae Tryz.f295):=⟨Tryz.func295,rfl,by kernel_rfl⟩
theorem F296:Fun Tryz.prog 296 Tryz.f296 (Ae Tryz.f296):=⟨Tryz.func296,rfl,by kernel_rfl⟩
theorem F297:Fun Tryz.prog 297 Tryz.f297 (Ae Tryz.f297):=⟨Tryz.func297,rfl,by kernel_rfl⟩
theorem F298:Fun Tryz.prog 298 Tryz.f298 (Ae Tryz.f298):=⟨Tryz.func298,rfl,by kernel_rfl⟩
theorem F299:Fun Tryz.prog 299 Tryz.f299 (Ae Tryz.f299):=⟨Tryz.func299,rfl,by kernel_rfl⟩
theorem F300:Fun Tryz.prog 300 Tryz.f300 (Ae Tryz.f300):=⟨Tryz.func300,rfl,by kernel_rfl⟩
theorem F301:Fun Tryz.prog 301 Tryz.f301 (Ae Tryz.f301):=⟨Tryz.func301,rfl,by kernel_rfl⟩
theorem F302:Fun Tryz.prog 302 Tryz.f302 (Ae Tryz.f302):=⟨Tryz.func302,rfl,by kernel_rfl⟩
theorem F303:Fun Tryz.prog 303 Tryz.f303 (Ae Tryz.f303):=⟨Tryz.func303,rfl,by kernel_rfl⟩
theorem F304:Fun Tryz.prog 304 Tryz.f304 (Ae Tryz.f304):=⟨Tryz.func304,rfl,by kernel_rfl⟩
theorem F305:Fun Tryz.prog 305 Tryz.f305 (Ae Tryz.f305):=⟨Tryz.func305,rfl,by kernel_rfl⟩
theorem F306:Fun Tryz.prog 306 Tryz.f306 (Ae Tryz.f306):=⟨Tryz.func306,rfl,by kernel_rfl⟩
theorem F307:Fun Tryz.prog 307 Tryz.f307 (Ae Tryz.f307):=⟨Tryz.func307,rfl,by kernel_rfl⟩
theorem F308:Fun Tryz.prog 308 Tryz.f308 (Ae Tryz.f308):=⟨Tryz.func308,rfl,by kernel_rfl⟩
theorem F309:Fun Tryz.prog 309 Tryz.f309 (Ae Tryz.f309):=⟨Tryz.func309,rfl,by kernel_rfl⟩
theorem F310:Fun Tryz.prog 310 Tryz.f310 (Ae Tryz.f310):=⟨Tryz.func310,rfl,by kernel_rfl⟩
theorem F311:Fun Tryz.prog 311 Tryz.f311 (Ae Tryz.f311):=⟨Tryz.func311,rfl,by kernel_rfl⟩
theorem F316:Fun Tryz.prog 316 Tryz.f316 (Ae Tryz.f316):=⟨Tryz.func316,rfl,by kernel_rfl⟩
theorem F317:Fun Tryz.prog 317 Tryz.f317 (Ae Tryz.f317):=⟨Tryz.func317,rfl,by kernel_rfl⟩
theorem F318:Fun Tryz.prog 318 Tryz.f318 (Ae Tryz.f318):=⟨Tryz.func318,rfl,by kernel_rfl⟩
theorem F319:Fun Tryz.prog 319 Tryz.f319 (Ae Tryz.f319):=⟨Tryz.func319,rfl,by kernel_rfl⟩
theorem F320:Fun Tryz.prog 320 Tryz.f320 (Ae Tryz.f320):=⟨Tryz.func320,rfl,by kernel_rfl⟩
theorem F321:Fun Tryz.prog 321 Tryz.f321 (Ae Tryz.f321):=⟨Tryz.func321,rfl,by kernel_rfl⟩
theorem F322:Fun Tryz.prog 322 Tryz.f322 (Ae Tryz.f322):=⟨Tryz.func322,rfl,by kernel_rfl⟩
theorem F327:Fun Tryz.prog 327 Tryz.f327 (Ae Tryz.f327):=⟨Tryz.func327,rfl,by kernel_rfl⟩
theorem F329:Fun Tryz.prog 329 Tryz.f329 (Ae Tryz.f329):=⟨Tryz.func329,rfl,by kernel_rfl⟩
theorem F330:Fun Tryz.prog 330 Tryz.f330 (Ae Tryz.f330):=⟨Tryz.func330,rfl,by kernel_rfl⟩
theorem F331:Fun Tryz.prog 331 Tryz.f331 (Ae Tryz.f331):=⟨Tryz.func331,rfl,by kernel_rfl⟩
theorem F332:Fun Tryz.prog 332 Tryz.f332 (Ae Tryz.f332):=⟨Tryz.func332,rfl,by kernel_rfl⟩
theorem F333:Fun Tryz.prog 333 Tryz.f333 (Ae Tryz.f333):=⟨Tryz.func333,rfl,by kernel_rfl⟩
theorem F338:Fun Tryz.prog 338 Tryz.f338 (Ae Tryz.f338):=⟨Tryz.func338,rfl,by kernel_rfl⟩
theorem F339:Fun Tryz.prog 339 Tryz.f339 (Ae Tryz.f339):=⟨Tryz.func339,rfl,by kernel_rfl⟩
theorem F340:Fun Tryz.prog 340 Tryz.f340 (Ae Tryz.f340):=⟨Tryz.func340,rfl,by kernel_rfl⟩
theorem F343:Fun Tryz.prog 343 Tryz.f343 (Ae Tryz.f343):=⟨Tryz.func343,rfl,by kernel_rfl⟩
theorem F344:Fun Tryz.prog 344 Tryz.f344 (Ae Tryz.f344):=⟨Tryz.func344,rfl,by kernel_rfl⟩
theorem F345:Fun Tryz.prog 345 Tryz.f345 (Ae Tryz.f345):=⟨Tryz.func345,rfl,by kernel_rfl⟩
theorem F346:Fun Tryz.prog 346 Tryz.f346 (Ae Tryz.f346):=⟨Tryz.func346,rfl,by kernel_rfl⟩
theorem F347:Fun Tryz.prog 347 Tryz.f347 (Ae Tryz.f347):=⟨Tryz.func347,rfl,by kernel_rfl⟩
theorem F357:Fun Tryz.prog 357 Tryz.f357 (Ae Tryz.f357):=⟨Tryz.func357,rfl,by kernel_rfl⟩
theorem F384:Fun Tryz.prog 384 Tryz.f384 (Ae Tryz.f384):=⟨Tryz.func384,rfl,by kernel_rfl⟩
theorem F385:Fun Tryz.prog 385 Tryz.f385 (Ae Tryz.f385):=⟨Tryz.func385,rfl,by kernel_rfl⟩
theorem F386:Fun Tryz.prog 386 Tryz.f386 (Ae Tryz.f386):=⟨Tryz.func386,rfl,by kernel_rfl⟩
theorem F387:Fun Tryz.prog 387 Tryz.f387 (Ae Tryz.f387):=⟨Tryz.func387,rfl,by kernel_rfl⟩
theorem rg {F:Fr} {n:Nat} {B:Exit→Act→World→Prop} {bn:List Nat} {hbn:∀ k,F.k0 k≠.new→k∈bn} {k:List KI} {s:SS} (h:Je ⟨Tryz.prog,Γ.toTy,F,n,B,bn,hbn⟩ Γ 400 k s):G ⟨Tryz.prog,Γ.toTy,F,n,B,bn,hbn⟩ k s:=rG Γ hm h
theorem rd {F:Fr} {n:Nat} {B:Exit→Act→World→Prop} {bn:List Nat} {hbn:∀ k,F.k0 k≠.new→k∈bn} {k:List KI} {s:SS} {all:Array Oper} {done:List Stp} {rest:List Oper} (hs:all.toList=done.map (·.o)++rest) (h:Qb ⟨Tryz.prog,Γ.toTy,F,n,B,bn,hbn⟩ Γ 400 k all done rest s):DR ⟨Tryz.prog,Γ.toTy,F,n,B,bn,hbn⟩ k all done rest s:=rD Γ hm hs h
end Go.Sy.YtmelpejjondedaaGreat
namespace Go.Sy.YtmelpejjondedaaGreat
open Go.Proofs
structure Device where
 (row prio:Int) (name:ByteArray) (mac vtep:Int)
structure Port where
 (row dev native cost link:Int) (name:ByteArray) (tagged:List Int)
structure Link where
 (row a b:Int)
structure Domain where
 (dev vlan vni irb row:Int) (peers:List Int)
structure Static where
 (row domain port mac:Int)
structure Flood where
 (row dev vni:Int) (addrs:List Int)
structure Vrf where
 (row dev:Int) (name:ByteArray) (imports exports:List Int)
structure Irb where
 (row domain vrf addr bits:Int)
structure Net where
 (devices:List Device) (ports:List Port) (links:List Link) (domains:List Domain) (statics:List Static) (floods:List Flood) (vrfs:List Vrf) (irbs:List Irb)
def Bh (d:Device):SV:=.agg [Aa d.row,Aa d.prio,Wh d.name,A7 d.mac,Cd d.vtep]
def A9 (p:Port):SV:=.agg [Aa p.row,Aa p.dev,Aa p.native,Aa p.cost,Aa p.link,Wh p.name,.sl 1 Aa p.tagged]
def Cf (l:Link):SV:=.agg [Aa l.row,Aa l.a,Aa l.b]
def Au (d:Domain):SV:=.agg [Aa d.dev,Aa d.vlan,Aa d.vni,Aa d.irb,Aa d.row,.sl 1 Aa d.peers]
def Bf (s:Static):SV:=.agg [Aa s.row,Aa s.domain,Aa s.port,A7 s.mac]
def Bw (f:Flood):SV:=.agg [Aa f.row,Aa f.dev,Aa f.vni,.sl 1 Cd f.addrs]
def Ct (v:Vrf):SV:=.agg [Aa v.row,Aa v.dev,Wh v.name,.sl 1 Aa v.imports,.sl 1 Aa v.exports]
def Dn (i:Irb):SV:=.agg [Aa i.row,Aa i.domain,Aa i.vrf,Cd i.addr,Aa i.bits]
def Z7 (n:Net):List SV:=[.sl 5 Bh n.devices,.sl 7 A9 n.ports,.sl 3 Cf n.links,.sl 6 Au n.domains,.sl 4 Bf n.statics,.sl 4 Bw n.floods,.sl 5 Ct n.vrfs,.sl 5 Dn n.irbs]
def Aq (n:Net):SV:=.agg [.sl 5 Bh n.devices,.sl 7 A9 n.ports,.sl 3 Cf n.links,.sl 6 Au n.domains,.sl 4 Bf n.statics,.sl 4 Bw n.floods,.sl 5 Ct n.vrfs,.sl 5 Dn n.irbs]
instance:Inhabited Device:=⟨⟨0,0,.empty,0,0⟩⟩
instance:Inhabited Port:=⟨⟨0,0,0,0,0,.empty,[]⟩⟩
instance:Inhabited Link:=⟨⟨0,0,0⟩⟩
instance:Inhabited Domain:=⟨⟨0,0,0,0,0,[]⟩⟩
instance:Inhabited Static:=⟨⟨0,0,0,0⟩⟩
instance:Inhabited Flood:=⟨⟨0,0,0,[]⟩⟩
instance:Inhabited Vrf:=⟨⟨0,0,.empty,[],[]⟩⟩
instance:Inhabited Irb:=⟨⟨0,0,0,0,0⟩⟩
def Aj (i:Int) (n:Nat):Bool:=decide (0≤i) && decide (i<n)
def inB (l:List Int) (x:Int):Bool:=l.any (· == x)
def nth {α:Type} [Inhabited α] (l:List α) (i:Int):α:=(l[i.toNat]?).getD default
theorem An {α:Type} [Inhabited α] {l:List α} {i:Int} (h:i.toNat<l.length):nth l i=l[i.toNat]:=by
 simp[nth,h]
def Dl {α:Type} (p:α→Bool) (l:List α):Int:=match l.findIdx? p with | some i=>(i:Int) | none=>-1
theorem Ed {α:Type} {p:α→Bool} {l:List α} {j:Nat} (h:j<l.length) (h1:∀ i (hi:i<l.length),i<j→p l[i]=false) (h2:p l[j]=true):Dl p l=j:=by
 have:l.findIdx? p=some j:=by
  rw[List.findIdx?_eq_some_iff_getElem]
  exact⟨h,h2,fun i hi=>by simp[h1 i qn hi]⟩
 simp[Dl,this]
theorem Ez {α:Type} {p:α→Bool} {l:List α} (h1:∀ i (hi:i<l.length),p l[i]=false):Dl p l=-1:=by
 have:l.findIdx? p=none:=by
  rw[List.findIdx?_eq_none_iff]
  intro x hx
  obtain ⟨i,hi,rfl⟩:=List.mem_iff_getElem.1 hx
  exact h1 i hi
 simp[Dl,this]
theorem E7 {α:Type} (p:α→Bool) (l:List α):Dl p l<l.length:=by
 unfold Dl
 split
 ·rename_i i h
  rw[List.findIdx?_eq_some_iff_getElem]at h
  obtain ⟨h,_⟩:=h
  omega
 ·omega
theorem Aao {α:Type} (p:α→Bool) (l:List α):decide (0≤Dl p l)=l.any p:=by
 unfold Dl
 split
 ·rename_i i h
  rw[List.findIdx?_eq_some_iff_getElem]at h
  obtain ⟨h,h2,_⟩:=h
  have:l.any p=true:=List.any_eq_true.2 ⟨_,List.getElem_mem h,h2⟩
  rw[this]
  simp
 ·rename_i h
  rw[List.findIdx?_eq_none_iff]at h
  have:l.any p=false:=by
   rw[List.any_eq_false]
   intro x hx
   simp[h x hx]
  rw[this]
  simp
def El {α:Type} (p:Nat→α→Bool) (l:List α):Bool:=l.zipIdx.all fun q=>p q.2 q.1
theorem allB_iff {α:Type} {p:Nat→α→Bool} {l:List α}:El p l=true↔∀ i (h:i<l.length),p i l[i]=true:=by
 simp only[El,List.all_eq_true]
 constructor
 ·intro h i hi
  exact h (l[i],i) (by rw[List.mk_mem_zipIdx_iff_getElem?];simp[hi])
 ·rintro h ⟨x,i⟩ hx
  rw[List.mk_mem_zipIdx_iff_getElem?]at hx
  obtain ⟨hi,rfl⟩:=List.getElem?_eq_some_iff.1 hx
  exact h i hi
theorem Agy {α:Type} {p:Nat→α→Bool} {l:List α} (h:∀ i (h:i<l.length),p i l[i]=true):El p l=true:=allB_iff.2 h
theorem B5 {α:Type} {p:Nat→α→Bool} {l:List α} {i:Nat} (h:i<l.length) (h1:p i l[i]=false):El p l=false:=by
 cases hh:El p l with
 | false=>rfl
 | true=>have:=allB_iff.1 hh i h;rw[h1]at this;cases this
def Em {α:Type} (p:Nat→α→Bool) (l:List α) (j:Nat):Prop:=∀ i (h:i<l.length),i<j→p i l[i]=true
theorem Be {α:Type} (p:Nat→α→Bool) (l:List α):Em p l 0:=fun i h hj=>absurd hj qn
theorem Bb {α:Type} {p:Nat→α→Bool} {l:List α} {j:Nat} (hI:Em p l j) (hj:j<l.length) (h:p j l[j]=true):Em p l (j+1):=by
 intro i hi hij
 rcases Nat.lt_or_ge i j with h1 | h1
 ·exact hI i hi h1
 ·have:i=j:=by omega
  subst this
  exact h
theorem Dp {α:Type} {p:Nat→α→Bool} {l:List α} {j:Nat} (hI:Em p l j) (hj:l.length≤j):El p l=true:=Agy fun i hi=>hI i hi qn
def Am {α:Type} (l:List α):Prop:=l.length<2147483648
end Go.Sy.YtmelpejjondedaaGreat
namespace Go.Sy.YtmelpejjondedaaGreat
open Go.Proofs
attribute [local irreducible] Go.Sy.G Go.Sy.DR
set_option maxRecDepth 100000
set_option maxHeartbeats 4000000
theorem Ahu (i:Int) (h0:0≤i) (h5:i≤5):Sy.Spec Tryz.prog 132 [Aa i] [] (A7 (8 * (5-i))) []:=Ab Γ hm 100 F132 Tryz.ntmps132 rfl fun F hF=>by
 conv=>whnf
 refine⟨by unfold I64;omega,?_⟩
 conv=>whnf
 refine⟨by unfold I64;omega,?_⟩
 conv=>whnf
 refine Ac E (.cons .tmp .nil) (congrArg (fun z=>SV.val (.int .u64 z)) ?_) E
 rw[IntKind.wrap_u64]
 omega
def be:Nat→Nat→List UInt8
 | 0,_=>[]
 | k+1,m=>UInt8.ofNat (m / 256 ^ k)::be k m
theorem Cs (m:Nat):∀ k,(be k m).length=k
 | 0=>rfl
 | k+1=>by simp[be,Cs m k]
theorem Y0 (m:Nat):∀ (k j:Nat) (h:j<k),(be k m).take (j+1)=(be k m).take j++[UInt8.ofNat (m / 256 ^ (k-1-j))]
 | 0,j,h=>by omega
 | k+1,0,h=>by simp[be]
 | k+1,j+1,h=>by
  have:=Y0 m k j qn
  simp only[be,List.take_succ_cons,List.cons_append,this]
  rw[show k+1-1-(j+1)=k-1-j by omega]
theorem Zl (m k:Nat) (hk:k≤7):IntKind.u8.wrap ((m:Int).fdiv (2 ^ (min (8 * (k:Int)).toNat IntKind.u64.bits)))=((UInt8.ofNat (m / 256 ^ k)).toNat:Int):=by
 have h1:min (8 * (k:Int)).toNat IntKind.u64.bits=8 * k:=by simp[IntKind.bits];omega
 rw[h1,Int.fdiv_eq_ediv_of_nonneg _ (by exact Int.pow_nonneg qx),IntKind.wrap_u8]
 have h2:(2:Int) ^ (8 * k)=((256 ^ k:Nat):Int):=by rw[Int.pow_mul];simp
 rw[h2]
 simp
theorem put2 (l:List UInt8) (hl:l.length<1000000) (m:Nat):Sy.Spec Tryz.prog 72 [.osl 0,A7 m] [(0,.row 1 Ak l)] (.osl 1) [(0,.non),(1,.row 1 Ak (l++be 6 m))]:=Ab Γ hm 100 F72 Tryz.ntmps72 rfl fun F hF=>by
 conv=>whnf
 refine Adu 0 1 [0] E E qx (by simp;rfl) ?_
 refine A1 6 (fun j=>[(0,.osl 1),(1,A7 m),(6,Aa j)]) (fun j=>[(0,.non),(1,.row 1 Ak (l++(be 6 m).take j))]) [(0,0),(1,1)] ⟨⟨E,E,E,E,E,E,Y⟩,⟨.inl E,E,.inl (congrArg (Ob.row 1 Ak) (List.append_nil l)),E,Y⟩,E,E⟩ ?_
 intro j hj
 refine rg ?_;conv=>whnf
 refine⟨fun h=>?_,fun h=>?_⟩
 ·have hlt:j<6:=by have:=of_decide_eq_true h;omega
  refine rg ?_;conv=>whnf
  refine Ag (Ahu j qn qn) F132 E E E E E ?_
  refine rg ?_;conv=>whnf
  refine⟨by omega,?_⟩
  conv=>whnf
  refine Ah (Al Γ.toTy 16 E E E E E (.row E) (.lit (l:=[UInt8.ofNat (m / 256 ^ (5-j))]) E ?_) qy ?_ ?_) E E ?_
  ·have:=Zl m (5-j) qn
   rw[show ((5-j:Nat):Int)=5-(j:Int) by omega]at this
   simp only[List.map_cons,List.map_nil,Ak,← this]
  ·simp[Cs];omega
  ·simp[Cs];omega
  refine rg ?_;conv=>whnf
  refine⟨by unfold I64;omega,?_⟩
  conv=>whnf
  exact Ar [(0,0),(1,16)] hlt ⟨⟨E,E,E,E,E,E,Y⟩,⟨.inl E,E,.inl (congrArg (Ob.row 1 Ak) (by rw[Y0 _ _ _ hlt,List.append_assoc])),E,Y⟩,E,E⟩
 ·have:j=6:=by have:=of_decide_eq_false h;omega
  subst this
  refine rg ?_;conv=>whnf
  exact done E (.cons .tmp .nil) [(0,0),(1,1)] _ (fun _ h=>h) E E ⟨Y,⟨.inl E,E,.inl E,E,Y⟩,E,E⟩
theorem put2n (m:Nat):Sy.Spec Tryz.prog 72 [.val (.slice none 0 0),A7 m] [] (.osl 0) [(0,.row 1 Ak (be 6 m))]:=Ab Γ hm 100 F72 Tryz.ntmps72 rfl fun F hF=>by
 conv=>whnf
 refine Ca 0 1000 1 Ak E E ?_
 refine A1 6 (fun j=>[(0,.osl 1000),(1,A7 m),(6,Aa j)]) (fun j=>[(1000,.row 1 Ak ((be 6 m).take j))]) [] ⟨⟨E,E,E,E,E,E,Y⟩,⟨.inl E,E,Y⟩,E,E⟩ ?_
 intro j hj
 refine rg ?_;conv=>whnf
 refine⟨fun h=>?_,fun h=>?_⟩
 ·have hlt:j<6:=by have:=of_decide_eq_true h;omega
  refine rg ?_;conv=>whnf
  refine Ag (Ahu j qn qn) F132 E E E E E ?_
  refine rg ?_;conv=>whnf
  refine⟨by omega,?_⟩
  conv=>whnf
  refine Ah (Al Γ.toTy 16 E E E E E (.row E) (.lit (l:=[UInt8.ofNat (m / 256 ^ (5-j))]) E ?_) qy ?_ ?_) E E ?_
  ·have:=Zl m (5-j) qn
   rw[show ((5-j:Nat):Int)=5-(j:Int) by omega]at this
   simp only[List.map_cons,List.map_nil,Ak,← this]
  ·simp[Cs];omega
  ·simp[Cs];omega
  refine rg ?_;conv=>whnf
  refine⟨by unfold I64;omega,?_⟩
  conv=>whnf
  exact Ar [(1000,16)] hlt ⟨⟨E,E,E,E,E,E,Y⟩,⟨.inl (congrArg (Ob.row 1 Ak) (Y0 _ _ _ hlt)),E,Y⟩,E,E⟩
 ·have:j=6:=by have:=of_decide_eq_false h;omega
  subst this
  refine rg ?_;conv=>whnf
  exact done E (.cons .tmp .nil) [(0,1000)] _ (fun _ h=>h) E E ⟨Y,⟨.inl E,E,Y⟩,E,E⟩
def Ajf (d s:Nat) (t:Int) (body:List UInt8):SV:=.agg [A7 d,A7 s,Aa t,.sl 1 Ak body]
def frame (d s t:Nat) (body:List UInt8):List UInt8:=be 6 d++be 6 s++[UInt8.ofNat (t / 256),UInt8.ofNat t]++body
theorem Dw (t:Nat):[UInt8.ofNat (t / 256),UInt8.ofNat t].map Ak=[SV.val (.int .u8 (IntKind.u8.wrap ((t:Int).fdiv (2 ^ (min (Int.toNat 8) IntKind.i64.bits))))),SV.val (.int .u8 (IntKind.u8.wrap (t:Int)))]:=by
 have h1:IntKind.u8.wrap ((t:Int).fdiv (2 ^ (min (Int.toNat 8) IntKind.i64.bits)))=((UInt8.ofNat (t / 256)).toNat:Int):=by
  show IntKind.u8.wrap ((t:Int).fdiv 256)=_
  rw[Int.fdiv_eq_ediv_of_nonneg _ qx,IntKind.wrap_u8]
  simp
 have h2:IntKind.u8.wrap (t:Int)=((UInt8.ofNat t).toNat:Int):=by
  rw[IntKind.wrap_u8]
  simp
 rw[h1,h2]
 rfl
theorem Aa0 (d s t:Nat) (body:List UInt8) (hd:d<281474976710656) (hs:s<281474976710656) (ht:t≤65535) (hb:body.length≤1504):Sy.Spec Tryz.prog 33 [Ajf d s t body] [] (.tup [.osl 0,Aa 0]) [(0,.row 1 Ak (frame d s t body))]:=Ab Γ hm 100 F33 Tryz.ntmps33 rfl fun F hF=>by
 conv=>whnf
 refine⟨fun h=>absurd (of_decide_eq_true h) qn,fun _=>?_⟩
 refine rg ?_;conv=>whnf
 refine⟨fun h=>absurd (of_decide_eq_true h) qn,fun _=>?_⟩
 (refine rg ?_;(conv=>whnf);refine aF ?_;refine rg ?_;conv=>whnf)
 refine⟨fun h=>absurd (of_decide_eq_true h) qn,fun _=>?_⟩
 refine rg ?_;conv=>whnf
 refine⟨fun h=>absurd (of_decide_eq_true h) qn,fun _=>?_⟩
 refine rg ?_;conv=>whnf
 refine Bs (Ai [(0,31)] E F72 (put2n d) E Y E ⟨.inr E,Y⟩) qq E ?_
 refine rd qq ?_;conv=>whnf
 refine Bs (Ai [(0,31),(1,34)] E F72 (put2 (be 6 d) (by simp[Cs]) s) E ⟨E,Y⟩ E ⟨.inl E,.inr E,Y⟩) qq E ?_
 refine rd qq ?_;conv=>whnf
 refine⟨by kernel_rfl,?_⟩
 conv=>whnf
 refine⟨by decide,?_⟩
 conv=>whnf
 refine Bs (Al Γ.toTy 44 E E E E E (.row E) (.lit (l:=[UInt8.ofNat (t / 256),UInt8.ofNat t]) E (Dw t)) qx ?_ ?_) qq E ?_
 ·simp[Cs]
 ·simp[Cs]
 refine rd qq ?_;conv=>whnf
 refine Bs (Al Γ.toTy 47 E E E E E (.row E) .sl qx ?_ ?_) qq E ?_
 ·simp[Cs];omega
 ·simp[Cs];omega
 refine rd qq ?_;conv=>whnf
 refine⟨by kernel_rfl,?_⟩
 conv=>whnf
 exact done E (.cons .tmp (.cons .tmp .nil)) [(0,47)] _ (fun _ h=>h) E E ⟨Y,⟨.inl E,E,Y⟩,E,E⟩
end Go.Sy.YtmelpejjondedaaGreat
namespace Go.Sy.YtmelpejjondedaaGreat
structure FrameM where
 dst:Nat
 src:Nat
 typ:Nat
 body:List UInt8
def Bv (f:FrameM):SV:=Ajf f.dst f.src f.typ f.body
structure StepM where
 kind:Int
 port:Int
 domain:Int
 at_:Int
 bytes:List UInt8
 up:List Bool
def Ce (x:StepM):SV:=.agg [Aa x.kind,Aa x.port,Aa x.domain,Aa x.at_,.sl 1 Ak x.bytes,.sl 1 Ad x.up]
structure SeenM where
 port:Int
 origin:Int
 bytes:List UInt8
def Bz (x:SeenM):SV:=.agg [Aa x.port,Aa x.origin,.sl 1 Ak x.bytes]
def Hl (ip:Int):Nat:=2199023255552+ip.toNat
def Ew (n:Nat):Nat:=if n=0 then 0 else (n-1) % 65535+1
theorem Ac7 {α:Type} {l:List α} {i:Nat} {d:α} (h:i<l.length):l.getD i d=l[i]:=by simp[List.getD,h]
theorem Aaw {n:Nat} (h:n≤65535):Ew n=n:=by
 unfold Ew
 split<;>omega
theorem Ac9 {n:Nat} (h:65535<n):Ew (n / 65536+n % 65536)=Ew n∧n / 65536+n % 65536<n:=by
 unfold Ew
 rw[if_neg qn,if_neg qn]
 omega
theorem Ajg (n:Nat):Ew n≤65535:=by
 unfold Ew
 split<;>omega
def M3 (l:List UInt8):Nat→Nat
 | 0=>0
 | j+1=>M3 l j+((l.getD (2 * j) 0).toNat * 256+(l.getD (2 * j+1) 0).toNat)
theorem Adv (l:List UInt8):∀ j,M3 l j≤65535 * j
 | 0=>Nat.le_refl _
 | j+1=>by
  have ih:=Adv l j
  have h1:=(l.getD (2 * j) 0).toNat_lt
  have h2:=(l.getD (2 * j+1) 0).toNat_lt
  rw[M3]
  omega
def Ady (l:List UInt8):Nat:=65535-Ew (M3 l (l.length / 2))
end Go.Sy.YtmelpejjondedaaGreat
namespace Go.Sy.YtmelpejjondedaaGreat
open Go.Proofs
attribute [local irreducible] Go.Sy.G Go.Sy.DR
set_option maxRecDepth 100000
set_option maxHeartbeats 4000000
theorem E3 (a b:Nat) (ha:a<9223372036854775808) (hb:b<9223372036854775808):bits .and .i64 (a:Int) (b:Int)=((a &&& b:Nat):Int):=by
 have hx:a &&& b<2 ^ 63:=Nat.lt_of_le_of_lt Nat.and_le_left ha
 have h1:(BitVec.ofInt 64 (a:Int)).toNat=a:=by
  rw[BitVec.ofInt_natCast,BitVec.toNat_ofNat];exact Nat.mod_eq_of_lt qn
 have h2:(BitVec.ofInt 64 (b:Int)).toNat=b:=by
  rw[BitVec.ofInt_natCast,BitVec.toNat_ofNat];exact Nat.mod_eq_of_lt qn
 show IntKind.i64.wrap ((BitVec.ofInt 64 (a:Int) &&& BitVec.ofInt 64 (b:Int)).toNat:Int)=_
 rw[BitVec.toNat_and,h1,h2,IntKind.wrap_i64]
 omega
theorem Cr (a b:Nat) (ha:a<9223372036854775808) (hb:b<9223372036854775808):bits .or .i64 (a:Int) (b:Int)=((a ||| b:Nat):Int):=by
 have hx:a ||| b<2 ^ 63:=Nat.or_lt_two_pow qn qn
 have h1:(BitVec.ofInt 64 (a:Int)).toNat=a:=by
  rw[BitVec.ofInt_natCast,BitVec.toNat_ofNat];exact Nat.mod_eq_of_lt qn
 have h2:(BitVec.ofInt 64 (b:Int)).toNat=b:=by
  rw[BitVec.ofInt_natCast,BitVec.toNat_ofNat];exact Nat.mod_eq_of_lt qn
 show IntKind.i64.wrap ((BitVec.ofInt 64 (a:Int) ||| BitVec.ofInt 64 (b:Int)).toNat:Int)=_
 rw[BitVec.toNat_or,h1,h2,IntKind.wrap_i64]
 omega
theorem Ad0 (n k:Nat) (hk:k<64):(n:Int).fdiv (2 ^ (min (Int.toNat (k:Int)) IntKind.i64.bits))=((n / 2 ^ k:Nat):Int):=by
 have h1:min (Int.toNat (k:Int)) IntKind.i64.bits=k:=by simp[IntKind.bits];omega
 rw[h1,Int.fdiv_eq_ediv_of_nonneg _ (by exact Int.pow_nonneg qx)]
 simp
theorem Alk (n:Nat) (h:n<9223372036854775808):bits .and .i64 (n:Int) 65535=((n % 65536:Nat):Int):=by
 have:=E3 n 65535 h qx
 rw[show ((65535:Nat):Int)=65535 from rfl]at this
 rw[this]
 have h2:=Nat.and_two_pow_sub_one_eq_mod n 16
 rw[show 2 ^ 16-1=65535 from rfl,show 2 ^ 16=65536 from rfl]at h2
 rw[h2]
theorem Agm (n:Nat) (h:n<9223372036854775808):Sy.Spec Tryz.prog 357 [.ptr 0 0] [(0,.box [Aa n])] (.tup []) [(0,.box [Aa (n / 65536+n % 65536:Nat)])]:=Ab Γ hm 100 F357 Tryz.ntmps357 rfl fun F hF=>by
 have e1:(n:Int).fdiv (2 ^ (min (Int.toNat 16) IntKind.i64.bits))=((n / 65536:Nat):Int):=Ad0 n 16 qx
 have e2:=Alk n h
 conv=>whnf
 first | (refine⟨by omega,?_⟩;(conv=>whnf)) | skip
 rw[e1,e2]
 refine⟨by unfold I64;omega,?_⟩
 conv=>whnf
 exact Bg E .nil [] [(0,.box [Aa (n / 65536+n % 65536:Nat)])] (fun _ h=>h) E E ⟨Y,⟨.inl E,E,Y⟩,E,E⟩
theorem Ahj (n:Nat) (h:n<9223372036854775808):Sy.Spec Tryz.prog 343 [Aa n] [] (Aa (Ew n)) []:=Ab Γ hm 100 F343 Tryz.ntmps343 rfl fun F hF=>by
 conv=>whnf
 refine Lb (α:={m:Nat // Ew m=Ew n∧m≤n}) (fun m=>[(3,.clo (.func 357) [] [.ptr 1 0]),(1,.ptr 1 0)]) (fun m=>[(1,.box [Aa m.1])]) (fun m=>m.1) ⟨n,E,Nat.le_refl _⟩ []
  ⟨⟨rfl,rfl,rfl,rfl,trivial⟩,⟨.inl rfl,rfl,trivial⟩,rfl,rfl⟩ ?_
 rintro ⟨m,h1,h2⟩
 dsimp only
 refine rg ?_;conv=>whnf
 refine⟨fun h3=>?_,fun h3=>?_⟩
 ·have hmm:65535<m:=by have:=of_decide_eq_true h3;omega
  obtain ⟨g1,g2⟩:=Ac9 hmm
  refine rg ?_;conv=>whnf
  refine Ah (Cc [(0,1)] (Ef E E F357) (Agm m qn) E ⟨E,Y⟩ E ⟨.inl E,Y⟩) E E ?_
  refine rg ?_;conv=>whnf
  exact Mm (α:={m:Nat // Ew m=Ew n∧m≤n}) (x:=⟨m,h1,h2⟩) ⟨m / 65536+m % 65536,by rw[g1,h1],by omega⟩ [] g2 ⟨⟨E,E,E,E,Y⟩,⟨.inl E,E,Y⟩,E,E⟩
 ·have hmm:m≤65535:=by have:=of_decide_eq_false h3;omega
  have e:Ew n=m:=by rw[← h1,Aaw hmm]
  refine rg ?_;conv=>whnf
  refine Ac E (.cons .tmp .nil) ?_ E
  exact congrArg (fun z:Nat=>Aa z) e
theorem D0 (a b:UInt8):bits .or .i64 (IntKind.i64.wrap ((IntKind.i64.wrap (a.toNat:Int)) * 2 ^ min (Int.toNat 8) IntKind.i64.bits)) (IntKind.i64.wrap (b.toNat:Int))=((a.toNat * 256+b.toNat:Nat):Int):=by
 have h1:=a.toNat_lt
 have h2:=b.toNat_lt
 have e1:IntKind.i64.wrap (a.toNat:Int)=(a.toNat:Int):=by rw[IntKind.wrap_i64];omega
 have e2:IntKind.i64.wrap (b.toNat:Int)=(b.toNat:Int):=by rw[IntKind.wrap_i64];omega
 rw[e1,e2]
 have h3:IntKind.i64.wrap ((a.toNat:Int) * 2 ^ min (Int.toNat 8) IntKind.i64.bits)=((a.toNat * 256:Nat):Int):=by
  show IntKind.i64.wrap ((a.toNat:Int) * 256)=_
  rw[IntKind.wrap_i64]
  omega
 rw[h3,Cr _ _ qn qn]
 congr 1
 have h:=Nat.two_pow_add_eq_or_of_lt (i:=8) (b:=b.toNat) qn a.toNat
 rw[Nat.mul_comm a.toNat 256]
 exact h.symm
theorem Adz (l:List UInt8) (hl:l.length<100000) (h2:l.length % 2=0):Sy.Spec Tryz.prog 329 [.sl 1 Ak l] [] (Aa (Ew (M3 l (l.length / 2)))) []:=Ab Γ hm 100 F329 Tryz.ntmps329 rfl fun F hF=>by
 conv=>whnf
 refine A1 (l.length / 2) (fun j=>[(0,.sl 1 Ak l),(3,Aa (M3 l j)),(4,Aa (2 * (j:Int)))]) (fun _=>[]) [] ⟨⟨E,E,E,E,E,E,Y⟩,Y,E,E⟩ ?_
 intro j hj
 have hw:=Adv l j
 refine rg ?_;conv=>whnf
 refine⟨by unfold I64;omega,?_⟩
 conv=>whnf
 refine⟨fun h=>?_,fun h=>?_⟩
 ·have hlt:2 * j+1<l.length:=by have:=of_decide_eq_true h;omega
  have hs:M3 l (j+1)=M3 l j+((l[2 * j]'qn).toNat * 256+(l[2 * j+1]'hlt).toNat):=by
   rw[M3,Ac7 (show 2 * j<l.length by omega),Ac7 hlt]
  have e1:l[(2 * (j:Int)).toNat]'qn=l[2 * j]'qn:=by congr 1
  have e2:l[(2 * (j:Int)+1).toNat]'qn=l[2 * j+1]'hlt:=by congr 1
  have hp:=D0 (l[2 * j]'qn) (l[2 * j+1]'hlt)
  have hb1:=(l[2 * j]'qn).toNat_lt
  have hb2:=(l[2 * j+1]'hlt).toNat_lt
  rw[← e1,← e2]at hp hs
  rw[← e1]at hb1
  rw[← e2]at hb2
  refine rg ?_;conv=>whnf
  refine⟨E,by omega,by omega,?_⟩
  conv=>whnf
  refine⟨by omega,?_⟩
  conv=>whnf
  refine⟨by unfold I64;omega,?_⟩
  conv=>whnf
  refine⟨E,by omega,by omega,?_⟩
  conv=>whnf
  refine⟨(by rw[hp];unfold I64;omega),?_⟩
  conv=>whnf
  refine⟨qq,?_⟩
  conv=>whnf
  refine⟨by unfold I64;omega,?_⟩
  conv=>whnf
  refine Ar [] qn ⟨⟨E,E,congrArg (fun z=>SV.val (.int .i64 z)) ?_,E,congrArg (fun z=>SV.val (.int .i64 z)) ?_,E,Y⟩,Y,E,E⟩
  ·rw[hp,hs];omega
  ·omega
 have hjl:j=l.length / 2:=by
  have:=of_decide_eq_false h
  omega
 have hpar:¬ bits .and .i64 (l.length:Int) 1=1:=by
  have:=E3 l.length 1 qn qx
  rw[show ((1:Nat):Int)=1 from rfl]at this
  rw[this,Nat.and_one_is_mod,h2]
  decide
 have hd:=Ahj (M3 l j) qn
 rw[hjl]at hd ⊢
 clear hjl
 refine rg ?_;conv=>whnf
 refine⟨fun h=>absurd (of_decide_eq_true h) hpar,fun _=>?_⟩
 refine rg ?_;conv=>whnf
 refine Ag hd F343 E E E E E ?_
 refine rg ?_;conv=>whnf
 exact Ac E (.cons .tmp .nil) E E
theorem sumOfS (l:List UInt8) (hl:l.length<100000) (h2:l.length % 2=0):Sy.Spec Tryz.prog 305 [.sl 1 Ak l] [] (Aa (Ady l)) []:=Ab Γ hm 100 F305 Tryz.ntmps305 rfl fun F hF=>by
 have ha:=Adz l hl h2
 have hle:=Ajg (M3 l (l.length / 2))
 conv=>whnf
 refine Ag ha F329 E E E E E ?_
 refine rg ?_;conv=>whnf
 refine⟨by unfold I64;omega,?_⟩
 conv=>whnf
 refine Ac E (.cons .tmp .nil) ?_ E
 refine congrArg Aa ?_
 rw[Ady]
 omega
def Aim (n:Nat):SV:=Aa n
def H6 (l:List Nat):List UInt8:=l.flatMap fun n=>[UInt8.ofNat (n / 256),UInt8.ofNat n]
theorem Vu (l:List Nat):(H6 l).length=2 * l.length:=by
 induction l with
 | nil=>rfl
 | cons a l ih=>simp only[H6,List.flatMap_cons,List.length_append,List.length_cons,List.length_nil]at ih ⊢;omega
theorem Z4 (l:List Nat) (n:Nat):H6 (l++[n])=H6 l++[UInt8.ofNat (n / 256),UInt8.ofNat n]:=by simp[H6]
theorem Xq (a b:Int) (h:0≤a∧a≤b):Sy.Spec Tryz.prog 303 [Aa a,Aa b] [] (Ad true) []:=Ab Γ hm 100 F303 Tryz.ntmps303 rfl fun F hF=>by
 conv=>whnf
 refine⟨fun _=>?_,fun h2=>absurd (of_decide_eq_false h2) qn⟩
 refine rg ?_;conv=>whnf
 refine Ac E (.cons .tmp .nil) ?_ E
 exact congrArg Ad (decide_eq_true h.2).symm
theorem Aiy (l:List Nat) (hl:l.length<100000):Sy.Spec Tryz.prog 304 [.val (.slice none 0 0),.sl 1 Aim l] [] (.osl 0) [(0,.row 1 Ak (H6 l))]:=Ab Γ hm 100 F304 Tryz.ntmps304 rfl fun F hF=>by
 conv=>whnf
 refine Ca 0 1000 1 Ak E E ?_
 refine A1 l.length (fun j=>[(0,.osl 1000),(7,.sl 1 Aim l),(8,Aa l.length),(9,Aa j)]) (fun j=>[(1000,.row 1 Ak (H6 (l.take j)))]) [] ⟨⟨E,E,E,E,E,E,E,E,Y⟩,⟨.inl E,E,Y⟩,E,E⟩ ?_
 intro j hj
 have hpl:=Vu (l.take j)
 refine rg ?_;conv=>whnf
 refine⟨fun h=>?_,fun h=>?_⟩
 ·have hlt:j<l.length:=by simpa using h
  have e1:l[(j:Int).toNat]'qn=l[j]:=rfl
  have hsucc:H6 (l.take (j+1))=H6 (l.take j)++[UInt8.ofNat (l[j] / 256),UInt8.ofNat l[j]]:=by
   rw[List.take_succ_eq_append_getElem hlt,Z4]
  obtain ⟨n,hn⟩:∃ n,l[j]=n:=⟨_,rfl⟩
  rw[hn]at e1 hsucc
  have htb:=Dw n
  refine rg ?_;conv=>whnf
  refine⟨E,by omega,by omega,?_⟩
  rw[e1]
  conv=>whnf
  refine⟨by omega,?_⟩
  conv=>whnf
  refine Ah (Al Γ.toTy 20 E E E E E (.row E) (.lit (e:=Ak) (l:=[UInt8.ofNat (n / 256),UInt8.ofNat n]) E htb) qy (by simp[hpl];omega) (by simp[hpl];omega)) E E ?_
  refine rg ?_;conv=>whnf
  refine⟨by unfold I64;omega,?_⟩
  conv=>whnf
  exact Ar [(1000,20)] hlt ⟨⟨E,E,E,E,E,E,E,E,Y⟩,⟨.inl (congrArg (Ob.row 1 Ak) hsucc),E,Y⟩,E,E⟩
 ·have hjl:j=l.length:=by
   have:¬ j<l.length:=by simpa using h
   omega
  subst hjl
  rw[List.take_length]
  refine rg ?_;conv=>whnf
  exact done E (.cons .tmp .nil) [(0,1000)] [(0,.row 1 Ak (H6 l))] (fun _ h=>h) E E ⟨Y,⟨.inl E,E,Y⟩,E,E⟩
theorem u8_of (n:Nat):IntKind.u8.wrap (n:Int)=((UInt8.ofNat n).toNat:Int):=by
 rw[IntKind.wrap_u8]
 simp
theorem Tp {x:Int} (h0:0≤x) (h1:x<18446744073709551616):IntKind.u64.wrap x=x:=by rw[IntKind.wrap_u64];omega
theorem Aap (ip:Nat) (h:ip<4294967296):Sy.Spec Tryz.prog 244 [Cd ip] [] (A7 (Hl ip)) []:=Ab Γ hm 100 F244 Tryz.ntmps244 rfl fun F hF=>by
 conv=>whnf
 refine Ac E (.cons .tmp .nil) ?_ E
 refine congrArg (fun z=>SV.val (.int .u64 z)) ?_
 have e:IntKind.u64.wrap (ip:Int)=ip:=Tp qn qn
 rw[e]
 have hb:=bits_or_u64_nat 2199023255552 ip qx qn
 rw[show ((2199023255552:Nat):Int)=2199023255552 from rfl]at hb
 rw[hb,Hl,Int.toNat_natCast]
 have h2:=Nat.two_pow_add_eq_or_of_lt (i:=32) (b:=ip) qn 512
 rw[show 2 ^ 32 * 512=2199023255552 from rfl]at h2
 rw[← h2]
theorem tagIsS (d s:Nat) (t:Int) (body:List UInt8) (ht:t≠33024):Sy.Spec Tryz.prog 166 [Ajf d s t body] [] (Ad false) []:=Ab Γ hm 100 F166 Tryz.ntmps166 rfl fun F hF=>by
 conv=>whnf
 refine Ac E (.cons .tmp .nil) ?_ E
 exact congrArg Ad (beq_eq_false_iff_ne.2 ht).symm
theorem Akr (v:Nat) (hv:v<9223372036854775808):bits .or .i64 (IntKind.i64.wrap (0 * 2 ^ min (Int.toNat 12) IntKind.i64.bits)) (v:Int)=v:=by
 have h:=Cr 0 v qx hv
 rw[Nat.zero_or]at h
 exact h
theorem Akk (d s t v:Nat) (body:List UInt8) (ht:t≠33024) (ht2:t≤65535) (hv:v≤4094) (hb:body.length≤1500) :
  Sy.Spec Tryz.prog 308 [Ajf d s t body,Aa v,Aa 0] [] (.tup [Ajf d s 33024 ([UInt8.ofNat (v / 256),UInt8.ofNat v,UInt8.ofNat (t / 256),UInt8.ofNat t]++body),Aa 0]) []:=Ab Γ hm 100 F308 Tryz.ntmps308 rfl fun F hF=>by
 have hor:=Akr v qn
 have tb1:=Dw v
 have tb2:=Dw t
 conv=>whnf
 refine Ag (tagIsS d s t body qn) F166 E E E E E ?_
 (refine rg ?_;(conv=>whnf);refine aF ?_;refine rg ?_;(conv=>whnf);refine aF ?_;refine rg ?_;conv=>whnf)
 refine⟨fun h=>absurd (of_decide_eq_true h) qn,fun _=>?_⟩
 (refine rg ?_;(conv=>whnf);refine aF ?_;refine rg ?_;(conv=>whnf);refine aF ?_;refine rg ?_;(conv=>whnf);refine aF ?_;refine rg ?_;conv=>whnf)
 refine⟨fun h=>absurd (of_decide_eq_true h) qn,fun _=>?_⟩
 refine rg ?_;conv=>whnf
 refine⟨fun h=>absurd (of_decide_eq_true h) qn,fun _=>?_⟩
 refine rg ?_;conv=>whnf
 refine⟨by omega,?_⟩
 conv=>whnf
 rw[hor]
 refine⟨by omega,?_⟩
 conv=>whnf
 refine⟨by omega,?_⟩
 conv=>whnf
 refine Bs (Al Γ.toTy 70 E E E E E (.lit (e:=Ak) (l:=[UInt8.ofNat (v / 256),UInt8.ofNat v,UInt8.ofNat (t / 256),UInt8.ofNat t]) E ?_) .sl qy (by simp;omega) (by simp;omega)) qq E ?_
 ·have h1:=List.cons.inj tb1
  have h2:=List.cons.inj tb2
  have h3:=List.cons.inj h1.2
  have h4:=List.cons.inj h2.2
  simp only[List.map_cons,List.map_nil]
  rw[h1.1,h3.1,h2.1,h4.1]
 refine rd qq ?_;conv=>whnf
 refine⟨qq,?_⟩
 conv=>whnf
 refine At 70 E ?_
 exact Ac E (.cons (.cell E E E E) (.cons .tmp .nil)) E E
end Go.Sy.YtmelpejjondedaaGreat
namespace Go.Sy.YtmelpejjondedaaGreat
open Go.Proofs
def Hn (l:List UInt8):Nat:=l.foldl (fun n c=>n * 256+c.toNat) 0
theorem Wf (l:List UInt8) (c:UInt8):Hn (l++[c])=Hn l * 256+c.toNat:=by
 rw[Hn,List.foldl_append];rfl
theorem Jk:∀ (k:Nat) (l:List UInt8),l.length=k→Hn l<256 ^ k
 | 0,l,h=>by rw[List.length_eq_zero_iff.1 h];decide
 | k+1,l,h=>by
  have hne:l≠[]:=fun e=>by rw[e]at h;cases h
  have e:=List.dropLast_concat_getLast hne
  have h1:=Jk k l.dropLast (by rw[List.length_dropLast];omega)
  have h2:=(l.getLast hne).toNat_lt
  rw[← e,Wf,Nat.pow_succ]
  omega
theorem Ae1 (l:List UInt8) {j:Nat} (h:j<l.length):Hn (l.take (j+1))=Hn (l.take j) * 256+l[j].toNat:=by
 rw[List.take_succ_eq_append_getElem h,Wf]
theorem Akh (m:Nat) (c:UInt8) (h:m<1099511627776) :
  bits .or .u64 (IntKind.u64.wrap ((m:Int) * 2 ^ min (Int.toNat 8) IntKind.u64.bits)) (IntKind.u64.wrap (c.toNat:Int))=((m * 256+c.toNat:Nat):Int):=by
 have hc:=c.toNat_lt
 have e1:IntKind.u64.wrap ((m:Int) * 2 ^ min (Int.toNat 8) IntKind.u64.bits)=((m * 256:Nat):Int):=by
  show IntKind.u64.wrap ((m:Int) * 256)=_
  rw[IntKind.wrap_u64];omega
 have e2:IntKind.u64.wrap (c.toNat:Int)=(c.toNat:Int):=by rw[IntKind.wrap_u64];omega
 rw[e1,e2,bits_or_u64_nat _ _ qn qn]
 congr 1
 have h:=Nat.two_pow_add_eq_or_of_lt (i:=8) (b:=c.toNat) qn m
 rw[Nat.mul_comm m 256]
 exact h.symm
def E1 (m:Nat):Bool:=decide (m / 1099511627776 % 2=1)
theorem All (m k:Nat):m &&& 2 ^ k=if m / 2 ^ k % 2=1 then 2 ^ k else 0:=by
 apply Nat.eq_of_testBit_eq
 intro i
 rw[Nat.testBit_and,Nat.testBit_two_pow]
 by_cases hi:k=i
 ·subst hi
  rw[decide_eq_true rfl,Bool.and_true,Nat.testBit_eq_decide_div_mod_eq]
  split
  ·rename_i h;rw[decide_eq_true h,Nat.testBit_two_pow_self]
  ·rename_i h;rw[decide_eq_false h,Nat.zero_testBit]
 ·rw[decide_eq_false hi,Bool.and_false]
  split
  ·rw[Nat.testBit_two_pow,decide_eq_false hi]
  ·rw[Nat.zero_testBit]
theorem Agg (m:Nat) (h:m<18446744073709551616):(bits .and .u64 (m:Int) 1099511627776 != 0)=E1 m:=by
 have e:=bits_and_u64_nat m 1099511627776 h qx
 rw[show ((1099511627776:Nat):Int)=1099511627776 from rfl]at e
 rw[e,show (1099511627776:Nat)=2 ^ 40 from rfl,All,E1,show (1099511627776:Nat)=2 ^ 40 from rfl]
 split
 ·rename_i h;rw[decide_eq_true h];rfl
 ·rename_i h;rw[decide_eq_false h];rfl
end Go.Sy.YtmelpejjondedaaGreat
namespace Go.Sy
theorem Spec.view {P:Program} {f:FuncId} {A A':List SV} {H H':Obs} {R:SV} (hs:Sy.Spec P f A H R H') (h:∀ κ w vs,RdL κ w A' vs→RdL κ w A vs):Sy.Spec P f A' H R H' :=
 fun κ w vs hi hk hr ho=>hs κ w vs hi hk (h κ w vs hr) ho
theorem Lu {κ:Ka} {w:World} {sz:Nat} {α:Type} {e:α→SV} {v:Value} (h:Rd κ w (.val (.slice none 0 0)) v):Rd κ w (.sl sz e []) v:=by
 simp only[Rd]at h
 simp only[Rd,RdD]
 exact .inl ⟨Y,none,0,h⟩
theorem Vo {M:Nat→Prop} {w:World} {sz:Nat} {α:Type} {e:α→SV} {v:Value} (h:v=.slice none 0 0):RdD M w (.sl sz e []) v:=by
 simp only[RdD]
 exact .inl ⟨Y,none,0,h⟩
theorem Abn {C:Cx} {k:List KI} {s:SS} (d:Nat) {sz:Nat} {α β:Type} {e:α→SV} {l:List α} {e':β→SV} {l':List β} (h:s.h d=.row sz e l) (hl:l'.length=l.length)
  (hv:∀ (M:Nat→Prop) (w:World) (i:Nat) (h1:i<l.length) (h2:i<l'.length) (v:Value),RdD M w (e l[i]) v→RdD M w (e' l'[i]) v) (hg:G C k ⟨s.σ,upd s.h d (.row sz e' l')⟩):G C k s:=fun κ a w hs =>
 hg κ a w ⟨hs.defers,hs.size,hs.inv,hs.ctx,hs.slot,fun i=>by
  show ObOK κ w i (upd s.h d (.row sz e' l') i)
  by_cases hi:i=d
  ·subst hi
   rw[A6]
   have:=hs.obj i
   rw[h]at this
   rcases this with ⟨h1,rfl⟩ | ⟨b,cap,cs,T,fr,e1,e2,e3,e4,e5,e6⟩
   ·exact .inl ⟨h1,List.eq_nil_of_length_eq_zero (by simpa using hl)⟩
   ·refine .inr ⟨b,cap,cs,T,fr,by rw[hl];exact e1,e2,e3,e4,by omega,fun i x hx=>?_⟩
    obtain ⟨hi2,rfl⟩:=hx
    obtain ⟨_,u,hu,hrest⟩:=e6 i (e (l[i]'qn)) ⟨by omega,rfl⟩
    exact⟨hi2,u,hv _ _ i qn hi2 u hu,hrest⟩
  ·rw[Bq _ _ hi];exact hs.obj i⟩
theorem Aeu {κ:Ka} {w:World} {x:SV}:∀ {l:List SV} {cs:List Value} {i:Nat},RdL κ w l cs→(∀ y v,l[i]? = some y→Rd κ w y v→Rd κ w x v)→RdL κ w (l.set i x) cs
 | [],_,_,h,_=>h
 | y::l,cs,0,h,hx=>by
  simp only[RdL,List.set_cons_zero]at h ⊢
  obtain ⟨v,r,e1,e2,e3⟩:=h
  exact⟨v,r,e1,hx y v E e2,e3⟩
 | y::l,cs,i+1,h,hx=>by
  simp only[RdL,List.set_cons_succ]at h ⊢
  obtain ⟨v,r,e1,e2,e3⟩:=h
  exact⟨v,r,e1,e2,Aeu e3 (fun z u hz hu=>hx z u hz hu)⟩
theorem Abo {C:Cx} {k:List KI} {s:SS} (b i d sz:Nat) {α:Type} (e:α→SV) {l:List SV} (hb:s.h b=.box l) (h:l[i]? = some (.val (.slice none 0 0))) (hd:s.h d=.fresh) (hbd:Nat.beq b d=false)
  (hg:G C k ⟨s.σ,upd (upd s.h b (.box (l.set i (.osl d)))) d (.row sz e [])⟩):G C k s:=fun κ a w hs=>by
 have hne:b≠d:=fun e=>by rw[e,Nat.beq_refl]at hbd;cases hbd
 have hnew:κ d=.new:=by have:=hs.obj d;rwa [hd]at this
 obtain ⟨st,inv⟩:=Eo hs.inv hnew (e:=.nil) (Grew.refl w) (fun b hb=>by cases hb)
 refine hg (Ci κ d .nil) a w ⟨hs.defers,hs.size,inv,hs.ctx.step inv st,fun j=>Rd.step st _ _ (hs.slot j),fun j=>?_⟩
 show ObOK _ w j (upd (upd s.h b (.box (l.set i (.osl d)))) d (.row sz e []) j)
 by_cases hj:j=d
 ·subst hj;rw[A6];exact .inl ⟨Ap _ _ _,rfl⟩
 ·rw[Bq _ _ hj]
  by_cases hjb:j=b
  ·subst hjb
   rw[A6]
   have:=ObOK.step st hj _ (hs.obj j)
   rw[hb]at this
   obtain ⟨b',cs,T,fr,e1,e2,e3,e4,e5⟩:=this
   refine⟨b',cs,T,fr,e1,e2,e3,e4,Aeu e5 fun y v hy hv=>?_⟩
   rw[h]at hy
   cases hy
   simp only[Rd]at hv
   simp only[Rd,Ap]
   exact hv
  ·rw[Bq _ _ hjb];exact ObOK.step st hj _ (hs.obj j)
theorem Ly {P:Program} (w:World) {t e:TypeId} (h:P.underlying t=some (.slice e)) (ad:Option Addr) (n cap c1 c2:Nat):(Op.equal t (.slice ad n cap) (.slice none c1 c2)).run P w=.ok ad.isNone w:=by
 have key:∀ d,(Op.equalIn (d+1) t (.slice ad n cap) (.slice none c1 c2)).run P w=.ok ad.isNone w:=fun d=>by
  cases ad<;>simp[Op.equalIn,run_underlying h]
 exact key 9999
inductive NilT (s:SS):SV→List Nat→Nat→Prop
 | sl {sz:Nat} {α:Type} {e:α→SV} {l:List α}:NilT s (.sl sz e l) [] l.length
 | row {k sz:Nat} {α:Type} {e:α→SV} {l:List α} (h:s.h k=.row sz e l):NilT s (.osl k) [k] l.length
theorem NilT.at {C:Cx} {s:SS} {κ:Ka} {a:Act} {w:World} {x:Operand} {rd:List Nat} {n:Nat} (hs:St C.F C.n s κ a w) (hx:NilT s (ev s x) rd n):∃ (ad:Option Addr) (m cap:Nat),a.eval x=.slice ad m cap∧(ad.isNone=true→n=0):=by
 have h1:Rd κ w (ev s x) (a.eval x):=hs.ev x
 generalize ev s x=y at *
 cases hx with
 | @sl sz α e l =>
  simp only[Rd,RdD]at h1
  rcases h1 with ⟨rfl,a',cap,h1⟩ | ⟨b,off,cap,h1,_⟩
  ·exact⟨_,_,_,h1,fun _=>rfl⟩
  ·exact⟨_,_,_,h1,fun h=>by cases h⟩
 | @row k' sz α e l hr =>
  have hob:=hs.obj k'
  rw[hr]at hob
  simp only[Rd]at h1
  rcases hob with ⟨hκ,hl⟩ | ⟨b,cap,_,_,_,hκ,_⟩
  ·rw[hκ]at h1
   exact⟨_,_,_,h1,fun _=>by rw[hl];rfl⟩
  ·rw[hκ]at h1
   exact⟨_,_,_,h1,fun h=>by cases h⟩
theorem C9 {C:Cx} {k:List KI} {s:SS} {all:Array Oper} {o:Oper} {rest:List Oper} {op:BinOp} {t yt:TypeId} {ti:TI} {et:TypeId} {sz eb n:Nat} {ez:List Value} {x y:Operand} {rd:List Nat} (h:o.op=.binOp op t x y yt) (hop:op=.eql∨op=.neq)
  (ht:C.Γ.get t=some ti) (hk:ti.k=.slice et sz eb ez) (hy:ev s y=.val (.slice none 0 0)) (hx:NilT s (ev s x) rd n) (hd:Mk C.n o=true) (hw:Dc C.n all o s=some true)
  (hg:∀ b:Bool,(b=true→n=0)→G C (.ops all rest::k) (s.upd o.dst ⟨.val (.bool (if op=.eql then b else !b)),rd,[]⟩)):G C (.ops all (o::rest)::k) s:=fun κ a w hs=>by
 have h2:Rd κ w (ev s y) (a.eval y):=hs.ev y
 rw[hy]at h2
 obtain ⟨ad,m,cap,e1,e2⟩:=hx.at hs
 obtain ⟨d,info,z,k1,k2,_⟩:=C.Γ.ok t ti ht
 rw[hk]at k2
 simp only[TK.ok]at k2
 have hrun:=Ly (P:=C.P) w (t:=t) (e:=et) (by first | exact k2.1 ▸ k1 | (rw[k1,k2.1])) ad m cap 0 0
 have hG:=hg ad.isNone e2
 have hv:=h2.val
 refine wpList_step fun K hK=>?_
 rw[if_pos (M4 hs (Dk hw).2 (Dk hw).1)]
 have hx':(execOp a.eval o).run C.P w=.ok (.value (.bool (if op=.eql then ad.isNone else !ad.isNone))) w:=by
  rcases hop with rfl | rfl<;>simp[execOp,h,e1,hv,eqGuard,binOp,hrun]
 simp only[Oper.wp,hx',Oper.upon]
 exact hK _ _ (hG κ _ w (hs.put (U:=⟨.val (.bool (if op=.eql then ad.isNone else !ad.isNone)),rd,[]⟩) (Vc hd) (Step.refl _ κ w) hs.inv (by simp[Rd]) (fun p hp=>by cases hp)))
def KeepL (s:SS):List (Nat × Ob)→Prop
 | []=>True
 | (k,o)::r=>s.h k=o∧KeepL s r
theorem KeepL.all {s:SS}:∀ {l:List (Nat × Ob)},KeepL s l→∀ p∈l,s.h p.1=p.2
 | [],_,p,hp=>by cases hp
 | (k,o)::r,h,p,hp=>by
  rcases List.mem_cons.1 hp with rfl | hp
  ·exact h.1
  ·exact KeepL.all h.2 p hp
theorem stepD2 {C:Cx} {k:List KI} {s:SS} {all:Array Oper} {done:List Stp} {o:Oper} {rest:List Oper} {U:Up} (hg:Good C.P o s U) (hk:KeepL s U.objs) (hi:all[done.length]? = some o) (hw:Dc C.n all o s=some true)
  (h:DR C k all (done++[⟨done.length,o,⟨U.v,U.rd++U.ws,[]⟩,true⟩]) rest (s.upd o.dst ⟨U.v,U.rd++U.ws,[]⟩)) (hn:(Ej o || Ix o)=false:=by rfl):DR C k all done (o::rest) s :=
 Aj9 _ (.of2 (hg.keep hk.all) hn) hi (Dk hw).1 h
theorem Ae7 {κ:Ka} {w w':World} (hi:Inv κ w) (g:Grew w w'):Step (fun _=>False) κ w κ w'∧Inv κ w' :=
 ⟨⟨g.size,g.os,g.tape,g.output,rfl,fun b hb=>g.blk b (hi.mbnd b hb),fun b hb _=>g.blk b hb,fun k b _ hb=>g.blk b (hi.bnd k b hb),fun _ _=>rfl,fun _ h=>h.elim,fun _ h=>.inl h⟩,
  ⟨hi.inj,fun k b h=>Nat.lt_of_lt_of_le (hi.bnd k b h) g.size,hi.apart,fun b h=>Nat.lt_of_lt_of_le (hi.mbnd b h) g.size⟩⟩
theorem Aja {P:Program} {o:Oper} {s:SS} {x y:Operand} {at_:Array TypeId} {k k':IntKind} {m n:Int} (h:o.op=.call ⟨.builtin .min,#[x,y],at_⟩)
  (hx:ev s x=.val (.int k m)) (hy:ev s y=.val (.int k' n)):Good P o s ⟨.val (.int k (if n<m then n else m)),[],[]⟩ :=
 Good.pure fun κ a w _ hr ho=>by
  have h1:=hr x (by simp[h,Op.operands,Call.operands])
  have h2:=hr y (by simp[h,Op.operands,Call.operands])
  rw[hx]at h1
  rw[hy]at h2
  refine⟨.int k (if n<m then n else m),?_,by simp[Rd]⟩
  simp[execOp,h,resolve,invoke,builtin,Builtin.min_,Builtin.min2,h1.val,h2.val]
end Go.Sy
namespace Go.Sy.YtmelpejjondedaaGreat
open Go.Proofs
attribute [local irreducible] Go.Sy.G Go.Sy.DR
set_option maxRecDepth 20000
set_option maxHeartbeats 4000000
theorem D6 {α:Type} (sz:Nat) (e:α→SV) (l:List α) (i:Int):Sy.Spec Tryz.prog 126 [.sl sz e l,Aa i] [] (Ad (Aj i l.length)) []:=Ab Γ hm 100 F126 Tryz.ntmps126 rfl fun F hF=>by
 conv=>whnf
 (repeat' (first | (refine⟨fun h=>?_,fun h=>?_⟩<;>(repeat (first | simp only[decide_eq_true_eq]at h | simp only[decide_eq_false_iff_not]at h))<;>((refine rg ?_);(conv=>whnf))) | (refine Ac rfl (.cons .tmp .nil) ?_ rfl)))
 all_goals (refine congrArg Ad ?_)
 all_goals grind [Aj]
theorem Aca {α:Type} (sz:Nat) (e:α→SV) (l:List α) (i:Int):Sy.Spec Tryz.prog 190 [.sl sz e l,Aa i] [] (Ad (Aj i l.length)) []:=Ab Γ hm 100 F190 Tryz.ntmps190 rfl fun F hF=>by
 conv=>whnf
 (repeat' (first | (refine⟨fun h=>?_,fun h=>?_⟩<;>(repeat (first | simp only[decide_eq_true_eq]at h | simp only[decide_eq_false_iff_not]at h))<;>((refine rg ?_);(conv=>whnf))) | (refine Ac rfl (.cons .tmp .nil) ?_ rfl)))
 all_goals (refine congrArg Ad ?_)
 all_goals grind [Aj]
theorem Zz {α:Type} (sz:Nat) (e:α→SV) (l:List α) (i:Int):Sy.Spec Tryz.prog 195 [.sl sz e l,Aa i] [] (Ad (Aj i l.length)) []:=Ab Γ hm 100 F195 Tryz.ntmps195 rfl fun F hF=>by
 conv=>whnf
 (repeat' (first | (refine⟨fun h=>?_,fun h=>?_⟩<;>(repeat (first | simp only[decide_eq_true_eq]at h | simp only[decide_eq_false_iff_not]at h))<;>((refine rg ?_);(conv=>whnf))) | (refine Ac rfl (.cons .tmp .nil) ?_ rfl)))
 all_goals (refine congrArg Ad ?_)
 all_goals grind [Aj]
theorem Ko {α:Type} (sz:Nat) (e:α→SV) (l:List α) (i:Int):Sy.Spec Tryz.prog 196 [.sl sz e l,Aa i] [] (Ad (Aj i l.length)) []:=Ab Γ hm 100 F196 Tryz.ntmps196 rfl fun F hF=>by
 conv=>whnf
 (repeat' (first | (refine⟨fun h=>?_,fun h=>?_⟩<;>(repeat (first | simp only[decide_eq_true_eq]at h | simp only[decide_eq_false_iff_not]at h))<;>((refine rg ?_);(conv=>whnf))) | (refine Ac rfl (.cons .tmp .nil) ?_ rfl)))
 all_goals (refine congrArg Ad ?_)
 all_goals grind [Aj]
theorem E6 {α:Type} (sz:Nat) (e:α→SV) (l:List α) (i:Int):Sy.Spec Tryz.prog 197 [.sl sz e l,Aa i] [] (Ad (Aj i l.length)) []:=Ab Γ hm 100 F197 Tryz.ntmps197 rfl fun F hF=>by
 conv=>whnf
 (repeat' (first | (refine⟨fun h=>?_,fun h=>?_⟩<;>(repeat (first | simp only[decide_eq_true_eq]at h | simp only[decide_eq_false_iff_not]at h))<;>((refine rg ?_);(conv=>whnf))) | (refine Ac rfl (.cons .tmp .nil) ?_ rfl)))
 all_goals (refine congrArg Ad ?_)
 all_goals grind [Aj]
theorem Ab9 {α:Type} (sz:Nat) (e:α→SV) (l:List α) (i:Int):Sy.Spec Tryz.prog 200 [.sl sz e l,Aa i] [] (Ad (Aj i l.length)) []:=Ab Γ hm 100 F200 Tryz.ntmps200 rfl fun F hF=>by
 conv=>whnf
 (repeat' (first | (refine⟨fun h=>?_,fun h=>?_⟩<;>(repeat (first | simp only[decide_eq_true_eq]at h | simp only[decide_eq_false_iff_not]at h))<;>((refine rg ?_);(conv=>whnf))) | (refine Ac rfl (.cons .tmp .nil) ?_ rfl)))
 all_goals (refine congrArg Ad ?_)
 all_goals grind [Aj]
theorem Ai1 (l:List Int) (x:Int) (hl:Am l):Sy.Spec Tryz.prog 161 [.sl 1 Aa l,Aa x] [] (Aa (Dl (· == x) l)) []:=Ab Γ hm 100 F161 Tryz.ntmps161 rfl fun F hF=>by
 unfold Am at hl
 conv=>whnf
 refine Bc l.length (fun j=>∀ i (h:i<l.length),i<j→(l[i] == x)=false) (fun j=>[(0,.sl 1 Aa l),(1,Aa x),(7,Aa l.length),(8,Aa j)]) (fun _=>[]) [] (fun i h hj=>absurd hj qn) ⟨⟨E,E,E,E,E,E,E,E,Y⟩,Y,E,E⟩ ?_
 intro j hj hI
 refine rg ?_;conv=>whnf
 (repeat' (first | (refine⟨fun h=>?_,fun h=>?_⟩<;>(repeat (first | simp only[decide_eq_true_eq]at h | simp only[decide_eq_false_iff_not]at h | simp only[beq_iff_eq]at h | simp only[beq_eq_false_iff_ne]at h))<;>((refine rg ?_);(conv=>whnf))) | (refine Ac rfl (.cons .tmp .nil) ?_ rfl) | (refine⟨qq,?_⟩;((conv=>whnf))) | (refine⟨by (omega),by (omega),?_⟩;((conv=>whnf))) | (refine⟨by (unfold I64;omega),?_⟩;((conv=>whnf))) | refine Ba [] hI qn ?_ ⟨⟨rfl,rfl,rfl,rfl,rfl,rfl,rfl,rfl,trivial⟩,trivial,rfl,rfl⟩))
 all_goals try (refine congrArg Aa ?_)
 ·exact Ed qn hI (by simpa using h.symm)
 ·intro i hi hij
  rcases Nat.lt_or_ge i j with h1 | h1
  ·exact hI i hi h1
  ·have:i=j:=by omega
   subst this
   simpa using Ne.symm h
 ·exact Ez (fun i hi=>hI i hi qn)
theorem C6 (l:List Int) (x:Int) (hl:Am l):Sy.Spec Tryz.prog 86 [.sl 1 Aa l,Aa x] [] (Ad (inB l x)) []:=Ab Γ hm 100 F86 Tryz.ntmps86 rfl fun F hF=>by
 conv=>whnf
 (repeat' (first | (refine Ac rfl (.cons .tmp .nil) ?_ rfl) | (refine Ag (Ai1 _ _ hl) F161 rfl rfl rfl rfl rfl ?_;((refine rg ?_);(conv=>whnf)))))
 exact congrArg Ad (Aao _ _).symm
def Jx (p:Port) (v:Int):Bool:=v != 0 && (v == p.native || inB p.tagged v)
theorem X8 (p:Port) (v:Int) (hl:Am p.tagged):Sy.Spec Tryz.prog 198 [A9 p,Aa v] [] (Ad (Jx p v)) []:=Ab Γ hm 100 F198 Tryz.ntmps198 rfl fun F hF=>by
 conv=>whnf
 (repeat' (first | (refine⟨fun h=>?_,fun h=>?_⟩<;>(repeat (first | simp only[beq_iff_eq]at h | simp only[beq_eq_false_iff_ne]at h | simp only[bne_iff_ne]at h | simp only[bne_eq_false_iff_eq]at h))<;>((refine rg ?_);(conv=>whnf))) | (refine Ac rfl (.cons .tmp .nil) ?_ rfl) | (refine Ag (C6 _ _ hl) F86 rfl rfl rfl rfl rfl ?_;((refine rg ?_);(conv=>whnf)))))
 all_goals (refine congrArg Ad ?_)
 all_goals grind [Jx]
def T7 (l:List Int) (least most:Int) (i:Nat) (x:Int):Bool:=decide (least≤x) && decide (x≤most) && (i == 0 || decide (nth l ((i:Int)-1)<x))
def Hq (l:List Int) (least most:Int):Bool:=decide (0<l.length) && decide (l.length≤16) && El (T7 l least most) l
theorem Acm (l:List Int) (least most:Int) (hl:Am l):Sy.Spec Tryz.prog 199 [.sl 1 Aa l,Aa least,Aa most] [] (Ad (Hq l least most)) []:=Ab Γ hm 100 F199 Tryz.ntmps199 rfl fun F hF=>by
 unfold Am at hl
 conv=>whnf
 refine Bc l.length (fun j=>Em (T7 l least most) l j) (fun j=>[(0,.sl 1 Aa l),(1,Aa least),(2,Aa most),(9,.sl 1 Aa l),(10,Aa l.length),(11,Aa j)]) (fun _=>[]) [] (Be _ _) ⟨⟨E,E,E,E,E,E,E,E,E,E,E,E,Y⟩,Y,E,E⟩ ?_
 intro j hj hI
 refine rg ?_;conv=>whnf
 (repeat' (first | (refine⟨fun h=>?_,fun h=>?_⟩<;>(repeat (first | simp only[decide_eq_true_eq]at h | simp only[decide_eq_false_iff_not]at h))<;>((refine rg ?_);(conv=>whnf);repeat((first|refine aF ?_|refine aT ?_);(refine rg ?_);(conv=>whnf)))) | (refine Ac rfl (.cons .tmp .nil) ?_ rfl) | (refine⟨qq,?_⟩;((conv=>whnf))) | (refine⟨by (first | (unfold I64;omega) | omega),by (omega),?_⟩;((conv=>whnf))) | (refine⟨by (unfold I64;omega),?_⟩;((conv=>whnf))) | refine Ba [] hI qn ?_ ⟨⟨rfl,rfl,rfl,rfl,rfl,rfl,rfl,rfl,rfl,rfl,rfl,rfl,trivial⟩,trivial,rfl,rfl⟩))
 all_goals try (refine congrArg Ad ?_)
 all_goals try simp only[Int.toNat_natCast,Int.pred_toNat]at *
 ·rw[Hq,B5 (i:=j) qn (by simp[T7];omega)];simp
 ·rw[Hq,B5 (i:=j) qn (by simp[T7];omega)];simp
 ·rw[Hq,B5 (i:=j) qn (by simp only[T7,An (show ((j:Int)-1).toNat<l.length by omega),Int.pred_toNat,Int.toNat_natCast];simp;omega)];simp
 ·exact Bb hI qn (by simp only[T7,An (show ((j:Int)-1).toNat<l.length by omega),Int.pred_toNat,Int.toNat_natCast];simp;omega)
 ·exact Bb hI qn (by simp[T7];omega)
 ·rw[Hq,Dp hI qn,Bool.eq_iff_iff];simp;omega
 ·rw[Hq];simp;omega
theorem Xv (l:List Int) (most:Int) (hl:Am l):Sy.Spec Tryz.prog 129 [.sl 1 Aa l,Aa most] [] (Ad (decide (l.length=0) || Hq l 1 most)) []:=Ab Γ hm 100 F129 Tryz.ntmps129 rfl fun F hF=>by
 conv=>whnf
 (repeat' (first | (refine⟨fun h=>?_,fun h=>?_⟩<;>(repeat (first | simp only[beq_iff_eq]at h | simp only[beq_eq_false_iff_ne]at h))<;>((refine rg ?_);(conv=>whnf))) | (refine Ac rfl (.cons .tmp .nil) ?_ rfl) | (refine Ag (Acm l 1 most hl) F199 rfl rfl rfl rfl rfl ?_;((refine rg ?_);(conv=>whnf)))))
 all_goals (refine congrArg Ad ?_)
 all_goals grind
theorem Ku {K:List Nat}:∀ (a b:List SV),B1 K (a++b)=(B1 K a && B1 K b)
 | [],b=>by simp[B1]
 | x::a,b=>by simp[B1,Ku a b,Bool.and_assoc]
theorem Cn {f:FuncId} {first cap xs:List SV} (hc:(SV.clo (.func f) first cap).inn []=true) (hx:B1 [] xs=true):B1 [] (first++xs++cap)=true:=by
 simp only[SV.inn,Bool.and_eq_true]at hc
 rw[Ku,Ku,hc.1,hc.2,hx]
 rfl
theorem Es (l:List Domain) (p:Domain→Bool) (f:FuncId) (first cap:List SV) (hc:(SV.clo (.func f) first cap).inn []=true) (hf:∀ x∈l,Hj Tryz.prog f (first++[Au x]++cap) (Ad (p x))) (hl:Am l) :
  Sy.Spec Tryz.prog 262 [.sl 6 Au l,.clo (.func f) first cap] [] (Aa (Dl p l)) []:=Ab Γ hm 100 F262 Tryz.ntmps262 rfl fun F hF=>by
 unfold Am at hl
 have hin:∀ x:Domain,B1 [] (first++[Au x]++cap)=true:=fun x=>Cn hc rfl
 conv=>whnf
 refine Bc l.length (fun j=>Em (fun _ x=>!(p x)) l j) (fun j=>[(0,.sl 6 Au l),(1,.clo (.func f) first cap),(7,Aa l.length),(8,Aa j)]) (fun _=>[]) [] (Be _ _) ⟨⟨E,E,A2 _,hc,E,E,E,E,Y⟩,Y,E,E⟩ ?_
 intro j hj hI
 refine rg ?_;conv=>whnf
 refine⟨fun h=>?_,fun h=>?_⟩
 ·have h:=of_decide_eq_true h
  have hj2:j<l.length:=by omega
  refine rg ?_;conv=>whnf
  refine⟨E,by omega,by omega,?_⟩
  conv=>whnf
  refine Dv (hf l[j] (List.getElem_mem hj2)) E E E (by simp only[hin];rfl) E E ?_
  refine rg ?_;conv=>whnf
  refine⟨fun h2=>?_,fun h2=>?_⟩
  ·refine rg ?_;conv=>whnf
   refine Ac E (.cons .tmp .nil) (congrArg Aa ?_) E
   exact Ed hj2 (fun i hi hij=>by simpa using hI i hi hij) h2
  ·refine rg ?_;conv=>whnf
   refine⟨by unfold I64;omega,?_⟩
   conv=>whnf
   exact Ba [] hI hj2 (Bb hI hj2 (by simp[h2])) ⟨⟨E,E,A2 _,hc,E,E,E,E,Y⟩,Y,E,E⟩
 ·have h:=of_decide_eq_false h
  refine rg ?_;conv=>whnf
  refine Ac E (.cons .tmp .nil) (congrArg Aa ?_) E
  exact Ez (fun i hi=>by simpa using hI i hi qn)
theorem Tc (l:List Port) (p:Port→Bool) (f:FuncId) (first cap:List SV) (hc:(SV.clo (.func f) first cap).inn []=true) (hf:∀ x∈l,Hj Tryz.prog f (first++[A9 x]++cap) (Ad (p x))) (hl:Am l) :
  Sy.Spec Tryz.prog 281 [.sl 7 A9 l,.clo (.func f) first cap] [] (Aa (Dl p l)) []:=Ab Γ hm 100 F281 Tryz.ntmps281 rfl fun F hF=>by
 unfold Am at hl
 have hin:∀ x:Port,B1 [] (first++[A9 x]++cap)=true:=fun x=>Cn hc rfl
 conv=>whnf
 refine Bc l.length (fun j=>Em (fun _ x=>!(p x)) l j) (fun j=>[(0,.sl 7 A9 l),(1,.clo (.func f) first cap),(7,Aa l.length),(8,Aa j)]) (fun _=>[]) [] (Be _ _) ⟨⟨E,E,A2 _,hc,E,E,E,E,Y⟩,Y,E,E⟩ ?_
 intro j hj hI
 refine rg ?_;conv=>whnf
 refine⟨fun h=>?_,fun h=>?_⟩
 ·have h:=of_decide_eq_true h
  have hj2:j<l.length:=by omega
  refine rg ?_;conv=>whnf
  refine⟨E,by omega,by omega,?_⟩
  conv=>whnf
  refine Dv (hf l[j] (List.getElem_mem hj2)) E E E (by simp only[hin];rfl) E E ?_
  refine rg ?_;conv=>whnf
  refine⟨fun h2=>?_,fun h2=>?_⟩
  ·refine rg ?_;conv=>whnf
   refine Ac E (.cons .tmp .nil) (congrArg Aa ?_) E
   exact Ed hj2 (fun i hi hij=>by simpa using hI i hi hij) h2
  ·refine rg ?_;conv=>whnf
   refine⟨by unfold I64;omega,?_⟩
   conv=>whnf
   exact Ba [] hI hj2 (Bb hI hj2 (by simp[h2])) ⟨⟨E,E,A2 _,hc,E,E,E,E,Y⟩,Y,E,E⟩
 ·have h:=of_decide_eq_false h
  refine rg ?_;conv=>whnf
  refine Ac E (.cons .tmp .nil) (congrArg Aa ?_) E
  exact Ez (fun i hi=>by simpa using hI i hi qn)
theorem Agw (l:List Port) (p:Nat→Port→Bool) (f:FuncId) (first cap:List SV) (hc:(SV.clo (.func f) first cap).inn []=true) (hf:∀ i (h:i<l.length),Hj Tryz.prog f (first++[Aa i,A9 l[i]]++cap) (Ad (p i l[i]))) (hl:Am l) :
  Sy.Spec Tryz.prog 118 [.sl 7 A9 l,.clo (.func f) first cap] [] (Ad (El p l)) []:=Ab Γ hm 100 F118 Tryz.ntmps118 rfl fun F hF=>by
 unfold Am at hl
 have hin:∀ (i:Nat) (x:Port),B1 [] (first++[Aa i,A9 x]++cap)=true:=fun i x=>Cn hc rfl
 conv=>whnf
 refine Bc l.length (fun j=>Em p l j) (fun j=>[(0,.sl 7 A9 l),(1,.clo (.func f) first cap),(7,.sl 7 A9 l),(8,Aa l.length),(9,Aa j)]) (fun _=>[]) [] (Be _ _) ⟨⟨E,E,A2 _,hc,E,E,E,E,E,E,Y⟩,Y,E,E⟩ ?_
 intro j hj hI
 refine rg ?_;conv=>whnf
 refine⟨fun h=>?_,fun h=>?_⟩
 ·have h:=of_decide_eq_true h
  have hj2:j<l.length:=by omega
  refine rg ?_;conv=>whnf
  refine⟨E,by omega,by omega,?_⟩
  conv=>whnf
  refine Dv (hf j hj2) E E E (by simp only[hin];rfl) E E ?_
  refine rg ?_;conv=>whnf
  refine⟨fun h2=>?_,fun h2=>?_⟩
  ·refine rg ?_;conv=>whnf
   refine Ac E (.cons .tmp .nil) (congrArg Ad ?_) E
   exact B5 hj2 (by simpa using h2)
  ·refine rg ?_;conv=>whnf
   refine⟨by unfold I64;omega,?_⟩
   conv=>whnf
   exact Ba [] hI hj2 (Bb hI hj2 (by simpa using h2)) ⟨⟨E,E,A2 _,hc,E,E,E,E,E,E,Y⟩,Y,E,E⟩
 ·have h:=of_decide_eq_false h
  refine rg ?_;conv=>whnf
  refine Ac E (.cons .tmp .nil) (congrArg Ad ?_) E
  exact Dp hI qn
theorem Agx (l:List Link) (p:Nat→Link→Bool) (f:FuncId) (first cap:List SV) (hc:(SV.clo (.func f) first cap).inn []=true) (hf:∀ i (h:i<l.length),Hj Tryz.prog f (first++[Aa i,Cf l[i]]++cap) (Ad (p i l[i]))) (hl:Am l) :
  Sy.Spec Tryz.prog 120 [.sl 3 Cf l,.clo (.func f) first cap] [] (Ad (El p l)) []:=Ab Γ hm 100 F120 Tryz.ntmps120 rfl fun F hF=>by
 unfold Am at hl
 have hin:∀ (i:Nat) (x:Link),B1 [] (first++[Aa i,Cf x]++cap)=true:=fun i x=>Cn hc rfl
 conv=>whnf
 refine Bc l.length (fun j=>Em p l j) (fun j=>[(0,.sl 3 Cf l),(1,.clo (.func f) first cap),(7,.sl 3 Cf l),(8,Aa l.length),(9,Aa j)]) (fun _=>[]) [] (Be _ _) ⟨⟨E,E,A2 _,hc,E,E,E,E,E,E,Y⟩,Y,E,E⟩ ?_
 intro j hj hI
 refine rg ?_;conv=>whnf
 refine⟨fun h=>?_,fun h=>?_⟩
 ·have h:=of_decide_eq_true h
  have hj2:j<l.length:=by omega
  refine rg ?_;conv=>whnf
  refine⟨E,by omega,by omega,?_⟩
  conv=>whnf
  refine Dv (hf j hj2) E E E (by simp only[hin];rfl) E E ?_
  refine rg ?_;conv=>whnf
  refine⟨fun h2=>?_,fun h2=>?_⟩
  ·refine rg ?_;conv=>whnf
   refine Ac E (.cons .tmp .nil) (congrArg Ad ?_) E
   exact B5 hj2 (by simpa using h2)
  ·refine rg ?_;conv=>whnf
   refine⟨by unfold I64;omega,?_⟩
   conv=>whnf
   exact Ba [] hI hj2 (Bb hI hj2 (by simpa using h2)) ⟨⟨E,E,A2 _,hc,E,E,E,E,E,E,Y⟩,Y,E,E⟩
 ·have h:=of_decide_eq_false h
  refine rg ?_;conv=>whnf
  refine Ac E (.cons .tmp .nil) (congrArg Ad ?_) E
  exact Dp hI qn
theorem S5 (l:List Domain) (p:Nat→Domain→Bool) (f:FuncId) (first cap:List SV) (hc:(SV.clo (.func f) first cap).inn []=true) (hf:∀ i (h:i<l.length),Hj Tryz.prog f (first++[Aa i,Au l[i]]++cap) (Ad (p i l[i]))) (hl:Am l) :
  Sy.Spec Tryz.prog 115 [.sl 6 Au l,.clo (.func f) first cap] [] (Ad (El p l)) []:=Ab Γ hm 100 F115 Tryz.ntmps115 rfl fun F hF=>by
 unfold Am at hl
 have hin:∀ (i:Nat) (x:Domain),B1 [] (first++[Aa i,Au x]++cap)=true:=fun i x=>Cn hc rfl
 conv=>whnf
 refine Bc l.length (fun j=>Em p l j) (fun j=>[(0,.sl 6 Au l),(1,.clo (.func f) first cap),(7,.sl 6 Au l),(8,Aa l.length),(9,Aa j)]) (fun _=>[]) [] (Be _ _) ⟨⟨E,E,A2 _,hc,E,E,E,E,E,E,Y⟩,Y,E,E⟩ ?_
 intro j hj hI
 refine rg ?_;conv=>whnf
 refine⟨fun h=>?_,fun h=>?_⟩
 ·have h:=of_decide_eq_true h
  have hj2:j<l.length:=by omega
  refine rg ?_;conv=>whnf
  refine⟨E,by omega,by omega,?_⟩
  conv=>whnf
  refine Dv (hf j hj2) E E E (by simp only[hin];rfl) E E ?_
  refine rg ?_;conv=>whnf
  refine⟨fun h2=>?_,fun h2=>?_⟩
  ·refine rg ?_;conv=>whnf
   refine Ac E (.cons .tmp .nil) (congrArg Ad ?_) E
   exact B5 hj2 (by simpa using h2)
  ·refine rg ?_;conv=>whnf
   refine⟨by unfold I64;omega,?_⟩
   conv=>whnf
   exact Ba [] hI hj2 (Bb hI hj2 (by simpa using h2)) ⟨⟨E,E,A2 _,hc,E,E,E,E,E,E,Y⟩,Y,E,E⟩
 ·have h:=of_decide_eq_false h
  refine rg ?_;conv=>whnf
  refine Ac E (.cons .tmp .nil) (congrArg Ad ?_) E
  exact Dp hI qn
theorem Abi (l:List Static) (p:Nat→Static→Bool) (f:FuncId) (first cap:List SV) (hc:(SV.clo (.func f) first cap).inn []=true) (hf:∀ i (h:i<l.length),Hj Tryz.prog f (first++[Aa i,Bf l[i]]++cap) (Ad (p i l[i]))) (hl:Am l) :
  Sy.Spec Tryz.prog 122 [.sl 4 Bf l,.clo (.func f) first cap] [] (Ad (El p l)) []:=Ab Γ hm 100 F122 Tryz.ntmps122 rfl fun F hF=>by
 unfold Am at hl
 have hin:∀ (i:Nat) (x:Static),B1 [] (first++[Aa i,Bf x]++cap)=true:=fun i x=>Cn hc rfl
 conv=>whnf
 refine Bc l.length (fun j=>Em p l j) (fun j=>[(0,.sl 4 Bf l),(1,.clo (.func f) first cap),(7,.sl 4 Bf l),(8,Aa l.length),(9,Aa j)]) (fun _=>[]) [] (Be _ _) ⟨⟨E,E,A2 _,hc,E,E,E,E,E,E,Y⟩,Y,E,E⟩ ?_
 intro j hj hI
 refine rg ?_;conv=>whnf
 refine⟨fun h=>?_,fun h=>?_⟩
 ·have h:=of_decide_eq_true h
  have hj2:j<l.length:=by omega
  refine rg ?_;conv=>whnf
  refine⟨E,by omega,by omega,?_⟩
  conv=>whnf
  refine Dv (hf j hj2) E E E (by simp only[hin];rfl) E E ?_
  refine rg ?_;conv=>whnf
  refine⟨fun h2=>?_,fun h2=>?_⟩
  ·refine rg ?_;conv=>whnf
   refine Ac E (.cons .tmp .nil) (congrArg Ad ?_) E
   exact B5 hj2 (by simpa using h2)
  ·refine rg ?_;conv=>whnf
   refine⟨by unfold I64;omega,?_⟩
   conv=>whnf
   exact Ba [] hI hj2 (Bb hI hj2 (by simpa using h2)) ⟨⟨E,E,A2 _,hc,E,E,E,E,E,E,Y⟩,Y,E,E⟩
 ·have h:=of_decide_eq_false h
  refine rg ?_;conv=>whnf
  refine Ac E (.cons .tmp .nil) (congrArg Ad ?_) E
  exact Dp hI qn
theorem Adr (l:List Flood) (p:Nat→Flood→Bool) (f:FuncId) (first cap:List SV) (hc:(SV.clo (.func f) first cap).inn []=true) (hf:∀ i (h:i<l.length),Hj Tryz.prog f (first++[Aa i,Bw l[i]]++cap) (Ad (p i l[i]))) (hl:Am l) :
  Sy.Spec Tryz.prog 124 [.sl 4 Bw l,.clo (.func f) first cap] [] (Ad (El p l)) []:=Ab Γ hm 100 F124 Tryz.ntmps124 rfl fun F hF=>by
 unfold Am at hl
 have hin:∀ (i:Nat) (x:Flood),B1 [] (first++[Aa i,Bw x]++cap)=true:=fun i x=>Cn hc rfl
 conv=>whnf
 refine Bc l.length (fun j=>Em p l j) (fun j=>[(0,.sl 4 Bw l),(1,.clo (.func f) first cap),(7,.sl 4 Bw l),(8,Aa l.length),(9,Aa j)]) (fun _=>[]) [] (Be _ _) ⟨⟨E,E,A2 _,hc,E,E,E,E,E,E,Y⟩,Y,E,E⟩ ?_
 intro j hj hI
 refine rg ?_;conv=>whnf
 refine⟨fun h=>?_,fun h=>?_⟩
 ·have h:=of_decide_eq_true h
  have hj2:j<l.length:=by omega
  refine rg ?_;conv=>whnf
  refine⟨E,by omega,by omega,?_⟩
  conv=>whnf
  refine Dv (hf j hj2) E E E (by simp only[hin];rfl) E E ?_
  refine rg ?_;conv=>whnf
  refine⟨fun h2=>?_,fun h2=>?_⟩
  ·refine rg ?_;conv=>whnf
   refine Ac E (.cons .tmp .nil) (congrArg Ad ?_) E
   exact B5 hj2 (by simpa using h2)
  ·refine rg ?_;conv=>whnf
   refine⟨by unfold I64;omega,?_⟩
   conv=>whnf
   exact Ba [] hI hj2 (Bb hI hj2 (by simpa using h2)) ⟨⟨E,E,A2 _,hc,E,E,E,E,E,E,Y⟩,Y,E,E⟩
 ·have h:=of_decide_eq_false h
  refine rg ?_;conv=>whnf
  refine Ac E (.cons .tmp .nil) (congrArg Ad ?_) E
  exact Dp hI qn
theorem Aj2 (l:List Vrf) (p:Nat→Vrf→Bool) (f:FuncId) (first cap:List SV) (hc:(SV.clo (.func f) first cap).inn []=true) (hf:∀ i (h:i<l.length),Hj Tryz.prog f (first++[Aa i,Ct l[i]]++cap) (Ad (p i l[i]))) (hl:Am l) :
  Sy.Spec Tryz.prog 127 [.sl 5 Ct l,.clo (.func f) first cap] [] (Ad (El p l)) []:=Ab Γ hm 100 F127 Tryz.ntmps127 rfl fun F hF=>by
 unfold Am at hl
 have hin:∀ (i:Nat) (x:Vrf),B1 [] (first++[Aa i,Ct x]++cap)=true:=fun i x=>Cn hc rfl
 conv=>whnf
 refine Bc l.length (fun j=>Em p l j) (fun j=>[(0,.sl 5 Ct l),(1,.clo (.func f) first cap),(7,.sl 5 Ct l),(8,Aa l.length),(9,Aa j)]) (fun _=>[]) [] (Be _ _) ⟨⟨E,E,A2 _,hc,E,E,E,E,E,E,Y⟩,Y,E,E⟩ ?_
 intro j hj hI
 refine rg ?_;conv=>whnf
 refine⟨fun h=>?_,fun h=>?_⟩
 ·have h:=of_decide_eq_true h
  have hj2:j<l.length:=by omega
  refine rg ?_;conv=>whnf
  refine⟨E,by omega,by omega,?_⟩
  conv=>whnf
  refine Dv (hf j hj2) E E E (by simp only[hin];rfl) E E ?_
  refine rg ?_;conv=>whnf
  refine⟨fun h2=>?_,fun h2=>?_⟩
  ·refine rg ?_;conv=>whnf
   refine Ac E (.cons .tmp .nil) (congrArg Ad ?_) E
   exact B5 hj2 (by simpa using h2)
  ·refine rg ?_;conv=>whnf
   refine⟨by unfold I64;omega,?_⟩
   conv=>whnf
   exact Ba [] hI hj2 (Bb hI hj2 (by simpa using h2)) ⟨⟨E,E,A2 _,hc,E,E,E,E,E,E,Y⟩,Y,E,E⟩
 ·have h:=of_decide_eq_false h
  refine rg ?_;conv=>whnf
  refine Ac E (.cons .tmp .nil) (congrArg Ad ?_) E
  exact Dp hI qn
theorem Aj3 (l:List Irb) (p:Nat→Irb→Bool) (f:FuncId) (first cap:List SV) (hc:(SV.clo (.func f) first cap).inn []=true) (hf:∀ i (h:i<l.length),Hj Tryz.prog f (first++[Aa i,Dn l[i]]++cap) (Ad (p i l[i]))) (hl:Am l) :
  Sy.Spec Tryz.prog 130 [.sl 5 Dn l,.clo (.func f) first cap] [] (Ad (El p l)) []:=Ab Γ hm 100 F130 Tryz.ntmps130 rfl fun F hF=>by
 unfold Am at hl
 have hin:∀ (i:Nat) (x:Irb),B1 [] (first++[Aa i,Dn x]++cap)=true:=fun i x=>Cn hc rfl
 conv=>whnf
 refine Bc l.length (fun j=>Em p l j) (fun j=>[(0,.sl 5 Dn l),(1,.clo (.func f) first cap),(7,.sl 5 Dn l),(8,Aa l.length),(9,Aa j)]) (fun _=>[]) [] (Be _ _) ⟨⟨E,E,A2 _,hc,E,E,E,E,E,E,Y⟩,Y,E,E⟩ ?_
 intro j hj hI
 refine rg ?_;conv=>whnf
 refine⟨fun h=>?_,fun h=>?_⟩
 ·have h:=of_decide_eq_true h
  have hj2:j<l.length:=by omega
  refine rg ?_;conv=>whnf
  refine⟨E,by omega,by omega,?_⟩
  conv=>whnf
  refine Dv (hf j hj2) E E E (by simp only[hin];rfl) E E ?_
  refine rg ?_;conv=>whnf
  refine⟨fun h2=>?_,fun h2=>?_⟩
  ·refine rg ?_;conv=>whnf
   refine Ac E (.cons .tmp .nil) (congrArg Ad ?_) E
   exact B5 hj2 (by simpa using h2)
  ·refine rg ?_;conv=>whnf
   refine⟨by unfold I64;omega,?_⟩
   conv=>whnf
   exact Ba [] hI hj2 (Bb hI hj2 (by simpa using h2)) ⟨⟨E,E,A2 _,hc,E,E,E,E,E,E,Y⟩,Y,E,E⟩
 ·have h:=of_decide_eq_false h
  refine rg ?_;conv=>whnf
  refine Ac E (.cons .tmp .nil) (congrArg Ad ?_) E
  exact Dp hI qn
theorem Aj1 (l:List Int) (p:Nat→Int→Bool) (f:FuncId) (first cap:List SV) (hc:(SV.clo (.func f) first cap).inn []=true) (hf:∀ i (h:i<l.length),Hj Tryz.prog f (first++[Aa i,Aa l[i]]++cap) (Ad (p i l[i]))) (hl:Am l) :
  Sy.Spec Tryz.prog 192 [.sl 1 Aa l,.clo (.func f) first cap] [] (Ad (El p l)) []:=Ab Γ hm 100 F192 Tryz.ntmps192 rfl fun F hF=>by
 unfold Am at hl
 have hin:∀ (i:Nat) (x:Int),B1 [] (first++[Aa i,Aa x]++cap)=true:=fun i x=>Cn hc rfl
 conv=>whnf
 refine Bc l.length (fun j=>Em p l j) (fun j=>[(0,.sl 1 Aa l),(1,.clo (.func f) first cap),(7,.sl 1 Aa l),(8,Aa l.length),(9,Aa j)]) (fun _=>[]) [] (Be _ _) ⟨⟨E,E,A2 _,hc,E,E,E,E,E,E,Y⟩,Y,E,E⟩ ?_
 intro j hj hI
 refine rg ?_;conv=>whnf
 refine⟨fun h=>?_,fun h=>?_⟩
 ·have h:=of_decide_eq_true h
  have hj2:j<l.length:=by omega
  refine rg ?_;conv=>whnf
  refine⟨E,by omega,by omega,?_⟩
  conv=>whnf
  refine Dv (hf j hj2) E E E (by simp only[hin];rfl) E E ?_
  refine rg ?_;conv=>whnf
  refine⟨fun h2=>?_,fun h2=>?_⟩
  ·refine rg ?_;conv=>whnf
   refine Ac E (.cons .tmp .nil) (congrArg Ad ?_) E
   exact B5 hj2 (by simpa using h2)
  ·refine rg ?_;conv=>whnf
   refine⟨by unfold I64;omega,?_⟩
   conv=>whnf
   exact Ba [] hI hj2 (Bb hI hj2 (by simpa using h2)) ⟨⟨E,E,A2 _,hc,E,E,E,E,E,E,Y⟩,Y,E,E⟩
 ·have h:=of_decide_eq_false h
  refine rg ?_;conv=>whnf
  refine Ac E (.cons .tmp .nil) (congrArg Ad ?_) E
  exact Dp hI qn
structure Net.Fin (n:Net):Prop where
 devices:Am n.devices
 ports:Am n.ports
 links:Am n.links
 domains:Am n.domains
 statics:Am n.statics
 floods:Am n.floods
 vrfs:Am n.vrfs
 irbs:Am n.irbs
 tagged:∀ p∈n.ports,Am p.tagged
 peers:∀ d∈n.domains,Am d.peers
 addrs:∀ f∈n.floods,Am f.addrs
 imports:∀ v∈n.vrfs,Am v.imports
 exports:∀ v∈n.vrfs,Am v.exports
def Aa6 (n:Net) (dev vlan:Int):Int:=Dl (fun d=>d.dev == dev && d.vlan == vlan) n.domains
theorem Alf (dev vlan:Int) (d:Domain):Sy.Spec Tryz.prog 263 [Au d,.ref 1 (Aa dev) 0,.ref 1 (Aa vlan) 0] [] (Ad (d.dev == dev && d.vlan == vlan)) []:=Ab Γ hm 100 F263 Tryz.ntmps263 rfl fun F hF=>by
 conv=>whnf
 (repeat' (first | (refine⟨fun h=>?_,fun h=>?_⟩<;>(repeat (first | simp only[beq_iff_eq]at h | simp only[beq_eq_false_iff_ne]at h))<;>((refine rg ?_);(conv=>whnf))) | (refine Ac rfl (.cons .tmp .nil) ?_ rfl)))
 all_goals (refine congrArg Ad ?_)
 all_goals simp_all
theorem Jz (n:Net) (dev vlan:Int) (hl:Am n.domains):Sy.Spec Tryz.prog 191 [Aq n,Aa dev,Aa vlan] [] (Aa (Aa6 n dev vlan)) []:=Ab Γ hm 100 F191 Tryz.ntmps191 rfl fun F hF=>by
 conv=>whnf
 refine B0 4 1 (Aa dev) E E E ?_
 refine B0 5 1 (Aa vlan) E E E ?_
 refine Ag (Es n.domains (fun d=>d.dev == dev && d.vlan == vlan) 263 [] [.ref 1 (Aa dev) 0,.ref 1 (Aa vlan) 0] E (fun d _=>⟨⟨_,_,F263⟩,Alf dev vlan d⟩) hl) F262 E E E E E ?_
 refine rg ?_;conv=>whnf
 exact Ac E (.cons .tmp .nil) E E
def Aji (n:Net):Bool:=decide (n.devices.length≤8) && decide (n.ports.length≤40) && decide (n.links.length≤20) && decide (n.domains.length≤48) && decide (n.statics.length≤64) && decide (n.floods.length≤48) && decide (n.vrfs.length≤16) && decide (n.irbs.length≤48)
theorem fewS (n:Net):Sy.Spec Tryz.prog 114 [Aq n] [] (Ad (Aji n)) []:=Ab Γ hm 100 F114 Tryz.ntmps114 rfl fun F hF=>by
 conv=>whnf
 (repeat' (first | (refine⟨fun h=>?_,fun h=>?_⟩<;>(repeat (first | simp only[decide_eq_true_eq]at h | simp only[decide_eq_false_iff_not]at h))<;>((refine rg ?_);(conv=>whnf);repeat((refine aF ?_);(refine rg ?_);(conv=>whnf)))) | (refine Ac rfl (.cons .tmp .nil) ?_ rfl)))
 all_goals (refine congrArg Ad ?_)
 all_goals (unfold Aji;rw[Bool.eq_iff_iff];simp;omega)
def K7 (n:Net) (i:Nat) (d:Domain):Bool :=
 Aj d.dev n.devices.length && decide (1≤d.vlan) && decide (d.vlan≤4094) && decide (0≤d.vni) && decide (d.vni≤16777215) && (d.irb == -1 || Aj d.irb n.irbs.length && (nth n.irbs d.irb).domain == i) && Aa6 n d.dev d.vlan == i
theorem bareS (n:Net) (i:Nat) (d:Domain) (hl:Am n.domains):Sy.Spec Tryz.prog 116 [Aq n,Aa i,Au d] [] (Ad (K7 n i d)) []:=Ab Γ hm 100 F116 Tryz.ntmps116 rfl fun F hF=>by
 conv=>whnf
 (repeat' (first | (refine⟨fun h=>?_,fun h=>?_⟩<;>(repeat (first | simp only[Aj]at h | simp only[decide_eq_true_eq]at h | simp only[decide_eq_false_iff_not]at h | simp only[beq_iff_eq]at h | simp only[beq_eq_false_iff_ne]at h | simp only[Bool.and_eq_true]at h | simp only[Bool.and_eq_false_iff]at h))<;>((refine rg ?_);(conv=>whnf);repeat((first|refine aF ?_|refine aT ?_);(refine rg ?_);(conv=>whnf)))) | (refine Ac rfl (.cons .tmp .nil) ?_ rfl) | (refine⟨qq,?_⟩;((conv=>whnf))) | (refine⟨by (omega),by (omega),?_⟩;((conv=>whnf))) | (refine Ag (D6 5 Bh n.devices d.dev) F126 rfl rfl rfl rfl rfl ?_;((refine rg ?_);(conv=>whnf))) | (refine Ag (Aca 5 Dn n.irbs d.irb) F190 rfl rfl rfl rfl rfl ?_;((refine rg ?_);(conv=>whnf))) | (refine Ag (Jz n d.dev d.vlan hl) F191 rfl rfl rfl rfl rfl ?_;((refine rg ?_);(conv=>whnf)))))
 all_goals (refine congrArg Ad ?_)
 all_goals (clear hF;grind [K7,Aj,An])
def Adw (n:Net) (d:Domain):Bool:=(nth n.devices d.dev).vtep != 0
theorem Alu (n:Net) (d:Domain) (hd:Aj d.dev n.devices.length=true):Sy.Spec Tryz.prog 264 [Aq n,Au d] [] (Ad (Adw n d)) []:=Ab Γ hm 100 F264 Tryz.ntmps264 rfl fun F hF=>by
 simp only[Aj,Bool.and_eq_true,decide_eq_true_eq]at hd
 conv=>whnf
 (repeat' (first | (refine Ac rfl (.cons .tmp .nil) ?_ rfl) | (refine⟨qq,?_⟩;((conv=>whnf))) | (refine⟨by (omega),by (omega),?_⟩;((conv=>whnf)))))
 all_goals (refine congrArg Ad ?_)
 all_goals (clear hF;grind [Adw,An])
def Wk (n:Net) (i:Nat) (d:Domain) (k:Int):Bool :=
 Aj k n.domains.length && k != i && Aj (nth n.domains k).dev n.devices.length && (nth n.domains k).dev != d.dev && (nth n.domains k).vni == d.vni && d.vni != 0 && Adw n (nth n.domains k) && Adw n d && inB (nth n.domains k).peers i
theorem peerS (n:Net) (i:Nat) (d:Domain) (k:Int) (hn:n.Fin) (hd:Aj d.dev n.devices.length=true):Sy.Spec Tryz.prog 194 [Aq n,Aa i,Au d,Aa k] [] (Ad (Wk n i d k)) []:=Ab Γ hm 100 F194 Tryz.ntmps194 rfl fun F hF=>by
 conv=>whnf
 (repeat' (first | (refine⟨fun h=>?_,fun h=>?_⟩<;>(repeat (first | simp only[Aj]at h | simp only[decide_eq_true_eq]at h | simp only[decide_eq_false_iff_not]at h | simp only[beq_iff_eq]at h | simp only[beq_eq_false_iff_ne]at h | simp only[bne_iff_ne]at h | simp only[bne_eq_false_iff_eq]at h | simp only[Bool.and_eq_true]at h | simp only[Bool.and_eq_false_iff]at h | simp only[Bool.not_eq_true']at h | simp only[Bool.not_eq_false']at h))<;>((refine rg ?_);(conv=>whnf);repeat((first|refine aF ?_|refine aT ?_);(refine rg ?_);(conv=>whnf)))) | (refine Ac rfl (.cons .tmp .nil) ?_ rfl) | (refine⟨qq,?_⟩;((conv=>whnf))) | (refine⟨by (omega),by (omega),?_⟩;((conv=>whnf))) | (refine Ag (E6 6 Au n.domains k) F197 rfl rfl rfl rfl rfl ?_;((refine rg ?_);(conv=>whnf))) | (refine Ag (D6 5 Bh n.devices (n.domains[k.toNat]'qn).dev) F126 rfl rfl rfl rfl rfl ?_;((refine rg ?_);(conv=>whnf))) | (refine Ag (Alu n (n.domains[k.toNat]'qn) (by simp only[Aj,Bool.and_eq_true,decide_eq_true_eq];omega)) F264 rfl rfl rfl rfl rfl ?_;((refine rg ?_);(conv=>whnf))) | (refine Ag (Alu n d hd) F264 rfl rfl rfl rfl rfl ?_;((refine rg ?_);(conv=>whnf))) | (refine Ag (C6 (n.domains[k.toNat]'qn).peers i (hn.peers _ (List.getElem_mem _))) F86 rfl rfl rfl rfl rfl ?_;((refine rg ?_);(conv=>whnf)))))
 all_goals (refine congrArg Ad ?_;clear hF;grind [Wk,Aj,An])
def Acb (n:Net) (i:Nat) (d:Domain):Bool:=El (fun at_ k=>Wk n i d k && Dl (· == k) d.peers == at_) d.peers
theorem peers1 (n:Net) (i:Nat) (d:Domain) (at_:Nat) (k:Int) (hn:n.Fin) (hp:Am d.peers) (hd:Aj d.dev n.devices.length=true) :
  Sy.Spec Tryz.prog 193 [Aa at_,Aa k,.ref 8 (Aq n) 0,.ref 1 (Aa i) 0,.ref 6 (Au d) 0] [] (Ad (Wk n i d k && Dl (· == k) d.peers == at_)) []:=Ab Γ hm 100 F193 Tryz.ntmps193 rfl fun F hF=>by
 conv=>whnf
 (repeat' (first | (refine⟨fun h=>?_,fun h=>?_⟩<;>((refine rg ?_);(conv=>whnf))) | (refine Ac rfl (.cons .tmp .nil) ?_ rfl) | (refine Ag (peerS n i d k hn hd) F194 rfl rfl rfl rfl rfl ?_;((refine rg ?_);(conv=>whnf))) | (refine Ag (Ai1 d.peers k hp) F161 rfl rfl rfl rfl rfl ?_;((refine rg ?_);(conv=>whnf)))))
 all_goals (refine congrArg Ad ?_;clear hF;grind)
theorem peersS (n:Net) (i:Nat) (d:Domain) (hn:n.Fin) (hp:Am d.peers) (hd:Aj d.dev n.devices.length=true):Sy.Spec Tryz.prog 117 [Aq n,Aa i,Au d] [] (Ad (Acb n i d)) []:=Ab Γ hm 100 F117 Tryz.ntmps117 rfl fun F hF=>by
 conv=>whnf
 refine B0 3 8 (Aq n) E E E ?_
 refine B0 4 1 (Aa i) E E E ?_
 refine B0 5 6 (Au d) E E E ?_
 refine Ag (Aj1 d.peers (fun at_ k=>Wk n i d k && Dl (· == k) d.peers == at_) 193 [] [.ref 8 (Aq n) 0,.ref 1 (Aa i) 0,.ref 6 (Au d) 0] E (fun a ha=>⟨⟨_,_,F193⟩,peers1 n i d a d.peers[a] hn hp hd⟩) hp) F192 E E E E E ?_
 refine rg ?_;conv=>whnf
 exact Ac E (.cons .tmp .nil) E E
def Di (n:Net) (dev vlan:Int):Bool:=decide (0≤Aa6 n dev vlan)
def Ij (n:Net) (i:Nat) (p:Port):Bool :=
 Aj p.dev n.devices.length && decide (0≤p.native) && decide (p.native≤4094) && (decide (p.tagged.length=0) || Hq p.tagged 1 4094) && !inB p.tagged p.native && !(p.native == 0 && decide (p.tagged.length=0)) &&
  El (fun _ v=>Di n p.dev v) p.tagged && !(decide (0<p.native) && !Di n p.dev p.native) &&
  (p.link == -1 || Aj p.link n.links.length && ((nth n.links p.link).a == i || (nth n.links p.link).b == i))
theorem Acx (n:Net) (i:Nat) (p:Port) (hn:n.Fin) (hp:Am p.tagged):Sy.Spec Tryz.prog 119 [Aq n,Aa i,A9 p] [] (Ad (Ij n i p)) []:=Ab Γ hm 100 F119 Tryz.ntmps119 rfl fun F hF=>by
 conv=>whnf
 (repeat' (first | (refine⟨fun h=>?_,fun h=>?_⟩<;>(repeat (first | simp only[Aj]at h | simp only[decide_eq_true_eq]at h | simp only[decide_eq_false_iff_not]at h | simp only[beq_iff_eq]at h | simp only[beq_eq_false_iff_ne]at h | simp only[Bool.and_eq_true]at h | simp only[Bool.or_eq_true]at h | simp only[Bool.and_eq_false_iff]at h | simp only[Bool.or_eq_false_iff]at h | simp only[Bool.not_eq_true']at h | simp only[Bool.not_eq_false']at h))<;>((refine rg ?_);(conv=>whnf);repeat((first|refine aF ?_|refine aT ?_);(refine rg ?_);(conv=>whnf)))) | (refine Ac rfl (.cons .tmp .nil) ?_ rfl) | (refine Ag (D6 5 Bh n.devices p.dev) F126 rfl rfl rfl rfl rfl ?_;((refine rg ?_);(conv=>whnf))) | (refine Ag (Xv p.tagged 4094 hp) F129 rfl rfl rfl rfl rfl ?_;((refine rg ?_);(conv=>whnf))) | (refine Ag (C6 p.tagged p.native hp) F86 rfl rfl rfl rfl rfl ?_;((refine rg ?_);(conv=>whnf)))))
 all_goals first | (refine congrArg Ad ?_;clear hF;grind [Ij,Aj]) | skip
 all_goals (
  refine B0 3 8 (Aq n) E E E ?_
  refine B0 5 7 (A9 p) E E E ?_
  refine Bc p.tagged.length (fun j=>Em (fun _ v=>Di n p.dev v) p.tagged j) (fun j=>[(1,Aa i),(3,.ref 8 (Aq n) 0),(5,.ref 7 (A9 p) 0),(51,.sl 1 Aa p.tagged),(52,Aa p.tagged.length),(53,Aa j)]) (fun _=>[]) [] (Be _ _) ⟨⟨E,E,E,E,E,E,E,E,E,E,E,E,Y⟩,Y,E,E⟩ ?_
  intro j hj hI
  have hsh:=hp
  unfold Am at hsh
  ((first|refine rG Γ hm ?_|refine rD Γ hm qq ?_);(conv=>whnf);repeat((first|refine aF ?_|refine aT ?_);(first|refine rG Γ hm ?_|refine rD Γ hm qq ?_);conv=>whnf)))
 all_goals (
  (repeat' (first | (refine⟨fun h=>?_,fun h=>?_⟩<;>(repeat (first | simp only[Aj]at h | simp only[decide_eq_true_eq]at h | simp only[decide_eq_false_iff_not]at h | simp only[beq_iff_eq]at h | simp only[beq_eq_false_iff_ne]at h | simp only[Bool.and_eq_true]at h | simp only[Bool.and_eq_false_iff]at h))<;>((refine rg ?_);(conv=>whnf);repeat((refine aF ?_);(refine rg ?_);(conv=>whnf)))) | (refine Ac rfl (.cons .tmp .nil) ?_ rfl) | (refine⟨qq,?_⟩;((conv=>whnf))) | (refine⟨by (omega),by (omega),?_⟩;((conv=>whnf))) | (refine⟨by (unfold I64;omega),?_⟩;((conv=>whnf))) | (refine Ag (Jz n p.dev (p.tagged[j]'qn) hn.domains) F191 rfl rfl rfl rfl rfl ?_;((refine rg ?_);(conv=>whnf))) | (refine Ag (Jz n p.dev p.native hn.domains) F191 rfl rfl rfl rfl rfl ?_;((refine rg ?_);(conv=>whnf))) | (refine Ag (Zz 3 Cf n.links p.link) F195 rfl rfl rfl rfl rfl ?_;((refine rg ?_);(conv=>whnf))) | refine Ba [] hI qn ?_ ⟨⟨rfl,rfl,rfl,rfl,rfl,rfl,rfl,rfl,rfl,rfl,rfl,rfl,trivial⟩,trivial,rfl,rfl⟩)))
 all_goals first
  | exact Bb hI qn (by simp only[Di,decide_eq_true_eq];omega)
  | (refine congrArg Ad ?_
     have h0:El (fun _ v=>Di n p.dev v) p.tagged=false:=B5 (i:=j) qn (by simp only[Di,decide_eq_false_iff_not];omega)
     clear hF hI;grind [Ij])
  | (refine congrArg Ad ?_
     have h0:El (fun _ v=>Di n p.dev v) p.tagged=true:=Dp hI qn
     clear hF hI;grind [Ij,Aj,Di,An])
def Sq (n:Net) (i:Nat) (l:Link):Bool :=
 Aj l.a n.ports.length && Aj l.b n.ports.length && (nth n.ports l.a).dev != (nth n.ports l.b).dev && (nth n.ports l.a).link == i && (nth n.ports l.b).link == i
theorem Acy (n:Net) (i:Nat) (l:Link):Sy.Spec Tryz.prog 121 [Aq n,Aa i,Cf l] [] (Ad (Sq n i l)) []:=Ab Γ hm 100 F121 Tryz.ntmps121 rfl fun F hF=>by
 conv=>whnf
 (repeat' (first | (refine⟨fun h=>?_,fun h=>?_⟩<;>(repeat (first | simp only[Aj]at h | simp only[decide_eq_true_eq]at h | simp only[decide_eq_false_iff_not]at h | simp only[beq_iff_eq]at h | simp only[beq_eq_false_iff_ne]at h | simp only[bne_iff_ne]at h | simp only[bne_eq_false_iff_eq]at h | simp only[Bool.and_eq_true]at h | simp only[Bool.and_eq_false_iff]at h | simp only[Bool.not_eq_true']at h | simp only[Bool.not_eq_false']at h))<;>((refine rg ?_);(conv=>whnf);repeat((first|refine aF ?_|refine aT ?_);(refine rg ?_);(conv=>whnf)))) | (refine Ac rfl (.cons .tmp .nil) ?_ rfl) | (refine⟨qq,?_⟩;((conv=>whnf))) | (refine⟨by (omega),by (omega),?_⟩;((conv=>whnf))) | (refine Ag (Ko 7 A9 n.ports l.a) F196 rfl rfl rfl rfl rfl ?_;((refine rg ?_);(conv=>whnf))) | (refine Ag (Ko 7 A9 n.ports l.b) F196 rfl rfl rfl rfl rfl ?_;((refine rg ?_);(conv=>whnf)))))
 all_goals (refine congrArg Ad ?_;clear hF;grind [Sq,Aj,An])
def Lf (n:Net) (s:Static):Bool :=
 Aj s.domain n.domains.length && Aj s.port n.ports.length && (nth n.ports s.port).dev == (nth n.domains s.domain).dev && Jx (nth n.ports s.port) (nth n.domains s.domain).vlan
theorem Yd (n:Net) (i:Nat) (s:Static) (hn:n.Fin):Sy.Spec Tryz.prog 123 [Aq n,Aa i,Bf s] [] (Ad (Lf n s)) []:=Ab Γ hm 100 F123 Tryz.ntmps123 rfl fun F hF=>by
 conv=>whnf
 (repeat' (first | (refine⟨fun h=>?_,fun h=>?_⟩<;>(repeat (first | simp only[Aj]at h | simp only[decide_eq_true_eq]at h | simp only[decide_eq_false_iff_not]at h | simp only[beq_iff_eq]at h | simp only[beq_eq_false_iff_ne]at h | simp only[Bool.and_eq_true]at h | simp only[Bool.and_eq_false_iff]at h | simp only[Bool.not_eq_true']at h | simp only[Bool.not_eq_false']at h))<;>((refine rg ?_);(conv=>whnf);repeat((refine aT ?_);(refine rg ?_);(conv=>whnf)))) | (refine Ac rfl (.cons .tmp .nil) ?_ rfl) | (refine⟨qq,?_⟩;((conv=>whnf))) | (refine⟨by (omega),by (omega),?_⟩;((conv=>whnf))) | (refine Ag (E6 6 Au n.domains s.domain) F197 rfl rfl rfl rfl rfl ?_;((refine rg ?_);(conv=>whnf))) | (refine Ag (Ko 7 A9 n.ports s.port) F196 rfl rfl rfl rfl rfl ?_;((refine rg ?_);(conv=>whnf))) | (refine Ag (X8 (n.ports[s.port.toNat]'qn) (n.domains[s.domain.toNat]'qn).vlan (hn.tagged _ (List.getElem_mem _))) F198 rfl rfl rfl rfl rfl ?_;((refine rg ?_);(conv=>whnf)))))
 all_goals (refine congrArg Ad ?_;clear hF;grind [Lf,Aj,An])
def Agd (n:Net) (i:Nat) (x:Irb):Bool :=
 Aj x.domain n.domains.length && Aj x.vrf n.vrfs.length && (nth n.domains x.domain).dev == (nth n.vrfs x.vrf).dev && (nth n.domains x.domain).irb == i && decide (1≤x.bits) && decide (x.bits≤30)
theorem Agc (n:Net) (i:Nat) (x:Irb):Sy.Spec Tryz.prog 131 [Aq n,Aa i,Dn x] [] (Ad (Agd n i x)) []:=Ab Γ hm 100 F131 Tryz.ntmps131 rfl fun F hF=>by
 conv=>whnf
 (repeat' (first | (refine⟨fun h=>?_,fun h=>?_⟩<;>(repeat (first | simp only[Aj]at h | simp only[decide_eq_true_eq]at h | simp only[decide_eq_false_iff_not]at h | simp only[beq_iff_eq]at h | simp only[beq_eq_false_iff_ne]at h | simp only[Bool.and_eq_true]at h | simp only[Bool.and_eq_false_iff]at h))<;>((refine rd qq ?_);(conv=>whnf);repeat((refine aF ?_);(refine rd qq ?_);(conv=>whnf)))) | (refine Ac rfl (.cons .tmp .nil) ?_ rfl) | (refine⟨qq,?_⟩;((conv=>whnf))) | (refine⟨by (omega),by (omega),?_⟩;((conv=>whnf))) | (refine Ay (E6 6 Au n.domains x.domain) F197 rfl rfl rfl qq rfl ?_;((refine rd qq ?_);(conv=>whnf))) | (refine Ay (Ab9 5 Ct n.vrfs x.vrf) F200 rfl rfl rfl qq rfl ?_;((refine rd qq ?_);(conv=>whnf)))))
 all_goals (refine congrArg Ad ?_;clear hF;grind [Agd,Aj,An])
def Yj (n:Net) (f:Flood):Bool:=Aj f.dev n.devices.length && decide (f.addrs.length≤16)
theorem right1 (n:Net) (i:Nat) (f:Flood):Sy.Spec Tryz.prog 125 [Aa i,Bw f,.ref 8 (Aq n) 0] [] (Ad (Yj n f)) []:=Ab Γ hm 100 F125 Tryz.ntmps125 rfl fun F hF=>by
 conv=>whnf
 (repeat' (first | (refine⟨fun h=>?_,fun h=>?_⟩<;>(repeat (first | simp only[Aj]at h | simp only[decide_eq_true_eq]at h | simp only[decide_eq_false_iff_not]at h | simp only[Bool.and_eq_true]at h | simp only[Bool.and_eq_false_iff]at h))<;>((refine rg ?_);(conv=>whnf))) | (refine Ac rfl (.cons .tmp .nil) ?_ rfl) | (refine Ag (D6 5 Bh n.devices f.dev) F126 rfl rfl rfl rfl rfl ?_;((refine rg ?_);(conv=>whnf)))))
 all_goals (refine congrArg Ad ?_;clear hF;grind [Yj,Aj])
def Ahy (l:List Int) (most:Int):Bool:=decide (l.length=0) || Hq l 1 most
def Akd (n:Net) (v:Vrf):Bool:=Aj v.dev n.devices.length && Ahy v.imports 65535 && Ahy v.exports 65535
theorem right2 (n:Net) (i:Nat) (v:Vrf) (h1:Am v.imports) (h2:Am v.exports):Sy.Spec Tryz.prog 128 [Aa i,Ct v,.ref 8 (Aq n) 0] [] (Ad (Akd n v)) []:=Ab Γ hm 100 F128 Tryz.ntmps128 rfl fun F hF=>by
 conv=>whnf
 (repeat' (first | (refine⟨fun h=>?_,fun h=>?_⟩<;>(repeat (first | simp only[Aj]at h | simp only[decide_eq_true_eq]at h | simp only[decide_eq_false_iff_not]at h | simp only[Bool.and_eq_true]at h | simp only[Bool.or_eq_true]at h | simp only[Bool.and_eq_false_iff]at h | simp only[Bool.or_eq_false_iff]at h))<;>((refine rg ?_);(conv=>whnf);repeat((refine aF ?_);(refine rg ?_);(conv=>whnf)))) | (refine Ac rfl (.cons .tmp .nil) ?_ rfl) | (refine Ag (D6 5 Bh n.devices v.dev) F126 rfl rfl rfl rfl rfl ?_;((refine rg ?_);(conv=>whnf))) | (refine Ag (Xv v.imports 65535 h1) F129 rfl rfl rfl rfl rfl ?_;((refine rg ?_);(conv=>whnf))) | (refine Ag (Xv v.exports 65535 h2) F129 rfl rfl rfl rfl rfl ?_;((refine rg ?_);(conv=>whnf)))))
 all_goals (refine congrArg Ad ?_;clear hF;grind [Akd,Ahy,Aj])
def Af (n:Net):Bool :=
 Aji n && El (K7 n) n.domains && El (Acb n) n.domains && El (Ij n) n.ports && El (Sq n) n.links && El (fun _=>Lf n) n.statics && El (fun _=>Yj n) n.floods && El (fun _=>Akd n) n.vrfs && El (Agd n) n.irbs
theorem Abg {n:Net} (h:El (K7 n) n.domains=true) {i:Nat} (hi:i<n.domains.length):Aj n.domains[i].dev n.devices.length=true:=by
 have:=allB_iff.1 h i hi
 simp only[K7,Bool.and_eq_true]at this
 exact this.1.1.1.1.1.1
theorem Bk (n:Net) (hn:n.Fin):Sy.Spec Tryz.prog 67 [Aq n] [] (Ad (Af n)) []:=Ab Γ hm 100 F67 Tryz.ntmps67 rfl fun F hF=>by
 conv=>whnf
 refine B0 1 8 (Aq n) E E E ?_
 (repeat' (first | (refine⟨fun h=>?_,fun h=>?_⟩<;>((refine rg ?_);(conv=>whnf);repeat((refine aF ?_);(refine rg ?_);(conv=>whnf)))) | (refine Ac rfl (.cons .tmp .nil) ?_ rfl) | (refine Ag (fewS n) F114 rfl rfl rfl rfl rfl ?_;((refine rg ?_);(conv=>whnf))) | (refine Ag (S5 n.domains (K7 n) 116 [Aq n] [] rfl (fun i h=>⟨⟨_,_,F116⟩,bareS n i n.domains[i] hn.domains⟩) hn.domains) F115 rfl rfl rfl rfl rfl ?_;((refine rg ?_);(conv=>whnf))) | (refine Ag (S5 n.domains (Acb n) 117 [Aq n] [] rfl (fun i h=>⟨⟨_,_,F117⟩,peersS n i n.domains[i] hn (hn.peers _ (List.getElem_mem _)) (Abg ‹_› h)⟩) hn.domains) F115 rfl rfl rfl rfl rfl ?_;((refine rg ?_);(conv=>whnf))) | (refine Ag (Agw n.ports (Ij n) 119 [Aq n] [] rfl (fun i h=>⟨⟨_,_,F119⟩,Acx n i n.ports[i] hn (hn.tagged _ (List.getElem_mem _))⟩) hn.ports) F118 rfl rfl rfl rfl rfl ?_;((refine rg ?_);(conv=>whnf))) | (refine Ag (Agx n.links (Sq n) 121 [Aq n] [] rfl (fun i h=>⟨⟨_,_,F121⟩,Acy n i n.links[i]⟩) hn.links) F120 rfl rfl rfl rfl rfl ?_;((refine rg ?_);(conv=>whnf))) | (refine Ag (Abi n.statics (fun _=>Lf n) 123 [Aq n] [] rfl (fun i h=>⟨⟨_,_,F123⟩,Yd n i n.statics[i] hn⟩) hn.statics) F122 rfl rfl rfl rfl rfl ?_;((refine rg ?_);(conv=>whnf))) | (refine Ag (Adr n.floods (fun _=>Yj n) 125 [] [.ref 8 (Aq n) 0] rfl (fun i h=>⟨⟨_,_,F125⟩,right1 n i n.floods[i]⟩) hn.floods) F124 rfl rfl rfl rfl rfl ?_;((refine rg ?_);(conv=>whnf))) | (refine Ag (Aj2 n.vrfs (fun _=>Akd n) 128 [] [.ref 8 (Aq n) 0] rfl (fun i h=>⟨⟨_,_,F128⟩,right2 n i n.vrfs[i] (hn.imports _ (List.getElem_mem _)) (hn.exports _ (List.getElem_mem _))⟩) hn.vrfs) F127 rfl rfl rfl rfl rfl ?_;((refine rg ?_);(conv=>whnf))) | (refine Ag (Aj3 n.irbs (Agd n) 131 [Aq n] [] rfl (fun i h=>⟨⟨_,_,F131⟩,Agc n i n.irbs[i]⟩) hn.irbs) F130 rfl rfl rfl rfl rfl ?_;((refine rg ?_);(conv=>whnf)))))
 all_goals (refine congrArg Ad ?_)
 all_goals (clear hF;simp_all[Af])
theorem e_port {n:Net} (h:Af n=true) {i:Nat} (hi:i<n.ports.length):Ij n i n.ports[i]=true:=by
 simp only[Af,Bool.and_eq_true]at h
 exact allB_iff.1 h.1.1.1.1.1.2 i hi
theorem e_dom {n:Net} (h:Af n=true) {i:Nat} (hi:i<n.domains.length):K7 n i n.domains[i]=true:=by
 simp only[Af,Bool.and_eq_true]at h
 exact allB_iff.1 h.1.1.1.1.1.1.1.2 i hi
theorem Aa4 {n:Net} (h:Af n=true) {i:Nat} (hi:i<n.domains.length) :
  (0≤n.domains[i].dev∧n.domains[i].dev.toNat<n.devices.length)∧(1≤n.domains[i].vlan∧n.domains[i].vlan≤4094)∧(0≤n.domains[i].vni∧n.domains[i].vni≤16777215)∧(n.domains[i].irb=-1∨0≤n.domains[i].irb∧n.domains[i].irb.toNat<n.irbs.length):=by
 have:=e_dom h hi
 simp only[K7,Aj,Bool.and_eq_true,Bool.or_eq_true,decide_eq_true_eq,beq_iff_eq]at this
 omega
def Ib (p:Nat→Bool) (j:Nat):List Int:=((List.range j).filter p).map Int.ofNat
theorem U6 (p:Nat→Bool) (j:Nat):Ib p (j+1)=if p j=true then Ib p j++[(j:Int)] else Ib p j:=by
 rw[Ib,List.range_succ,List.filter_append,List.map_append]
 split
 ·rename_i h
  rw[List.filter_cons_of_pos (by exact h),List.filter_nil];rfl
 ·rename_i h
  rw[List.filter_cons_of_neg (by exact h),List.filter_nil,List.map_nil,List.append_nil];rfl
theorem Dy (p:Nat→Bool) (j:Nat):(Ib p j).length≤j:=by
 have:=List.length_filter_le p (List.range j)
 simpa [Ib] using this
theorem Q6 {p:Nat→Bool} {j:Nat} {x:Int}:x∈Ib p j↔0≤x∧x<j∧p x.toNat=true:=by
 simp only[Ib,List.mem_map,List.mem_filter,List.mem_range]
 constructor
 ·rintro ⟨i,h1,rfl⟩
  exact⟨Int.natCast_nonneg i,by simp;omega,h1.2⟩
 ·rintro ⟨h1,h2,h3⟩
  exact⟨x.toNat,⟨by omega,h3⟩,Int.toNat_of_nonneg h1⟩
def Mf (n:Net) (d:Domain) (i:Nat):Bool:=(nth n.ports i).dev == d.dev && Jx (nth n.ports i) d.vlan
def Ax (n:Net) (i:Int):List Int:=Ib (Mf n (nth n.domains i)) n.ports.length
def Er (n:Net) (i:Int):List Int:=if (0≤i∧i<n.domains.length)∧Af n=true then Ax n i else []
theorem Um (n:Net) (hn:n.Fin) (i:Int):Am (Er n i):=by
 have:=hn.ports
 unfold Am at this ⊢
 unfold Er
 split
 ·have:=Dy (Mf n (nth n.domains i)) n.ports.length
  unfold Ax
  omega
 ·simp
theorem Vy (n:Net) (hn:n.Fin) (i:Int):Sy.Spec Tryz.prog 288 [Aq n,Aa i] [] (.sl 1 Aa (Er n i)) []:=Ab Γ hm 100 F288 Tryz.ntmps288 rfl fun F hF=>by
 have hr:=Bk n hn
 have hpl:=E6 6 Au n.domains i
 have hsp:=hn.ports
 unfold Am at hsp
 conv=>whnf
 refine Ag hr F67 E E E E E ?_
 cases hb:Af n
 ·rw[Er,if_neg (by simp[hb])]
  (refine rg ?_;(conv=>whnf);refine aT ?_;refine rg ?_;(conv=>whnf);refine aT ?_;refine rg ?_;conv=>whnf)
  refine Ao 4 1 Aa E ?_
  refine rg ?_;conv=>whnf
  exact Ac E (.cons .tmp .nil) E E
 (refine rg ?_;(conv=>whnf);refine aF ?_;refine rg ?_;conv=>whnf)
 refine Ag hpl F197 E E E E E ?_
 by_cases hi:0≤i∧i<n.domains.length
 rotate_left
 ·have h0:Aj i n.domains.length=false:=by simp only[Aj,Bool.and_eq_false_iff,decide_eq_false_iff_not];omega
  rw[Er,if_neg (by simp[hb,hi]),h0]
  (refine rg ?_;(conv=>whnf);refine aT ?_;refine rg ?_;conv=>whnf)
  refine Ao 4 1 Aa E ?_
  refine rg ?_;conv=>whnf
  exact Ac E (.cons .tmp .nil) E E
 have h0:Aj i n.domains.length=true:=by simp only[Aj,Bool.and_eq_true,decide_eq_true_eq];exact hi
 rw[Er,if_pos ⟨hi,hb⟩,h0]
 have hk:i.toNat<n.domains.length:=by omega
 have hf:=Aa4 hb hk
 have e1:nth n.domains i=n.domains[i.toNat]:=An hk
 rw[Ax,e1]
 obtain ⟨d,hd⟩:∃ d,n.domains[i.toNat]=d:=⟨_,rfl⟩
 rw[hd]at hf ⊢
 refine B0 2 8 (Aq n) E E E ?_
 (refine rg ?_;(conv=>whnf);refine aF ?_;refine rg ?_;conv=>whnf)
 refine Ca 5 1000 1 Aa E E ?_
 refine A1 n.ports.length (fun j=>[(1,Aa i),(2,.ref 8 (Aq n) 0),(5,.osl 1000),(19,.sl 7 A9 n.ports),(20,Aa n.ports.length),(21,Aa j)]) (fun j=>[(1000,.row 1 Aa (Ib (Mf n d) j))]) []
  ⟨⟨rfl,rfl,rfl,rfl,rfl,rfl,rfl,rfl,rfl,rfl,rfl,rfl,trivial⟩,⟨.inl rfl,rfl,trivial⟩,rfl,rfl⟩ ?_
 intro j hj
 refine rg ?_;conv=>whnf
 refine⟨fun h=>?_,fun h=>?_⟩
 ·have hlt:j<n.ports.length:=by simpa using h
  have hsucc:=U6 (Mf n d) j
  have hfl:=Dy (Mf n d) j
  have hin:Mf n d j=((n.ports[j]).dev == d.dev && Jx n.ports[j] d.vlan):=by
   rw[Mf,An (l:=n.ports) (i:=(j:Int)) (by simpa using hlt)];rfl
  rw[hin]at hsucc
  have e1:n.ports[(j:Int).toNat]'qn=n.ports[j]:=rfl
  have hms:=X8 n.ports[j] d.vlan (hn.tagged _ (List.getElem_mem _))
  obtain ⟨p,hp⟩:∃ p,n.ports[j]=p:=⟨_,rfl⟩
  rw[hp]at e1 hsucc hms
  obtain ⟨u,hu⟩:∃ u,Ib (Mf n d) j=u:=⟨_,rfl⟩
  rw[hu]at hsucc hfl ⊢
  refine rg ?_;conv=>whnf
  refine⟨E,by omega,by omega,?_⟩
  rw[e1]
  conv=>whnf
  refine⟨E,hi.1,hk,?_⟩
  rw[hd]
  conv=>whnf
  refine⟨fun h2=>?_,fun h2=>?_⟩
  ·have h3:∃ k:Nat,(k:Int)=i:=⟨i.toNat,by omega⟩
   rw[h2,Bool.true_and]at hsucc
   refine rd qq ?_;conv=>whnf
   refine⟨E,hi.1,hk,?_⟩
   rw[hd]
   conv=>whnf
   refine Ay hms F198 E E E qq E ?_
   refine rd qq ?_;conv=>whnf
   refine⟨qq,?_⟩
   conv=>whnf
   refine⟨fun h4=>?_,fun h4=>?_⟩
   ·rw[if_pos h4]at hsucc
    refine rg ?_;conv=>whnf
    refine Ah (Al Γ.toTy 48 E E E E E (.row E) (.lit (e:=Aa) (l:=[(j:Int)]) E E) qy (by simp;omega) (by simp;omega)) E E ?_
    refine rg ?_;conv=>whnf
    refine⟨by unfold I64;omega,?_⟩
    conv=>whnf
    exact Ar [(1000,48)] hlt ⟨⟨E,E,E,E,E,E,E,E,E,E,E,E,Y⟩,⟨.inl (congrArg (Ob.row 1 Aa) hsucc),E,Y⟩,E,E⟩
   ·rw[if_neg (by simp[h4])]at hsucc
    refine rg ?_;conv=>whnf
    refine⟨by unfold I64;omega,?_⟩
    conv=>whnf
    exact Ar [] hlt ⟨⟨E,E,E,E,E,E,E,E,E,E,E,E,Y⟩,⟨.inl (congrArg (Ob.row 1 Aa) hsucc),E,Y⟩,E,E⟩
  ·rw[if_neg (by simp[h2])]at hsucc
   refine rd qq ?_;conv=>whnf
   refine⟨qq,?_⟩
   ((conv=>whnf);refine aF ?_;refine rg ?_;conv=>whnf)
   refine⟨by unfold I64;omega,?_⟩
   conv=>whnf
   exact Ar [] hlt ⟨⟨E,E,E,E,E,E,E,E,E,E,E,E,Y⟩,⟨.inl (congrArg (Ob.row 1 Aa) hsucc),E,Y⟩,E,E⟩
 ·have:j=n.ports.length:=by have:=of_decide_eq_false h;omega
  subst this
  refine At 1000 E ?_
  refine rg ?_;conv=>whnf
  exact Ac E (.cons .tmp .nil) E E
end Go.Sy.YtmelpejjondedaaGreat
