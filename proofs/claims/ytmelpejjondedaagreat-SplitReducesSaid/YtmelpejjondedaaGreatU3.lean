/-
  Sy22 Ty N1 R1 R2 R3 R5 R6 A5 A6 R7 R8 K0 Sy25 Sy26 Sy27 Sy28 Sh E1 N2: parts of a proof, joined by program.
-/
import Derived.Test.YtmelpejjondedaaGreatU2
import Derived.Test.YtmelpejjondedaaGreatProg
import Derived.Laws.Bits64b
import Derived.ChangeKeysEq
import Derived.Below
import Derived.Lib.Join
import Derived.Lib.Strings
import Derived.Lib.Bytealg
namespace Go.Sy
mutual
def frb (d sz:Nat) (x:SV):SV→SV
 | .ptr k o=>bif Nat.beq k d then .ref sz x o else .ptr k o
 | .agg l=>.agg (Add d sz x l)
 | .tup l=>.tup (Add d sz x l)
 | .ifc t y=>.ifc t (frb d sz x y)
 | .clo f g l=>.clo f (Add d sz x g) (Add d sz x l)
 | y=>y
def Add (d sz:Nat) (x:SV):List SV→List SV
 | []=>[]
 | y::l=>frb d sz x y::Add d sz x l
end
mutual
theorem Ai3 {κ κ':Ka} {w:World} {K:Nat→Prop} {d sz:Nat} {x:SV} (st:Step K κ w κ' w) (hx:∀ o v,Rd κ w (.ptr d o) v→Rd κ' w (.ref sz x o) v):∀ (y:SV) (v:Value),Rd κ w y v→Rd κ' w (frb d sz x y) v
 | .ptr k o,v,h=>by
  unfold frb
  by_cases hk:k=d
  ·subst hk;rw[show Nat.beq k k=true from Nat.beq_refl k];exact hx o v h
  ·rw[show Nat.beq k d=false from by cases hb:Nat.beq k d with | false=>rfl | true=>exact absurd (Nat.eq_of_beq_eq_true hb) hk];exact Rd.step st _ _ h
 | .agg l,v,h=>by
  simp only[Rd]at h
  unfold frb
  simp only[Rd]
  obtain ⟨cs,h1,h2,h3⟩:=h
  exact⟨cs,h1,h2,Qy st hx l cs h3⟩
 | .tup l,v,h=>by
  simp only[Rd]at h
  unfold frb
  simp only[Rd]
  obtain ⟨cs,h1,h3⟩:=h
  exact⟨cs,h1,Qy st hx l cs h3⟩
 | .ifc t y,v,h=>by
  simp only[Rd]at h
  unfold frb
  simp only[Rd]
  obtain ⟨u,h1,h3⟩:=h
  exact⟨u,h1,Ai3 st hx y u h3⟩
 | .clo f g l,v,h=>by
  simp only[Rd]at h
  unfold frb
  simp only[Rd]
  obtain ⟨fs,cs,h1,h2,h3⟩:=h
  exact⟨fs,cs,h1,Qy st hx g fs h2,Qy st hx l cs h3⟩
 | .top,v,h=>by unfold frb;exact Rd.step st _ _ h
 | .val u,v,h=>by unfold frb;exact Rd.step st _ _ h
 | .sl sz e l,v,h=>by unfold frb;exact Rd.step st _ _ h
 | .ref sz z o,v,h=>by unfold frb;exact Rd.step st _ _ h
 | .rpt k sz i o,v,h=>by unfold frb;exact Rd.step st _ _ h
 | .osl k,v,h=>by unfold frb;exact Rd.step st _ _ h
theorem Qy {κ κ':Ka} {w:World} {K:Nat→Prop} {d sz:Nat} {x:SV} (st:Step K κ w κ' w) (hx:∀ o v,Rd κ w (.ptr d o) v→Rd κ' w (.ref sz x o) v):∀ (l:List SV) (vs:List Value),RdL κ w l vs→RdL κ' w (Add d sz x l) vs
 | [],vs,h=>by
  unfold Add
  simpa [RdL] using h
 | y::l,vs,h=>by
  simp only[RdL]at h
  unfold Add
  simp only[RdL]
  obtain ⟨v,r,h1,h2,h3⟩:=h
  exact⟨v,r,h1,Ai3 st hx y v h2,Qy st hx l r h3⟩
end
def frbO (d sz:Nat) (x:SV):Ob→Ob
 | .box l=>.box (Add d sz x l)
 | o=>o
theorem Ajj {κ κ':Ka} {w:World} {d sz:Nat} {l:List SV} {x:SV} (h:ObOK κ w d (.box l)) (hl:cellsOf x=l) (hb:x.boxed=true) (_hd:L4 l=true) (hsz:l.length=sz) (ho:∀ b,b<w.heap.size→¬ Own κ b→¬ Own κ' b)
  (hdead:∀ b,(κ d).block? = some b→b<w.heap.size∧¬ Own κ' b) (hxd:x.data=true) (o:Nat) (v:Value) (hv:Rd κ w (.ptr d o) v):Rd κ' w (.ref sz x o) v:=by
 obtain ⟨b,cs,T,fr,e1,e2,e3,e4,e5⟩:=h
 simp only[Rd,e1]at hv
 obtain ⟨h1,h2⟩:=hdead b (by rw[e1];rfl)
 rw[← hl]at e5
 obtain ⟨u,f1,f2⟩:=Rd.of_cells hb e4 e5
 simp only[Rd,RdD]
 refine⟨b,0,u,by rw[Nat.zero_add];exact hv,h2,h1,RdD.keep ⟨Nat.le_refl _,fun _ _ _=>rfl,ho⟩ _ _ (Rd.data _ _ hxd f1),?_,by rw[f2];exact e4,fun j hj=>?_⟩
 ·have:=e5.length
  rw[← hsz,← hl,← this,← f2]
  simp
 ·rw[Nat.zero_add,cell_of_row w b _ cs.toArray T fr e2,← f2]
theorem Bg {C:Cx} {k:List KI} {s:SS} (d sz:Nat) (x:SV) {l:List SV} (h:s.h d=.box l) (hl:cellsOf x=l) (hc:(x.boxed && x.data && L4 l && Nat.beq l.length sz)=true)
  (hg:G C k ⟨fun i=>frb d sz x (s.σ i),fun j=>bif Nat.beq j d then .non else frbO d sz x (s.h j)⟩):G C k s:=fun κ a w hs=>by
 simp only[Bool.and_eq_true]at hc
 obtain ⟨⟨⟨hb,hxd⟩,hd⟩,hsz⟩:=hc
 have hsz:=Nat.eq_of_beq_eq_true hsz
 have hob:=hs.obj d
 rw[h]at hob
 have st:=E1 (κ:=κ) (w:=w) (some d)
 have inv:=If hs.inv (some d)
 have hx:∀ o v,Rd κ w (.ptr d o) v→Rd (Db κ d .dead) w (.ref sz x o) v:=fun o v hv =>
  Ajj hob hl hb hd hsz st.keeps.out (fun b hb=>⟨hs.inv.bnd d b hb,by
   rintro (⟨q,hq⟩ | hq)
   ·by_cases hqd:q=d
    ·subst hqd;change (Db κ q .dead q).block? = some b at hq;rw[Ax]at hq;cases hq
    ·change (Db κ d .dead q).block? = some b at hq
     rw[Bz _ _ hqd]at hq
     exact hqd (hs.inv.inj q d b hq hb)
   ·exact hs.inv.apart d b hb hq⟩) hxd o v hv
 refine hg (Db κ d .dead) a w ⟨hs.defers,hs.size,inv,hs.ctx.step inv st,fun j=>Ai3 st hx _ _ (hs.slot j),fun j=>?_⟩
 show ObOK _ w j (bif Nat.beq j d then .non else frbO d sz x (s.h j))
 by_cases hj:j=d
 ·subst hj;rw[show Nat.beq j j=true from Nat.beq_refl j];trivial
 ·rw[show Nat.beq j d=false from by cases hb:Nat.beq j d with | false=>rfl | true=>exact absurd (Nat.eq_of_beq_eq_true hb) hj]
  have hb:=ObOK.step st (fun e=>hj (Option.some.inj e).symm) _ (hs.obj j)
  have h0:=hs.obj j
  show ObOK _ w j (frbO d sz x (s.h j))
  cases hh:s.h j with
  | box m =>
   rw[hh]at h0 hb
   obtain ⟨b,cs,T,fr,e1,e2,e3,e4,e5⟩:=h0
   exact⟨b,cs,T,fr,by show Db κ d .dead j=_;rw[Bz _ _ hj];exact e1,e2,e3,e4,Qy st hx m cs e5⟩
  | fresh=>rw[hh]at hb;exact hb
  | non=>rw[hh]at hb;exact hb
  | row sz' e' l'=>rw[hh]at hb;exact hb
  | lit sz' svs=>rw[hh]at hb;exact hb
  | glob sz' x' g'=>rw[hh]at hb;exact hb
  | pin b' n' cap' sz' e' l'=>rw[hh]at hb;exact hb
  | dat v' sz' e' l'=>rw[hh]at hb;exact hb
theorem An {C:Cx} {k:List KI} {s:SS} (d sz:Nat) {α:Type} (e:α→SV) (h:s.σ d=.val (.slice none 0 0)) (hg:G C k ⟨upd s.σ d (.sl sz e []),s.h⟩):G C k s :=
 G_set d (fun κ w v hv=>by
  rw[h]at hv
  simp only[Rd]at hv
  simp only[Rd,RdD]
  exact .inl ⟨Y,none,0,hv⟩) hg
end Go.Sy
namespace Go.Sy.YtmelpejjondedaaGreat
open Go.Proofs
set_option maxRecDepth 100000
theorem ty1:Bk Tryz.prog 1=some ⟨.func,1,[.nilFunc]⟩:=by kernel_rfl
theorem ty2:Bk Tryz.prog 2=some ⟨.int .i64,1,[.int .i64 0]⟩:=by kernel_rfl
theorem ty3:Bk Tryz.prog 3=some ⟨.int .i64,1,[.int .i64 0]⟩:=by kernel_rfl
theorem ty4:Bk Tryz.prog 4=some ⟨.bool,1,[.bool false]⟩:=by kernel_rfl
theorem ty5:Bk Tryz.prog 5=some ⟨.int .u8,1,[.int .u8 0]⟩:=by kernel_rfl
theorem ty9:Bk Tryz.prog 9=some ⟨.string,1,[.string .empty]⟩:=by kernel_rfl
theorem ty20:Bk Tryz.prog 20=some ⟨.iface,1,[.nilIface]⟩:=by kernel_rfl
theorem ty22:Bk Tryz.prog 22=some ⟨.slice 92 5 48 [.int .i64 0,.int .i64 0,.string .empty,.int .u64 0,.int .u32 0],1,[.slice none 0 0]⟩:=by kernel_rfl
theorem ty23:Bk Tryz.prog 23=some ⟨.slice 81 7 80 [.int .i64 0,.int .i64 0,.int .i64 0,.int .i64 0,.int .i64 0,.string .empty,.slice none 0 0],1,[.slice none 0 0]⟩:=by kernel_rfl
theorem ty24:Bk Tryz.prog 24=some ⟨.slice 167 3 24 [.int .i64 0,.int .i64 0,.int .i64 0],1,[.slice none 0 0]⟩:=by kernel_rfl
theorem ty25:Bk Tryz.prog 25=some ⟨.slice 83 6 64 [.int .i64 0,.int .i64 0,.int .i64 0,.int .i64 0,.int .i64 0,.slice none 0 0],1,[.slice none 0 0]⟩:=by kernel_rfl
theorem ty26:Bk Tryz.prog 26=some ⟨.slice 196 4 32 [.int .i64 0,.int .i64 0,.int .i64 0,.int .u64 0],1,[.slice none 0 0]⟩:=by kernel_rfl
theorem ty27:Bk Tryz.prog 27=some ⟨.slice 86 4 48 [.int .i64 0,.int .i64 0,.int .i64 0,.slice none 0 0],1,[.slice none 0 0]⟩:=by kernel_rfl
theorem ty28:Bk Tryz.prog 28=some ⟨.slice 88 5 80 [.int .i64 0,.int .i64 0,.string .empty,.slice none 0 0,.slice none 0 0],1,[.slice none 0 0]⟩:=by kernel_rfl
theorem ty29:Bk Tryz.prog 29=some ⟨.slice 203 5 40 [.int .i64 0,.int .i64 0,.int .i64 0,.int .u32 0,.int .i64 0],1,[.slice none 0 0]⟩:=by kernel_rfl
theorem ty31:Bk Tryz.prog 31=some ⟨.struct [(0,1),(1,1),(2,1),(3,1),(4,1),(5,1),(6,1),(7,1)],8,[.slice none 0 0,.slice none 0 0,.slice none 0 0,.slice none 0 0,.slice none 0 0,.slice none 0 0,.slice none 0 0,.slice none 0 0]⟩:=by kernel_rfl
theorem ty32:Bk Tryz.prog 32=some ⟨.slice 47 6 80 [.int .i64 0,.int .i64 0,.int .i64 0,.int .i64 0,.slice none 0 0,.slice none 0 0],1,[.slice none 0 0]⟩:=by kernel_rfl
theorem ty36:Bk Tryz.prog 36=some ⟨.slice 67 3 40 [.int .i64 0,.int .i64 0,.slice none 0 0],1,[.slice none 0 0]⟩:=by kernel_rfl
theorem ty37:Bk Tryz.prog 37=some ⟨.int .i64,1,[.int .i64 0]⟩:=by kernel_rfl
theorem ty40:Bk Tryz.prog 40=some ⟨.ptr,1,[.pointer none]⟩:=by kernel_rfl
theorem ty44:Bk Tryz.prog 44=some ⟨.slice 5 1 1 [.int .u8 0],1,[.slice none 0 0]⟩:=by kernel_rfl
theorem ty45:Bk Tryz.prog 45=some ⟨.slice 4 1 1 [.bool false],1,[.slice none 0 0]⟩:=by kernel_rfl
theorem ty47:Bk Tryz.prog 47=some ⟨.struct [(0,1),(1,1),(2,1),(3,1),(4,1),(5,1)],6,[.int .i64 0,.int .i64 0,.int .i64 0,.int .i64 0,.slice none 0 0,.slice none 0 0]⟩:=by kernel_rfl
theorem ty51:Bk Tryz.prog 51=some ⟨.slice 55 1 24 [.slice none 0 0],1,[.slice none 0 0]⟩:=by kernel_rfl
theorem ty52:Bk Tryz.prog 52=some ⟨.ptr,1,[.pointer none]⟩:=by kernel_rfl
theorem ty55:Bk Tryz.prog 55=some ⟨.slice 137 3 24 [.int .u64 0,.int .i64 0,.int .i64 0],1,[.slice none 0 0]⟩:=by kernel_rfl
theorem ty57:Bk Tryz.prog 57=some ⟨.slice 143 1 24 [.slice none 0 0],1,[.slice none 0 0]⟩:=by kernel_rfl
theorem ty58:Bk Tryz.prog 58=some ⟨.array 3 64 1,64,[.int .i64 0,.int .i64 0,.int .i64 0,.int .i64 0,.int .i64 0,.int .i64 0,.int .i64 0,.int .i64 0,.int .i64 0,.int .i64 0,.int .i64 0,.int .i64 0,.int .i64 0,.int .i64 0,.int .i64 0,.int .i64 0,.int .i64 0,.int .i64 0,.int .i64 0,.int .i64 0,.int .i64 0,.int .i64 0,.int .i64 0,.int .i64 0,.int .i64 0,.int .i64 0,.int .i64 0,.int .i64 0,.int .i64 0,.int .i64 0,.int .i64 0,.int .i64 0,.int .i64 0,.int .i64 0,.int .i64 0,.int .i64 0,.int .i64 0,.int .i64 0,.int .i64 0,.int .i64 0,.int .i64 0,.int .i64 0,.int .i64 0,.int .i64 0,.int .i64 0,.int .i64 0,.int .i64 0,.int .i64 0,.int .i64 0,.int .i64 0,.int .i64 0,.int .i64 0,.int .i64 0,.int .i64 0,.int .i64 0,.int .i64 0,.int .i64 0,.int .i64 0,.int .i64 0,.int .i64 0,.int .i64 0,.int .i64 0,.int .i64 0,.int .i64 0]⟩:=by kernel_rfl
theorem ty60:Bk Tryz.prog 60=some ⟨.struct [(0,8),(8,1),(9,1),(10,1),(11,1),(12,1),(13,64)],77,[.slice none 0 0,.slice none 0 0,.slice none 0 0,.slice none 0 0,.slice none 0 0,.slice none 0 0,.slice none 0 0,.slice none 0 0,.slice none 0 0,.slice none 0 0,.slice none 0 0,.int .i64 0,.int .i64 0,.int .i64 0,.int .i64 0,.int .i64 0,.int .i64 0,.int .i64 0,.int .i64 0,.int .i64 0,.int .i64 0,.int .i64 0,.int .i64 0,.int .i64 0,.int .i64 0,.int .i64 0,.int .i64 0,.int .i64 0,.int .i64 0,.int .i64 0,.int .i64 0,.int .i64 0,.int .i64 0,.int .i64 0,.int .i64 0,.int .i64 0,.int .i64 0,.int .i64 0,.int .i64 0,.int .i64 0,.int .i64 0,.int .i64 0,.int .i64 0,.int .i64 0,.int .i64 0,.int .i64 0,.int .i64 0,.int .i64 0,.int .i64 0,.int .i64 0,.int .i64 0,.int .i64 0,.int .i64 0,.int .i64 0,.int .i64 0,.int .i64 0,.int .i64 0,.int .i64 0,.int .i64 0,.int .i64 0,.int .i64 0,.int .i64 0,.int .i64 0,.int .i64 0,.int .i64 0,.int .i64 0,.int .i64 0,.int .i64 0,.int .i64 0,.int .i64 0,.int .i64 0,.int .i64 0,.int .i64 0,.int .i64 0,.int .i64 0,.int .i64 0,.int .i64 0]⟩:=by kernel_rfl
theorem ty65:Bk Tryz.prog 65=some ⟨.slice 3 1 8 [.int .i64 0],1,[.slice none 0 0]⟩:=by kernel_rfl
theorem ty67:Bk Tryz.prog 67=some ⟨.struct [(0,1),(1,1),(2,1)],3,[.int .i64 0,.int .i64 0,.slice none 0 0]⟩:=by kernel_rfl
theorem ty81:Bk Tryz.prog 81=some ⟨.struct [(0,1),(1,1),(2,1),(3,1),(4,1),(5,1),(6,1)],7,[.int .i64 0,.int .i64 0,.int .i64 0,.int .i64 0,.int .i64 0,.string .empty,.slice none 0 0]⟩:=by kernel_rfl
theorem ty83:Bk Tryz.prog 83=some ⟨.struct [(0,1),(1,1),(2,1),(3,1),(4,1),(5,1)],6,[.int .i64 0,.int .i64 0,.int .i64 0,.int .i64 0,.int .i64 0,.slice none 0 0]⟩:=by kernel_rfl
theorem ty84:Bk Tryz.prog 84=some ⟨.slice 90 1 4 [.int .u32 0],1,[.slice none 0 0]⟩:=by kernel_rfl
theorem ty86:Bk Tryz.prog 86=some ⟨.struct [(0,1),(1,1),(2,1),(3,1)],4,[.int .i64 0,.int .i64 0,.int .i64 0,.slice none 0 0]⟩:=by kernel_rfl
theorem ty88:Bk Tryz.prog 88=some ⟨.struct [(0,1),(1,1),(2,1),(3,1),(4,1)],5,[.int .i64 0,.int .i64 0,.string .empty,.slice none 0 0,.slice none 0 0]⟩:=by kernel_rfl
theorem ty89:Bk Tryz.prog 89=some ⟨.int .u64,1,[.int .u64 0]⟩:=by kernel_rfl
theorem ty90:Bk Tryz.prog 90=some ⟨.int .u32,1,[.int .u32 0]⟩:=by kernel_rfl
theorem ty92:Bk Tryz.prog 92=some ⟨.struct [(0,1),(1,1),(2,1),(3,1),(4,1)],5,[.int .i64 0,.int .i64 0,.string .empty,.int .u64 0,.int .u32 0]⟩:=by kernel_rfl
theorem ty96:Bk Tryz.prog 96=some ⟨.struct [(0,1),(1,1),(2,1),(3,1)],4,[.int .u64 0,.int .u64 0,.int .i64 0,.slice none 0 0]⟩:=by kernel_rfl
theorem ty99:Bk Tryz.prog 99=some ⟨.func,1,[.nilFunc]⟩:=by kernel_rfl
theorem ty104:Bk Tryz.prog 104=some ⟨.struct [(0,1),(1,1),(2,1),(3,4)],7,[.int .i64 0,.int .i64 0,.int .i64 0,.int .u64 0,.int .u64 0,.int .i64 0,.slice none 0 0]⟩:=by kernel_rfl
theorem ty114:Bk Tryz.prog 114=some ⟨.ptr,1,[.pointer none]⟩:=by kernel_rfl
theorem ty119:Bk Tryz.prog 119=some ⟨.struct [(0,0),(0,1)],1,[.int .u32 0]⟩:=by kernel_rfl
theorem ty123:Bk Tryz.prog 123=some ⟨.struct [(0,0),(0,2)],2,[.int .i32 0,.int .u32 0]⟩:=by kernel_rfl
theorem ty125:Bk Tryz.prog 125=some ⟨.struct [(0,0),(0,1),(1,2)],3,[.int .u32 0,.int .i32 0,.int .u32 0]⟩:=by kernel_rfl
theorem ty127:Bk Tryz.prog 127=some ⟨.struct [(0,1),(1,3),(4,1)],5,[.slice none 0 0,.int .u32 0,.int .i32 0,.int .u32 0,.slice none 0 0]⟩:=by kernel_rfl
theorem ty130:Bk Tryz.prog 130=some ⟨.struct [(0,0),(0,0),(0,1)],1,[.int .i64 0]⟩:=by kernel_rfl
theorem ty131:Bk Tryz.prog 131=some ⟨.array 130 64 1,64,[.int .i64 0,.int .i64 0,.int .i64 0,.int .i64 0,.int .i64 0,.int .i64 0,.int .i64 0,.int .i64 0,.int .i64 0,.int .i64 0,.int .i64 0,.int .i64 0,.int .i64 0,.int .i64 0,.int .i64 0,.int .i64 0,.int .i64 0,.int .i64 0,.int .i64 0,.int .i64 0,.int .i64 0,.int .i64 0,.int .i64 0,.int .i64 0,.int .i64 0,.int .i64 0,.int .i64 0,.int .i64 0,.int .i64 0,.int .i64 0,.int .i64 0,.int .i64 0,.int .i64 0,.int .i64 0,.int .i64 0,.int .i64 0,.int .i64 0,.int .i64 0,.int .i64 0,.int .i64 0,.int .i64 0,.int .i64 0,.int .i64 0,.int .i64 0,.int .i64 0,.int .i64 0,.int .i64 0,.int .i64 0,.int .i64 0,.int .i64 0,.int .i64 0,.int .i64 0,.int .i64 0,.int .i64 0,.int .i64 0,.int .i64 0,.int .i64 0,.int .i64 0,.int .i64 0,.int .i64 0,.int .i64 0,.int .i64 0,.int .i64 0,.int .i64 0]⟩:=by kernel_rfl
theorem ty133:Bk Tryz.prog 133=some ⟨.struct [(0,8),(8,1),(9,1),(10,1),(11,1),(12,1),(13,64)],77,[.slice none 0 0,.slice none 0 0,.slice none 0 0,.slice none 0 0,.slice none 0 0,.slice none 0 0,.slice none 0 0,.slice none 0 0,.pointer none,.slice none 0 0,.slice none 0 0,.int .i64 0,.int .i64 0,.int .i64 0,.int .i64 0,.int .i64 0,.int .i64 0,.int .i64 0,.int .i64 0,.int .i64 0,.int .i64 0,.int .i64 0,.int .i64 0,.int .i64 0,.int .i64 0,.int .i64 0,.int .i64 0,.int .i64 0,.int .i64 0,.int .i64 0,.int .i64 0,.int .i64 0,.int .i64 0,.int .i64 0,.int .i64 0,.int .i64 0,.int .i64 0,.int .i64 0,.int .i64 0,.int .i64 0,.int .i64 0,.int .i64 0,.int .i64 0,.int .i64 0,.int .i64 0,.int .i64 0,.int .i64 0,.int .i64 0,.int .i64 0,.int .i64 0,.int .i64 0,.int .i64 0,.int .i64 0,.int .i64 0,.int .i64 0,.int .i64 0,.int .i64 0,.int .i64 0,.int .i64 0,.int .i64 0,.int .i64 0,.int .i64 0,.int .i64 0,.int .i64 0,.int .i64 0,.int .i64 0,.int .i64 0,.int .i64 0,.int .i64 0,.int .i64 0,.int .i64 0,.int .i64 0,.int .i64 0,.int .i64 0,.int .i64 0,.int .i64 0,.int .i64 0]⟩:=by kernel_rfl
theorem ty134:Bk Tryz.prog 134=some ⟨.func,1,[.nilFunc]⟩:=by kernel_rfl
theorem ty137:Bk Tryz.prog 137=some ⟨.struct [(0,1),(1,1),(2,1)],3,[.int .u64 0,.int .i64 0,.int .i64 0]⟩:=by kernel_rfl
theorem ty143:Bk Tryz.prog 143=some ⟨.slice 104 7 72 [.int .i64 0,.int .i64 0,.int .i64 0,.int .u64 0,.int .u64 0,.int .i64 0,.slice none 0 0],1,[.slice none 0 0]⟩:=by kernel_rfl
theorem ty152:Bk Tryz.prog 152=some ⟨.ptr,1,[.pointer none]⟩:=by kernel_rfl
theorem ty154:Bk Tryz.prog 154=some ⟨.struct [(0,1),(1,1),(2,1)],3,[.slice none 0 0,.int .i64 0,.slice none 0 0]⟩:=by kernel_rfl
theorem ty163:Bk Tryz.prog 163=some ⟨.int .u64,1,[.int .u64 0]⟩:=by kernel_rfl
theorem ty167:Bk Tryz.prog 167=some ⟨.struct [(0,1),(1,1),(2,1)],3,[.int .i64 0,.int .i64 0,.int .i64 0]⟩:=by kernel_rfl
theorem ty177:Bk Tryz.prog 177=some ⟨.slice 182 9 104 [.int .i64 0,.int .i64 0,.int .i64 0,.slice none 0 0,.int .u64 0,.int .u64 0,.int .i64 0,.slice none 0 0,.int .i64 0],1,[.slice none 0 0]⟩:=by kernel_rfl
theorem ty182:Bk Tryz.prog 182=some ⟨.struct [(0,1),(1,1),(2,1),(3,1),(4,4),(8,1)],9,[.int .i64 0,.int .i64 0,.int .i64 0,.slice none 0 0,.int .u64 0,.int .u64 0,.int .i64 0,.slice none 0 0,.int .i64 0]⟩:=by kernel_rfl
theorem ty185:Bk Tryz.prog 185=some ⟨.ptr,1,[.pointer none]⟩:=by kernel_rfl
theorem ty196:Bk Tryz.prog 196=some ⟨.struct [(0,1),(1,1),(2,1),(3,1)],4,[.int .i64 0,.int .i64 0,.int .i64 0,.int .u64 0]⟩:=by kernel_rfl
theorem ty201:Bk Tryz.prog 201=some ⟨.struct [(0,1),(1,1)],2,[.int .u32 0,.int .i64 0]⟩:=by kernel_rfl
theorem ty203:Bk Tryz.prog 203=some ⟨.struct [(0,1),(1,1),(2,1),(3,2)],5,[.int .i64 0,.int .i64 0,.int .i64 0,.int .u32 0,.int .i64 0]⟩:=by kernel_rfl
theorem ty211:Bk Tryz.prog 211=some ⟨.slice 217 9 104 [.int .i64 0,.int .i64 0,.int .i64 0,.slice none 0 0,.int .u64 0,.int .u64 0,.int .i64 0,.slice none 0 0,.int .i64 0],1,[.slice none 0 0]⟩:=by kernel_rfl
theorem ty217:Bk Tryz.prog 217=some ⟨.struct [(0,1),(1,1),(2,1),(3,1),(4,4),(8,1)],9,[.int .i64 0,.int .i64 0,.int .i64 0,.slice none 0 0,.int .u64 0,.int .u64 0,.int .i64 0,.slice none 0 0,.int .i64 0]⟩:=by kernel_rfl
theorem ty221:Bk Tryz.prog 221=some ⟨.func,1,[.nilFunc]⟩:=by kernel_rfl
theorem ty225:Bk Tryz.prog 225=some ⟨.struct [(0,8)],8,[.slice none 0 0,.slice none 0 0,.slice none 0 0,.slice none 0 0,.slice none 0 0,.slice none 0 0,.slice none 0 0,.slice none 0 0]⟩:=by kernel_rfl
theorem ty227:Bk Tryz.prog 227=some ⟨.func,1,[.nilFunc]⟩:=by kernel_rfl
theorem ty229:Bk Tryz.prog 229=some ⟨.func,1,[.nilFunc]⟩:=by kernel_rfl
theorem ty231:Bk Tryz.prog 231=some ⟨.func,1,[.nilFunc]⟩:=by kernel_rfl
theorem ty233:Bk Tryz.prog 233=some ⟨.func,1,[.nilFunc]⟩:=by kernel_rfl
theorem ty236:Bk Tryz.prog 236=some ⟨.func,1,[.nilFunc]⟩:=by kernel_rfl
theorem ty238:Bk Tryz.prog 238=some ⟨.func,1,[.nilFunc]⟩:=by kernel_rfl
theorem ty240:Bk Tryz.prog 240=some ⟨.func,1,[.nilFunc]⟩:=by kernel_rfl
theorem ty243:Bk Tryz.prog 243=some ⟨.ptr,1,[.pointer none]⟩:=by kernel_rfl
theorem ty247:Bk Tryz.prog 247=some ⟨.struct [(0,1),(1,1),(2,1),(3,1),(4,1)],5,[.int .i64 0,.int .i64 0,.int .i64 0,.int .i64 0,.int .i64 0]⟩:=by kernel_rfl
theorem ty248:Bk Tryz.prog 248=some ⟨.slice 247 5 40 [.int .i64 0,.int .i64 0,.int .i64 0,.int .i64 0,.int .i64 0],1,[.slice none 0 0]⟩:=by kernel_rfl
theorem ty250:Bk Tryz.prog 250=some ⟨.struct [(0,8),(8,1),(9,1),(10,1)],11,[.slice none 0 0,.slice none 0 0,.slice none 0 0,.slice none 0 0,.slice none 0 0,.slice none 0 0,.slice none 0 0,.slice none 0 0,.slice none 0 0,.slice none 0 0,.slice none 0 0]⟩:=by kernel_rfl
theorem ty272:Bk Tryz.prog 272=some ⟨.struct [(0,8),(8,1),(9,1),(10,1),(11,1)],12,[.slice none 0 0,.slice none 0 0,.slice none 0 0,.slice none 0 0,.slice none 0 0,.slice none 0 0,.slice none 0 0,.slice none 0 0,.slice none 0 0,.slice none 0 0,.slice none 0 0,.slice none 0 0]⟩:=by kernel_rfl
theorem ty275:Bk Tryz.prog 275=some ⟨.func,1,[.nilFunc]⟩:=by kernel_rfl
theorem ty297:Bk Tryz.prog 297=some ⟨.ptr,1,[.pointer none]⟩:=by kernel_rfl
theorem ty299:Bk Tryz.prog 299=some ⟨.ptr,1,[.pointer none]⟩:=by kernel_rfl
theorem ty301:Bk Tryz.prog 301=some ⟨.func,1,[.nilFunc]⟩:=by kernel_rfl
theorem ty319:Bk Tryz.prog 319=some ⟨.struct [(0,1),(1,1),(2,1),(3,1),(4,1),(5,1),(6,1)],7,[.int .i64 0,.int .i64 0,.int .i64 0,.int .i64 0,.int .u32 0,.int .u32 0,.slice none 0 0]⟩:=by kernel_rfl
theorem ty336:Bk Tryz.prog 336=some ⟨.func,1,[.nilFunc]⟩:=by kernel_rfl
theorem ty340:Bk Tryz.prog 340=some ⟨.ptr,1,[.pointer none]⟩:=by kernel_rfl
theorem ty342:Bk Tryz.prog 342=some ⟨.slice 345 3 24 [.int .i64 0,.int .i64 0,.int .i64 0],1,[.slice none 0 0]⟩:=by kernel_rfl
theorem ty345:Bk Tryz.prog 345=some ⟨.struct [(0,1),(1,1),(2,1)],3,[.int .i64 0,.int .i64 0,.int .i64 0]⟩:=by kernel_rfl
theorem ty348:Bk Tryz.prog 348=some ⟨.slice 349 5 40 [.int .i64 0,.int .i64 0,.int .i64 0,.int .i64 0,.int .i64 0],1,[.slice none 0 0]⟩:=by kernel_rfl
theorem ty349:Bk Tryz.prog 349=some ⟨.struct [(0,1),(1,1),(2,1),(3,1),(4,1)],5,[.int .i64 0,.int .i64 0,.int .i64 0,.int .i64 0,.int .i64 0]⟩:=by kernel_rfl
theorem ty353:Bk Tryz.prog 353=some ⟨.func,1,[.nilFunc]⟩:=by kernel_rfl
theorem ty354:Bk Tryz.prog 354=some ⟨.ptr,1,[.pointer none]⟩:=by kernel_rfl
theorem ty359:Bk Tryz.prog 359=some ⟨.struct [(0,8),(8,1),(9,1),(10,1),(11,1)],12,[.slice none 0 0,.slice none 0 0,.slice none 0 0,.slice none 0 0,.slice none 0 0,.slice none 0 0,.slice none 0 0,.slice none 0 0,.slice none 0 0,.int .i64 0,.int .i64 0,.slice none 0 0]⟩:=by kernel_rfl
theorem ty367:Bk Tryz.prog 367=some ⟨.struct [(0,8)],8,[.slice none 0 0,.slice none 0 0,.slice none 0 0,.slice none 0 0,.slice none 0 0,.slice none 0 0,.slice none 0 0,.slice none 0 0]⟩:=by kernel_rfl
theorem ty371:Bk Tryz.prog 371=some ⟨.ptr,1,[.pointer none]⟩:=by kernel_rfl
theorem ty392:Bk Tryz.prog 392=some ⟨.iface,1,[.nilIface]⟩:=by kernel_rfl
theorem ty409:Bk Tryz.prog 409=some ⟨.ptr,1,[.pointer none]⟩:=by kernel_rfl
theorem ty411:Bk Tryz.prog 411=some ⟨.ptr,1,[.pointer none]⟩:=by kernel_rfl
theorem ty413:Bk Tryz.prog 413=some ⟨.ptr,1,[.pointer none]⟩:=by kernel_rfl
theorem ty415:Bk Tryz.prog 415=some ⟨.struct [(0,7),(7,1)],8,[.int .i64 0,.int .i64 0,.int .i64 0,.int .i64 0,.int .u32 0,.int .u32 0,.slice none 0 0,.int .i64 0]⟩:=by kernel_rfl
theorem ty417:Bk Tryz.prog 417=some ⟨.struct [(0,8),(8,1)],9,[.int .i64 0,.int .i64 0,.int .i64 0,.int .i64 0,.int .u32 0,.int .u32 0,.slice none 0 0,.int .i64 0,.int .i64 0]⟩:=by kernel_rfl
theorem ty421:Bk Tryz.prog 421=some ⟨.func,1,[.nilFunc]⟩:=by kernel_rfl
theorem ty427:Bk Tryz.prog 427=some ⟨.array 3 4 1,4,[.int .i64 0,.int .i64 0,.int .i64 0,.int .i64 0]⟩:=by kernel_rfl
theorem ty439:Bk Tryz.prog 439=some ⟨.func,1,[.nilFunc]⟩:=by kernel_rfl
theorem tq92:O8 Tryz.prog 92=some [.int .i64,.int .i64,.string,.int .u64,.int .u32]:=by kernel_rfl
theorem tq137:O8 Tryz.prog 137=some [.int .u64,.int .i64,.int .i64]:=by kernel_rfl
theorem tq167:O8 Tryz.prog 167=some [.int .i64,.int .i64,.int .i64]:=by kernel_rfl
theorem tq196:O8 Tryz.prog 196=some [.int .i64,.int .i64,.int .i64,.int .u64]:=by kernel_rfl
theorem tq201:O8 Tryz.prog 201=some [.int .u32,.int .i64]:=by kernel_rfl
theorem tq247:O8 Tryz.prog 247=some [.int .i64,.int .i64,.int .i64,.int .i64,.int .i64]:=by kernel_rfl
theorem tq345:O8 Tryz.prog 345=some [.int .i64,.int .i64,.int .i64]:=by kernel_rfl
theorem tq349:O8 Tryz.prog 349=some [.int .i64,.int .i64,.int .i64,.int .i64,.int .i64]:=by kernel_rfl
def tab:Tr TI:=(.nd 143 (⟨.slice 104 7 72 [.int .i64 0,.int .i64 0,.int .i64 0,.int .u64 0,.int .u64 0,.int .i64 0,.slice none 0 0],1,[.slice none 0 0]⟩) (.nd 57 (⟨.slice 143 1 24 [.slice none 0 0],1,[.slice none 0 0]⟩) (.nd 28 (⟨.slice 88 5 80 [.int .i64 0,.int .i64 0,.string .empty,.slice none 0 0,.slice none 0 0],1,[.slice none 0 0]⟩) (.nd 20 (⟨.iface,1,[.nilIface]⟩) (.nd 4 (⟨.bool,1,[.bool false]⟩) (.nd 2 (⟨.int .i64,1,[.int .i64 0]⟩) (.nd 1 (⟨.func,1,[.nilFunc]⟩) .lf .lf) (.nd 3 (⟨.int .i64,1,[.int .i64 0]⟩) .lf .lf)) (.nd 9 (⟨.string,1,[.string .empty]⟩) (.nd 5 (⟨.int .u8,1,[.int .u8 0]⟩) .lf .lf) .lf)) (.nd 25 (⟨.slice 83 6 64 [.int .i64 0,.int .i64 0,.int .i64 0,.int .i64 0,.int .i64 0,.slice none 0 0],1,[.slice none 0 0]⟩) (.nd 23 (⟨.slice 81 7 80 [.int .i64 0,.int .i64 0,.int .i64 0,.int .i64 0,.int .i64 0,.string .empty,.slice none 0 0],1,[.slice none 0 0]⟩) (.nd 22 (⟨.slice 92 5 48 [.int .i64 0,.int .i64 0,.string .empty,.int .u64 0,.int .u32 0],1,[.slice none 0 0]⟩) .lf .lf) (.nd 24 (⟨.slice 167 3 24 [.int .i64 0,.int .i64 0,.int .i64 0],1,[.slice none 0 0]⟩) .lf .lf)) (.nd 27 (⟨.slice 86 4 48 [.int .i64 0,.int .i64 0,.int .i64 0,.slice none 0 0],1,[.slice none 0 0]⟩) (.nd 26 (⟨.slice 196 4 32 [.int .i64 0,.int .i64 0,.int .i64 0,.int .u64 0],1,[.slice none 0 0]⟩) .lf .lf) .lf))) (.nd 44 (⟨.slice 5 1 1 [.int .u8 0],1,[.slice none 0 0]⟩) (.nd 36 (⟨.slice 67 3 40 [.int .i64 0,.int .i64 0,.slice none 0 0],1,[.slice none 0 0]⟩) (.nd 31 (⟨.struct [(0,1),(1,1),(2,1),(3,1),(4,1),(5,1),(6,1),(7,1)],8,[.slice none 0 0,.slice none 0 0,.slice none 0 0,.slice none 0 0,.slice none 0 0,.slice none 0 0,.slice none 0 0,.slice none 0 0]⟩) (.nd 29 (⟨.slice 203 5 40 [.int .i64 0,.int .i64 0,.int .i64 0,.int .u32 0,.int .i64 0],1,[.slice none 0 0]⟩) .lf .lf) (.nd 32 (⟨.slice 47 6 80 [.int .i64 0,.int .i64 0,.int .i64 0,.int .i64 0,.slice none 0 0,.slice none 0 0],1,[.slice none 0 0]⟩) .lf .lf)) (.nd 40 (⟨.ptr,1,[.pointer none]⟩) (.nd 37 (⟨.int .i64,1,[.int .i64 0]⟩) .lf .lf) .lf)) (.nd 51 (⟨.slice 55 1 24 [.slice none 0 0],1,[.slice none 0 0]⟩) (.nd 47 (⟨.struct [(0,1),(1,1),(2,1),(3,1),(4,1),(5,1)],6,[.int .i64 0,.int .i64 0,.int .i64 0,.int .i64 0,.slice none 0 0,.slice none 0 0]⟩) (.nd 45 (⟨.slice 4 1 1 [.bool false],1,[.slice none 0 0]⟩) .lf .lf) .lf) (.nd 55 (⟨.slice 137 3 24 [.int .u64 0,.int .i64 0,.int .i64 0],1,[.slice none 0 0]⟩) (.nd 52 (⟨.ptr,1,[.pointer none]⟩) .lf .lf) .lf)))) (.nd 96 (⟨.struct [(0,1),(1,1),(2,1),(3,1)],4,[.int .u64 0,.int .u64 0,.int .i64 0,.slice none 0 0]⟩) (.nd 84 (⟨.slice 90 1 4 [.int .u32 0],1,[.slice none 0 0]⟩) (.nd 67 (⟨.struct [(0,1),(1,1),(2,1)],3,[.int .i64 0,.int .i64 0,.slice none 0 0]⟩) (.nd 60 (⟨.struct [(0,8),(8,1),(9,1),(10,1),(11,1),(12,1),(13,64)],77,[.slice none 0 0,.slice none 0 0,.slice none 0 0,.slice none 0 0,.slice none 0 0,.slice none 0 0,.slice none 0 0,.slice none 0 0,.slice none 0 0,.slice none 0 0,.slice none 0 0,.int .i64 0,.int .i64 0,.int .i64 0,.int .i64 0,.int .i64 0,.int .i64 0,.int .i64 0,.int .i64 0,.int .i64 0,.int .i64 0,.int .i64 0,.int .i64 0,.int .i64 0,.int .i64 0,.int .i64 0,.int .i64 0,.int .i64 0,.int .i64 0,.int .i64 0,.int .i64 0,.int .i64 0,.int .i64 0,.int .i64 0,.int .i64 0,.int .i64 0,.int .i64 0,.int .i64 0,.int .i64 0,.int .i64 0,.int .i64 0,.int .i64 0,.int .i64 0,.int .i64 0,.int .i64 0,.int .i64 0,.int .i64 0,.int .i64 0,.int .i64 0,.int .i64 0,.int .i64 0,.int .i64 0,.int .i64 0,.int .i64 0,.int .i64 0,.int .i64 0,.int .i64 0,.int .i64 0,.int .i64 0,.int .i64 0,.int .i64 0,.int .i64 0,.int .i64 0,.int .i64 0,.int .i64 0,.int .i64 0,.int .i64 0,.int .i64 0,.int .i64 0,.int .i64 0,.int .i64 0,.int .i64 0,.int .i64 0,.int .i64 0,.int .i64 0,.int .i64 0,.int .i64 0]⟩) (.nd 58 (⟨.array 3 64 1,64,[.int .i64 0,.int .i64 0,.int .i64 0,.int .i64 0,.int .i64 0,.int .i64 0,.int .i64 0,.int .i64 0,.int .i64 0,.int .i64 0,.int .i64 0,.int .i64 0,.int .i64 0,.int .i64 0,.int .i64 0,.int .i64 0,.int .i64 0,.int .i64 0,.int .i64 0,.int .i64 0,.int .i64 0,.int .i64 0,.int .i64 0,.int .i64 0,.int .i64 0,.int .i64 0,.int .i64 0,.int .i64 0,.int .i64 0,.int .i64 0,.int .i64 0,.int .i64 0,.int .i64 0,.int .i64 0,.int .i64 0,.int .i64 0,.int .i64 0,.int .i64 0,.int .i64 0,.int .i64 0,.int .i64 0,.int .i64 0,.int .i64 0,.int .i64 0,.int .i64 0,.int .i64 0,.int .i64 0,.int .i64 0,.int .i64 0,.int .i64 0,.int .i64 0,.int .i64 0,.int .i64 0,.int .i64 0,.int .i64 0,.int .i64 0,.int .i64 0,.int .i64 0,.int .i64 0,.int .i64 0,.int .i64 0,.int .i64 0,.int .i64 0,.int .i64 0]⟩) .lf .lf) (.nd 65 (⟨.slice 3 1 8 [.int .i64 0],1,[.slice none 0 0]⟩) .lf .lf)) (.nd 83 (⟨.struct [(0,1),(1,1),(2,1),(3,1),(4,1),(5,1)],6,[.int .i64 0,.int .i64 0,.int .i64 0,.int .i64 0,.int .i64 0,.slice none 0 0]⟩) (.nd 81 (⟨.struct [(0,1),(1,1),(2,1),(3,1),(4,1),(5,1),(6,1)],7,[.int .i64 0,.int .i64 0,.int .i64 0,.int .i64 0,.int .i64 0,.string .empty,.slice none 0 0]⟩) .lf .lf) .lf)) (.nd 89 (⟨.int .u64,1,[.int .u64 0]⟩) (.nd 88 (⟨.struct [(0,1),(1,1),(2,1),(3,1),(4,1)],5,[.int .i64 0,.int .i64 0,.string .empty,.slice none 0 0,.slice none 0 0]⟩) (.nd 86 (⟨.struct [(0,1),(1,1),(2,1),(3,1)],4,[.int .i64 0,.int .i64 0,.int .i64 0,.slice none 0 0]⟩) .lf .lf) .lf) (.nd 92 (⟨.struct [(0,1),(1,1),(2,1),(3,1),(4,1)],5,[.int .i64 0,.int .i64 0,.string .empty,.int .u64 0,.int .u32 0]⟩) (.nd 90 (⟨.int .u32,1,[.int .u32 0]⟩) .lf .lf) .lf))) (.nd 127 (⟨.struct [(0,1),(1,3),(4,1)],5,[.slice none 0 0,.int .u32 0,.int .i32 0,.int .u32 0,.slice none 0 0]⟩) (.nd 119 (⟨.struct [(0,0),(0,1)],1,[.int .u32 0]⟩) (.nd 104 (⟨.struct [(0,1),(1,1),(2,1),(3,4)],7,[.int .i64 0,.int .i64 0,.int .i64 0,.int .u64 0,.int .u64 0,.int .i64 0,.slice none 0 0]⟩) (.nd 99 (⟨.func,1,[.nilFunc]⟩) .lf .lf) (.nd 114 (⟨.ptr,1,[.pointer none]⟩) .lf .lf)) (.nd 125 (⟨.struct [(0,0),(0,1),(1,2)],3,[.int .u32 0,.int .i32 0,.int .u32 0]⟩) (.nd 123 (⟨.struct [(0,0),(0,2)],2,[.int .i32 0,.int .u32 0]⟩) .lf .lf) .lf)) (.nd 133 (⟨.struct [(0,8),(8,1),(9,1),(10,1),(11,1),(12,1),(13,64)],77,[.slice none 0 0,.slice none 0 0,.slice none 0 0,.slice none 0 0,.slice none 0 0,.slice none 0 0,.slice none 0 0,.slice none 0 0,.pointer none,.slice none 0 0,.slice none 0 0,.int .i64 0,.int .i64 0,.int .i64 0,.int .i64 0,.int .i64 0,.int .i64 0,.int .i64 0,.int .i64 0,.int .i64 0,.int .i64 0,.int .i64 0,.int .i64 0,.int .i64 0,.int .i64 0,.int .i64 0,.int .i64 0,.int .i64 0,.int .i64 0,.int .i64 0,.int .i64 0,.int .i64 0,.int .i64 0,.int .i64 0,.int .i64 0,.int .i64 0,.int .i64 0,.int .i64 0,.int .i64 0,.int .i64 0,.int .i64 0,.int .i64 0,.int .i64 0,.int .i64 0,.int .i64 0,.int .i64 0,.int .i64 0,.int .i64 0,.int .i64 0,.int .i64 0,.int .i64 0,.int .i64 0,.int .i64 0,.int .i64 0,.int .i64 0,.int .i64 0,.int .i64 0,.int .i64 0,.int .i64 0,.int .i64 0,.int .i64 0,.int .i64 0,.int .i64 0,.int .i64 0,.int .i64 0,.int .i64 0,.int .i64 0,.int .i64 0,.int .i64 0,.int .i64 0,.int .i64 0,.int .i64 0,.int .i64 0,.int .i64 0,.int .i64 0,.int .i64 0,.int .i64 0]⟩) (.nd 131 (⟨.array 130 64 1,64,[.int .i64 0,.int .i64 0,.int .i64 0,.int .i64 0,.int .i64 0,.int .i64 0,.int .i64 0,.int .i64 0,.int .i64 0,.int .i64 0,.int .i64 0,.int .i64 0,.int .i64 0,.int .i64 0,.int .i64 0,.int .i64 0,.int .i64 0,.int .i64 0,.int .i64 0,.int .i64 0,.int .i64 0,.int .i64 0,.int .i64 0,.int .i64 0,.int .i64 0,.int .i64 0,.int .i64 0,.int .i64 0,.int .i64 0,.int .i64 0,.int .i64 0,.int .i64 0,.int .i64 0,.int .i64 0,.int .i64 0,.int .i64 0,.int .i64 0,.int .i64 0,.int .i64 0,.int .i64 0,.int .i64 0,.int .i64 0,.int .i64 0,.int .i64 0,.int .i64 0,.int .i64 0,.int .i64 0,.int .i64 0,.int .i64 0,.int .i64 0,.int .i64 0,.int .i64 0,.int .i64 0,.int .i64 0,.int .i64 0,.int .i64 0,.int .i64 0,.int .i64 0,.int .i64 0,.int .i64 0,.int .i64 0,.int .i64 0,.int .i64 0,.int .i64 0]⟩) (.nd 130 (⟨.struct [(0,0),(0,0),(0,1)],1,[.int .i64 0]⟩) .lf .lf) .lf) (.nd 137 (⟨.struct [(0,1),(1,1),(2,1)],3,[.int .u64 0,.int .i64 0,.int .i64 0]⟩) (.nd 134 (⟨.func,1,[.nilFunc]⟩) .lf .lf) .lf))))) (.nd 272 (⟨.struct [(0,8),(8,1),(9,1),(10,1),(11,1)],12,[.slice none 0 0,.slice none 0 0,.slice none 0 0,.slice none 0 0,.slice none 0 0,.slice none 0 0,.slice none 0 0,.slice none 0 0,.slice none 0 0,.slice none 0 0,.slice none 0 0,.slice none 0 0]⟩) (.nd 221 (⟨.func,1,[.nilFunc]⟩) (.nd 185 (⟨.ptr,1,[.pointer none]⟩) (.nd 167 (⟨.struct [(0,1),(1,1),(2,1)],3,[.int .i64 0,.int .i64 0,.int .i64 0]⟩) (.nd 154 (⟨.struct [(0,1),(1,1),(2,1)],3,[.slice none 0 0,.int .i64 0,.slice none 0 0]⟩) (.nd 152 (⟨.ptr,1,[.pointer none]⟩) .lf .lf) (.nd 163 (⟨.int .u64,1,[.int .u64 0]⟩) .lf .lf)) (.nd 182 (⟨.struct [(0,1),(1,1),(2,1),(3,1),(4,4),(8,1)],9,[.int .i64 0,.int .i64 0,.int .i64 0,.slice none 0 0,.int .u64 0,.int .u64 0,.int .i64 0,.slice none 0 0,.int .i64 0]⟩) (.nd 177 (⟨.slice 182 9 104 [.int .i64 0,.int .i64 0,.int .i64 0,.slice none 0 0,.int .u64 0,.int .u64 0,.int .i64 0,.slice none 0 0,.int .i64 0],1,[.slice none 0 0]⟩) .lf .lf) .lf)) (.nd 203 (⟨.struct [(0,1),(1,1),(2,1),(3,2)],5,[.int .i64 0,.int .i64 0,.int .i64 0,.int .u32 0,.int .i64 0]⟩) (.nd 201 (⟨.struct [(0,1),(1,1)],2,[.int .u32 0,.int .i64 0]⟩) (.nd 196 (⟨.struct [(0,1),(1,1),(2,1),(3,1)],4,[.int .i64 0,.int .i64 0,.int .i64 0,.int .u64 0]⟩) .lf .lf) .lf) (.nd 217 (⟨.struct [(0,1),(1,1),(2,1),(3,1),(4,4),(8,1)],9,[.int .i64 0,.int .i64 0,.int .i64 0,.slice none 0 0,.int .u64 0,.int .u64 0,.int .i64 0,.slice none 0 0,.int .i64 0]⟩) (.nd 211 (⟨.slice 217 9 104 [.int .i64 0,.int .i64 0,.int .i64 0,.slice none 0 0,.int .u64 0,.int .u64 0,.int .i64 0,.slice none 0 0,.int .i64 0],1,[.slice none 0 0]⟩) .lf .lf) .lf))) (.nd 238 (⟨.func,1,[.nilFunc]⟩) (.nd 231 (⟨.func,1,[.nilFunc]⟩) (.nd 227 (⟨.func,1,[.nilFunc]⟩) (.nd 225 (⟨.struct [(0,8)],8,[.slice none 0 0,.slice none 0 0,.slice none 0 0,.slice none 0 0,.slice none 0 0,.slice none 0 0,.slice none 0 0,.slice none 0 0]⟩) .lf .lf) (.nd 229 (⟨.func,1,[.nilFunc]⟩) .lf .lf)) (.nd 236 (⟨.func,1,[.nilFunc]⟩) (.nd 233 (⟨.func,1,[.nilFunc]⟩) .lf .lf) .lf)) (.nd 247 (⟨.struct [(0,1),(1,1),(2,1),(3,1),(4,1)],5,[.int .i64 0,.int .i64 0,.int .i64 0,.int .i64 0,.int .i64 0]⟩) (.nd 243 (⟨.ptr,1,[.pointer none]⟩) (.nd 240 (⟨.func,1,[.nilFunc]⟩) .lf .lf) .lf) (.nd 250 (⟨.struct [(0,8),(8,1),(9,1),(10,1)],11,[.slice none 0 0,.slice none 0 0,.slice none 0 0,.slice none 0 0,.slice none 0 0,.slice none 0 0,.slice none 0 0,.slice none 0 0,.slice none 0 0,.slice none 0 0,.slice none 0 0]⟩) (.nd 248 (⟨.slice 247 5 40 [.int .i64 0,.int .i64 0,.int .i64 0,.int .i64 0,.int .i64 0],1,[.slice none 0 0]⟩) .lf .lf) .lf)))) (.nd 354 (⟨.ptr,1,[.pointer none]⟩) (.nd 340 (⟨.ptr,1,[.pointer none]⟩) (.nd 301 (⟨.func,1,[.nilFunc]⟩) (.nd 297 (⟨.ptr,1,[.pointer none]⟩) (.nd 275 (⟨.func,1,[.nilFunc]⟩) .lf .lf) (.nd 299 (⟨.ptr,1,[.pointer none]⟩) .lf .lf)) (.nd 336 (⟨.func,1,[.nilFunc]⟩) (.nd 319 (⟨.struct [(0,1),(1,1),(2,1),(3,1),(4,1),(5,1),(6,1)],7,[.int .i64 0,.int .i64 0,.int .i64 0,.int .i64 0,.int .u32 0,.int .u32 0,.slice none 0 0]⟩) .lf .lf) .lf)) (.nd 348 (⟨.slice 349 5 40 [.int .i64 0,.int .i64 0,.int .i64 0,.int .i64 0,.int .i64 0],1,[.slice none 0 0]⟩) (.nd 345 (⟨.struct [(0,1),(1,1),(2,1)],3,[.int .i64 0,.int .i64 0,.int .i64 0]⟩) (.nd 342 (⟨.slice 345 3 24 [.int .i64 0,.int .i64 0,.int .i64 0],1,[.slice none 0 0]⟩) .lf .lf) .lf) (.nd 353 (⟨.func,1,[.nilFunc]⟩) (.nd 349 (⟨.struct [(0,1),(1,1),(2,1),(3,1),(4,1)],5,[.int .i64 0,.int .i64 0,.int .i64 0,.int .i64 0,.int .i64 0]⟩) .lf .lf) .lf))) (.nd 413 (⟨.ptr,1,[.pointer none]⟩) (.nd 392 (⟨.iface,1,[.nilIface]⟩) (.nd 367 (⟨.struct [(0,8)],8,[.slice none 0 0,.slice none 0 0,.slice none 0 0,.slice none 0 0,.slice none 0 0,.slice none 0 0,.slice none 0 0,.slice none 0 0]⟩) (.nd 359 (⟨.struct [(0,8),(8,1),(9,1),(10,1),(11,1)],12,[.slice none 0 0,.slice none 0 0,.slice none 0 0,.slice none 0 0,.slice none 0 0,.slice none 0 0,.slice none 0 0,.slice none 0 0,.slice none 0 0,.int .i64 0,.int .i64 0,.slice none 0 0]⟩) .lf .lf) (.nd 371 (⟨.ptr,1,[.pointer none]⟩) .lf .lf)) (.nd 411 (⟨.ptr,1,[.pointer none]⟩) (.nd 409 (⟨.ptr,1,[.pointer none]⟩) .lf .lf) .lf)) (.nd 421 (⟨.func,1,[.nilFunc]⟩) (.nd 417 (⟨.struct [(0,8),(8,1)],9,[.int .i64 0,.int .i64 0,.int .i64 0,.int .i64 0,.int .u32 0,.int .u32 0,.slice none 0 0,.int .i64 0,.int .i64 0]⟩) (.nd 415 (⟨.struct [(0,7),(7,1)],8,[.int .i64 0,.int .i64 0,.int .i64 0,.int .i64 0,.int .u32 0,.int .u32 0,.slice none 0 0,.int .i64 0]⟩) .lf .lf) .lf) (.nd 439 (⟨.func,1,[.nilFunc]⟩) (.nd 427 (⟨.array 3 4 1,4,[.int .i64 0,.int .i64 0,.int .i64 0,.int .i64 0]⟩) .lf .lf) .lf))))))
def etab:Tr (List EK):=(.nd 201 ([.int .u32,.int .i64]) (.nd 167 ([.int .i64,.int .i64,.int .i64]) (.nd 137 ([.int .u64,.int .i64,.int .i64]) (.nd 92 ([.int .i64,.int .i64,.string,.int .u64,.int .u32]) .lf .lf) .lf) (.nd 196 ([.int .i64,.int .i64,.int .i64,.int .u64]) .lf .lf)) (.nd 345 ([.int .i64,.int .i64,.int .i64]) (.nd 247 ([.int .i64,.int .i64,.int .i64,.int .i64,.int .i64]) .lf .lf) (.nd 349 ([.int .i64,.int .i64,.int .i64,.int .i64,.int .i64]) .lf .lf)))
theorem tab_ok:tab.all (fun t i=>Bk Tryz.prog t=some i):=⟨ty143,⟨ty57,⟨ty28,⟨ty20,⟨ty4,⟨ty2,⟨ty1,trivial,trivial⟩,⟨ty3,trivial,trivial⟩⟩,⟨ty9,⟨ty5,trivial,trivial⟩,trivial⟩⟩,⟨ty25,⟨ty23,⟨ty22,trivial,trivial⟩,⟨ty24,trivial,trivial⟩⟩,⟨ty27,⟨ty26,trivial,trivial⟩,trivial⟩⟩⟩,⟨ty44,⟨ty36,⟨ty31,⟨ty29,trivial,trivial⟩,⟨ty32,trivial,trivial⟩⟩,⟨ty40,⟨ty37,trivial,trivial⟩,trivial⟩⟩,⟨ty51,⟨ty47,⟨ty45,trivial,trivial⟩,trivial⟩,⟨ty55,⟨ty52,trivial,trivial⟩,trivial⟩⟩⟩⟩,⟨ty96,⟨ty84,⟨ty67,⟨ty60,⟨ty58,trivial,trivial⟩,⟨ty65,trivial,trivial⟩⟩,⟨ty83,⟨ty81,trivial,trivial⟩,trivial⟩⟩,⟨ty89,⟨ty88,⟨ty86,trivial,trivial⟩,trivial⟩,⟨ty92,⟨ty90,trivial,trivial⟩,trivial⟩⟩⟩,⟨ty127,⟨ty119,⟨ty104,⟨ty99,trivial,trivial⟩,⟨ty114,trivial,trivial⟩⟩,⟨ty125,⟨ty123,trivial,trivial⟩,trivial⟩⟩,⟨ty133,⟨ty131,⟨ty130,trivial,trivial⟩,trivial⟩,⟨ty137,⟨ty134,trivial,trivial⟩,trivial⟩⟩⟩⟩⟩,⟨ty272,⟨ty221,⟨ty185,⟨ty167,⟨ty154,⟨ty152,trivial,trivial⟩,⟨ty163,trivial,trivial⟩⟩,⟨ty182,⟨ty177,trivial,trivial⟩,trivial⟩⟩,⟨ty203,⟨ty201,⟨ty196,trivial,trivial⟩,trivial⟩,⟨ty217,⟨ty211,trivial,trivial⟩,trivial⟩⟩⟩,⟨ty238,⟨ty231,⟨ty227,⟨ty225,trivial,trivial⟩,⟨ty229,trivial,trivial⟩⟩,⟨ty236,⟨ty233,trivial,trivial⟩,trivial⟩⟩,⟨ty247,⟨ty243,⟨ty240,trivial,trivial⟩,trivial⟩,⟨ty250,⟨ty248,trivial,trivial⟩,trivial⟩⟩⟩⟩,⟨ty354,⟨ty340,⟨ty301,⟨ty297,⟨ty275,trivial,trivial⟩,⟨ty299,trivial,trivial⟩⟩,⟨ty336,⟨ty319,trivial,trivial⟩,trivial⟩⟩,⟨ty348,⟨ty345,⟨ty342,trivial,trivial⟩,trivial⟩,⟨ty353,⟨ty349,trivial,trivial⟩,trivial⟩⟩⟩,⟨ty413,⟨ty392,⟨ty367,⟨ty359,trivial,trivial⟩,⟨ty371,trivial,trivial⟩⟩,⟨ty411,⟨ty409,trivial,trivial⟩,trivial⟩⟩,⟨ty421,⟨ty417,⟨ty415,trivial,trivial⟩,trivial⟩,⟨ty439,⟨ty427,trivial,trivial⟩,trivial⟩⟩⟩⟩⟩⟩
theorem Ar2:etab.all (fun t i=>O8 Tryz.prog t=some i):=⟨tq201,⟨tq167,⟨tq137,⟨tq92,trivial,trivial⟩,trivial⟩,⟨tq196,trivial,trivial⟩⟩,⟨tq345,⟨tq247,trivial,trivial⟩,⟨tq349,trivial,trivial⟩⟩⟩
def Γ:TyE Tryz.prog:=⟨⟨fun t=>tab.look t,fun _ _ h=>Aq2 (Tr.look_ok tab_ok h)⟩,fun t=>etab.look t,fun _ _ h=>Ap1 (Tr.look_ok Ar2 h)⟩
theorem hm:Tryz.prog.follows .mixedOrders=true:=by kernel_rfl
theorem F8:Fun Tryz.prog 8 Tryz.f8 (Af Tryz.f8):=⟨Tryz.func8,rfl,by kernel_rfl⟩
theorem F10:Fun Tryz.prog 10 Tryz.f10 (Af Tryz.f10):=⟨Tryz.func10,rfl,by kernel_rfl⟩
theorem F11:Fun Tryz.prog 11 Tryz.f11 (Af Tryz.f11):=⟨Tryz.func11,rfl,by kernel_rfl⟩
theorem F14:Fun Tryz.prog 14 Tryz.f14 (Af Tryz.f14):=⟨Tryz.func14,rfl,by kernel_rfl⟩
theorem F15:Fun Tryz.prog 15 Tryz.f15 (Af Tryz.f15):=⟨Tryz.func15,rfl,by kernel_rfl⟩
theorem F16:Fun Tryz.prog 16 Tryz.f16 (Af Tryz.f16):=⟨Tryz.func16,rfl,by kernel_rfl⟩
theorem F18:Fun Tryz.prog 18 Tryz.f18 (Af Tryz.f18):=⟨Tryz.func18,rfl,by kernel_rfl⟩
theorem F19:Fun Tryz.prog 19 Tryz.f19 (Af Tryz.f19):=⟨Tryz.func19,rfl,by kernel_rfl⟩
theorem F20:Fun Tryz.prog 20 Tryz.f20 (Af Tryz.f20):=⟨Tryz.func20,rfl,by kernel_rfl⟩
theorem F21:Fun Tryz.prog 21 Tryz.f21 (Af Tryz.f21):=⟨Tryz.func21,rfl,by kernel_rfl⟩
theorem F23:Fun Tryz.prog 23 Tryz.f23 (Af Tryz.f23):=⟨Tryz.func23,rfl,by kernel_rfl⟩
theorem F24:Fun Tryz.prog 24 Tryz.f24 (Af Tryz.f24):=⟨Tryz.func24,rfl,by kernel_rfl⟩
theorem F26:Fun Tryz.prog 26 Tryz.f26 (Af Tryz.f26):=⟨Tryz.func26,rfl,by kernel_rfl⟩
theorem F27:Fun Tryz.prog 27 Tryz.f27 (Af Tryz.f27):=⟨Tryz.func27,rfl,by kernel_rfl⟩
theorem F28:Fun Tryz.prog 28 Tryz.f28 (Af Tryz.f28):=⟨Tryz.func28,rfl,by kernel_rfl⟩
theorem F29:Fun Tryz.prog 29 Tryz.f29 (Af Tryz.f29):=⟨Tryz.func29,rfl,by kernel_rfl⟩
theorem F30:Fun Tryz.prog 30 Tryz.f30 (Af Tryz.f30):=⟨Tryz.func30,rfl,by kernel_rfl⟩
theorem F31:Fun Tryz.prog 31 Tryz.f31 (Af Tryz.f31):=⟨Tryz.func31,rfl,by kernel_rfl⟩
theorem F32:Fun Tryz.prog 32 Tryz.f32 (Af Tryz.f32):=⟨Tryz.func32,rfl,by kernel_rfl⟩
theorem F33:Fun Tryz.prog 33 Tryz.f33 (Af Tryz.f33):=⟨Tryz.func33,rfl,by kernel_rfl⟩
theorem F34:Fun Tryz.prog 34 Tryz.f34 (Af Tryz.f34):=⟨Tryz.func34,rfl,by kernel_rfl⟩
theorem F35:Fun Tryz.prog 35 Tryz.f35 (Af Tryz.f35):=⟨Tryz.func35,rfl,by kernel_rfl⟩
theorem F36:Fun Tryz.prog 36 Tryz.f36 (Af Tryz.f36):=⟨Tryz.func36,rfl,by kernel_rfl⟩
theorem F37:Fun Tryz.prog 37 Tryz.f37 (Af Tryz.f37):=⟨Tryz.func37,rfl,by kernel_rfl⟩
theorem F38:Fun Tryz.prog 38 Tryz.f38 (Af Tryz.f38):=⟨Tryz.func38,rfl,by kernel_rfl⟩
theorem F39:Fun Tryz.prog 39 Tryz.f39 (Af Tryz.f39):=⟨Tryz.func39,rfl,by kernel_rfl⟩
theorem F40:Fun Tryz.prog 40 Tryz.f40 (Af Tryz.f40):=⟨Tryz.func40,rfl,by kernel_rfl⟩
theorem F43:Fun Tryz.prog 43 Tryz.f43 (Af Tryz.f43):=⟨Tryz.func43,rfl,by kernel_rfl⟩
theorem F44:Fun Tryz.prog 44 Tryz.f44 (Af Tryz.f44):=⟨Tryz.func44,rfl,by kernel_rfl⟩
theorem F45:Fun Tryz.prog 45 Tryz.f45 (Af Tryz.f45):=⟨Tryz.func45,rfl,by kernel_rfl⟩
theorem F46:Fun Tryz.prog 46 Tryz.f46 (Af Tryz.f46):=⟨Tryz.func46,rfl,by kernel_rfl⟩
theorem F47:Fun Tryz.prog 47 Tryz.f47 (Af Tryz.f47):=⟨Tryz.func47,rfl,by kernel_rfl⟩
theorem F48:Fun Tryz.prog 48 Tryz.f48 (Af Tryz.f48):=⟨Tryz.func48,rfl,by kernel_rfl⟩
theorem F49:Fun Tryz.prog 49 Tryz.f49 (Af Tryz.f49):=⟨Tryz.func49,rfl,by kernel_rfl⟩
theorem F50:Fun Tryz.prog 50 Tryz.f50 (Af Tryz.f50):=⟨Tryz.func50,rfl,by kernel_rfl⟩
theorem F51:Fun Tryz.prog 51 Tryz.f51 (Af Tryz.f51):=⟨Tryz.func51,rfl,by kernel_rfl⟩
theorem F52:Fun Tryz.prog 52 Tryz.f52 (Af Tryz.f52):=⟨Tryz.func52,rfl,by kernel_rfl⟩
theorem F53:Fun Tryz.prog 53 Tryz.f53 (Af Tryz.f53):=⟨Tryz.func53,rfl,by kernel_rfl⟩
theorem F54:Fun Tryz.prog 54 Tryz.f54 (Af Tryz.f54):=⟨Tryz.func54,rfl,by kernel_rfl⟩
theorem F55:Fun Tryz.prog 55 Tryz.f55 (Af Tryz.f55):=⟨Tryz.func55,rfl,by kernel_rfl⟩
theorem F57:Fun Tryz.prog 57 Tryz.f57 (Af Tryz.f57):=⟨Tryz.func57,rfl,by kernel_rfl⟩
theorem F63:Fun Tryz.prog 63 Tryz.f63 (Af Tryz.f63):=⟨Tryz.func63,rfl,by kernel_rfl⟩
theorem F64:Fun Tryz.prog 64 Tryz.f64 (Af Tryz.f64):=⟨Tryz.func64,rfl,by kernel_rfl⟩
theorem F65:Fun Tryz.prog 65 Tryz.f65 (Af Tryz.f65):=⟨Tryz.func65,rfl,by kernel_rfl⟩
theorem F66:Fun Tryz.prog 66 Tryz.f66 (Af Tryz.f66):=⟨Tryz.func66,rfl,by kernel_rfl⟩
theorem F67:Fun Tryz.prog 67 Tryz.f67 (Af Tryz.f67):=⟨Tryz.func67,rfl,by kernel_rfl⟩
theorem F68:Fun Tryz.prog 68 Tryz.f68 (Af Tryz.f68):=⟨Tryz.func68,rfl,by kernel_rfl⟩
theorem F69:Fun Tryz.prog 69 Tryz.f69 (Af Tryz.f69):=⟨Tryz.func69,rfl,by kernel_rfl⟩
theorem F70:Fun Tryz.prog 70 Tryz.f70 (Af Tryz.f70):=⟨Tryz.func70,rfl,by kernel_rfl⟩
theorem F71:Fun Tryz.prog 71 Tryz.f71 (Af Tryz.f71):=⟨Tryz.func71,rfl,by kernel_rfl⟩
theorem F72:Fun Tryz.prog 72 Tryz.f72 (Af Tryz.f72):=⟨Tryz.func72,rfl,by kernel_rfl⟩
theorem F73:Fun Tryz.prog 73 Tryz.f73 (Af Tryz.f73):=⟨Tryz.func73,rfl,by kernel_rfl⟩
theorem F74:Fun Tryz.prog 74 Tryz.f74 (Af Tryz.f74):=⟨Tryz.func74,rfl,by kernel_rfl⟩
theorem F75:Fun Tryz.prog 75 Tryz.f75 (Af Tryz.f75):=⟨Tryz.func75,rfl,by kernel_rfl⟩
theorem F76:Fun Tryz.prog 76 Tryz.f76 (Af Tryz.f76):=⟨Tryz.func76,rfl,by kernel_rfl⟩
theorem F77:Fun Tryz.prog 77 Tryz.f77 (Af Tryz.f77):=⟨Tryz.func77,rfl,by kernel_rfl⟩
theorem F78:Fun Tryz.prog 78 Tryz.f78 (Af Tryz.f78):=⟨Tryz.func78,rfl,by kernel_rfl⟩
theorem F79:Fun Tryz.prog 79 Tryz.f79 (Af Tryz.f79):=⟨Tryz.func79,rfl,by kernel_rfl⟩
theorem F80:Fun Tryz.prog 80 Tryz.f80 (Af Tryz.f80):=⟨Tryz.func80,rfl,by kernel_rfl⟩
theorem F81:Fun Tryz.prog 81 Tryz.f81 (Af Tryz.f81):=⟨Tryz.func81,rfl,by kernel_rfl⟩
theorem F82:Fun Tryz.prog 82 Tryz.f82 (Af Tryz.f82):=⟨Tryz.func82,rfl,by kernel_rfl⟩
theorem F83:Fun Tryz.prog 83 Tryz.f83 (Af Tryz.f83):=⟨Tryz.func83,rfl,by kernel_rfl⟩
theorem F84:Fun Tryz.prog 84 Tryz.f84 (Af Tryz.f84):=⟨Tryz.func84,rfl,by kernel_rfl⟩
theorem F85:Fun Tryz.prog 85 Tryz.f85 (Af Tryz.f85):=⟨Tryz.func85,rfl,by kernel_rfl⟩
theorem F86:Fun Tryz.prog 86 Tryz.f86 (Af Tryz.f86):=⟨Tryz.func86,rfl,by kernel_rfl⟩
theorem F87:Fun Tryz.prog 87 Tryz.f87 (Af Tryz.f87):=⟨Tryz.func87,rfl,by kernel_rfl⟩
theorem F88:Fun Tryz.prog 88 Tryz.f88 (Af Tryz.f88):=⟨Tryz.func88,rfl,by kernel_rfl⟩
theorem F89:Fun Tryz.prog 89 Tryz.f89 (Af Tryz.f89):=⟨Tryz.func89,rfl,by kernel_rfl⟩
theorem F90:Fun Tryz.prog 90 Tryz.f90 (Af Tryz.f90):=⟨Tryz.func90,rfl,by kernel_rfl⟩
theorem F91:Fun Tryz.prog 91 Tryz.f91 (Af Tryz.f91):=⟨Tryz.func91,rfl,by kernel_rfl⟩
theorem F92:Fun Tryz.prog 92 Tryz.f92 (Af Tryz.f92):=⟨Tryz.func92,rfl,by kernel_rfl⟩
theorem F93:Fun Tryz.prog 93 Tryz.f93 (Af Tryz.f93):=⟨Tryz.func93,rfl,by kernel_rfl⟩
theorem F94:Fun Tryz.prog 94 Tryz.f94 (Af Tryz.f94):=⟨Tryz.func94,rfl,by kernel_rfl⟩
theorem F95:Fun Tryz.prog 95 Tryz.f95 (Af Tryz.f95):=⟨Tryz.func95,rfl,by kernel_rfl⟩
theorem F96:Fun Tryz.prog 96 Tryz.f96 (Af Tryz.f96):=⟨Tryz.func96,rfl,by kernel_rfl⟩
theorem F97:Fun Tryz.prog 97 Tryz.f97 (Af Tryz.f97):=⟨Tryz.func97,rfl,by kernel_rfl⟩
theorem F98:Fun Tryz.prog 98 Tryz.f98 (Af Tryz.f98):=⟨Tryz.func98,rfl,by kernel_rfl⟩
theorem F99:Fun Tryz.prog 99 Tryz.f99 (Af Tryz.f99):=⟨Tryz.func99,rfl,by kernel_rfl⟩
theorem F100:Fun Tryz.prog 100 Tryz.f100 (Af Tryz.f100):=⟨Tryz.func100,rfl,by kernel_rfl⟩
theorem F101:Fun Tryz.prog 101 Tryz.f101 (Af Tryz.f101):=⟨Tryz.func101,rfl,by kernel_rfl⟩
theorem F102:Fun Tryz.prog 102 Tryz.f102 (Af Tryz.f102):=⟨Tryz.func102,rfl,by kernel_rfl⟩
theorem F103:Fun Tryz.prog 103 Tryz.f103 (Af Tryz.f103):=⟨Tryz.func103,rfl,by kernel_rfl⟩
theorem F104:Fun Tryz.prog 104 Tryz.f104 (Af Tryz.f104):=⟨Tryz.func104,rfl,by kernel_rfl⟩
theorem F105:Fun Tryz.prog 105 Tryz.f105 (Af Tryz.f105):=⟨Tryz.func105,rfl,by kernel_rfl⟩
theorem F106:Fun Tryz.prog 106 Tryz.f106 (Af Tryz.f106):=⟨Tryz.func106,rfl,by kernel_rfl⟩
theorem F107:Fun Tryz.prog 107 Tryz.f107 (Af Tryz.f107):=⟨Tryz.func107,rfl,by kernel_rfl⟩
theorem F110:Fun Tryz.prog 110 Tryz.f110 (Af Tryz.f110):=⟨Tryz.func110,rfl,by kernel_rfl⟩
theorem F111:Fun Tryz.prog 111 Tryz.f111 (Af Tryz.f111):=⟨Tryz.func111,rfl,by kernel_rfl⟩
theorem F112:Fun Tryz.prog 112 Tryz.f112 (Af Tryz.f112):=⟨Tryz.func112,rfl,by kernel_rfl⟩
theorem F113:Fun Tryz.prog 113 Tryz.f113 (Af Tryz.f113):=⟨Tryz.func113,rfl,by kernel_rfl⟩
theorem F114:Fun Tryz.prog 114 Tryz.f114 (Af Tryz.f114):=⟨Tryz.func114,rfl,by kernel_rfl⟩
theorem F115:Fun Tryz.prog 115 Tryz.f115 (Af Tryz.f115):=⟨Tryz.func115,rfl,by kernel_rfl⟩
theorem F116:Fun Tryz.prog 116 Tryz.f116 (Af Tryz.f116):=⟨Tryz.func116,rfl,by kernel_rfl⟩
theorem F117:Fun Tryz.prog 117 Tryz.f117 (Af Tryz.f117):=⟨Tryz.func117,rfl,by kernel_rfl⟩
theorem F118:Fun Tryz.prog 118 Tryz.f118 (Af Tryz.f118):=⟨Tryz.func118,rfl,by kernel_rfl⟩
theorem F119:Fun Tryz.prog 119 Tryz.f119 (Af Tryz.f119):=⟨Tryz.func119,rfl,by kernel_rfl⟩
theorem F120:Fun Tryz.prog 120 Tryz.f120 (Af Tryz.f120):=⟨Tryz.func120,rfl,by kernel_rfl⟩
theorem F121:Fun Tryz.prog 121 Tryz.f121 (Af Tryz.f121):=⟨Tryz.func121,rfl,by kernel_rfl⟩
theorem F122:Fun Tryz.prog 122 Tryz.f122 (Af Tryz.f122):=⟨Tryz.func122,rfl,by kernel_rfl⟩
theorem F123:Fun Tryz.prog 123 Tryz.f123 (Af Tryz.f123):=⟨Tryz.func123,rfl,by kernel_rfl⟩
theorem F124:Fun Tryz.prog 124 Tryz.f124 (Af Tryz.f124):=⟨Tryz.func124,rfl,by kernel_rfl⟩
theorem F125:Fun Tryz.prog 125 Tryz.f125 (Af Tryz.f125):=⟨Tryz.func125,rfl,by kernel_rfl⟩
theorem F126:Fun Tryz.prog 126 Tryz.f126 (Af Tryz.f126):=⟨Tryz.func126,rfl,by kernel_rfl⟩
theorem F127:Fun Tryz.prog 127 Tryz.f127 (Af Tryz.f127):=⟨Tryz.func127,rfl,by kernel_rfl⟩
theorem F128:Fun Tryz.prog 128 Tryz.f128 (Af Tryz.f128):=⟨Tryz.func128,rfl,by kernel_rfl⟩
theorem F129:Fun Tryz.prog 129 Tryz.f129 (Af Tryz.f129):=⟨Tryz.func129,rfl,by kernel_rfl⟩
theorem F130:Fun Tryz.prog 130 Tryz.f130 (Af Tryz.f130):=⟨Tryz.func130,rfl,by kernel_rfl⟩
theorem F131:Fun Tryz.prog 131 Tryz.f131 (Af Tryz.f131):=⟨Tryz.func131,rfl,by kernel_rfl⟩
theorem F132:Fun Tryz.prog 132 Tryz.f132 (Af Tryz.f132):=⟨Tryz.func132,rfl,by kernel_rfl⟩
theorem F133:Fun Tryz.prog 133 Tryz.f133 (Af Tryz.f133):=⟨Tryz.func133,rfl,by kernel_rfl⟩
theorem F134:Fun Tryz.prog 134 Tryz.f134 (Af Tryz.f134):=⟨Tryz.func134,rfl,by kernel_rfl⟩
theorem F135:Fun Tryz.prog 135 Tryz.f135 (Af Tryz.f135):=⟨Tryz.func135,rfl,by kernel_rfl⟩
theorem F136:Fun Tryz.prog 136 Tryz.f136 (Af Tryz.f136):=⟨Tryz.func136,rfl,by kernel_rfl⟩
theorem F137:Fun Tryz.prog 137 Tryz.f137 (Af Tryz.f137):=⟨Tryz.func137,rfl,by kernel_rfl⟩
theorem F138:Fun Tryz.prog 138 Tryz.f138 (Af Tryz.f138):=⟨Tryz.func138,rfl,by kernel_rfl⟩
theorem F139:Fun Tryz.prog 139 Tryz.f139 (Af Tryz.f139):=⟨Tryz.func139,rfl,by kernel_rfl⟩
theorem F140:Fun Tryz.prog 140 Tryz.f140 (Af Tryz.f140):=⟨Tryz.func140,rfl,by kernel_rfl⟩
theorem F141:Fun Tryz.prog 141 Tryz.f141 (Af Tryz.f141):=⟨Tryz.func141,rfl,by kernel_rfl⟩
theorem F142:Fun Tryz.prog 142 Tryz.f142 (Af Tryz.f142):=⟨Tryz.func142,rfl,by kernel_rfl⟩
theorem F143:Fun Tryz.prog 143 Tryz.f143 (Af Tryz.f143):=⟨Tryz.func143,rfl,by kernel_rfl⟩
theorem F144:Fun Tryz.prog 144 Tryz.f144 (Af Tryz.f144):=⟨Tryz.func144,rfl,by kernel_rfl⟩
theorem F145:Fun Tryz.prog 145 Tryz.f145 (Af Tryz.f145):=⟨Tryz.func145,rfl,by kernel_rfl⟩
theorem F146:Fun Tryz.prog 146 Tryz.f146 (Af Tryz.f146):=⟨Tryz.func146,rfl,by kernel_rfl⟩
theorem F147:Fun Tryz.prog 147 Tryz.f147 (Af Tryz.f147):=⟨Tryz.func147,rfl,by kernel_rfl⟩
theorem F148:Fun Tryz.prog 148 Tryz.f148 (Af Tryz.f148):=⟨Tryz.func148,rfl,by kernel_rfl⟩
theorem F149:Fun Tryz.prog 149 Tryz.f149 (Af Tryz.f149):=⟨Tryz.func149,rfl,by kernel_rfl⟩
theorem F150:Fun Tryz.prog 150 Tryz.f150 (Af Tryz.f150):=⟨Tryz.func150,rfl,by kernel_rfl⟩
theorem F151:Fun Tryz.prog 151 Tryz.f151 (Af Tryz.f151):=⟨Tryz.func151,rfl,by kernel_rfl⟩
theorem F152:Fun Tryz.prog 152 Tryz.f152 (Af Tryz.f152):=⟨Tryz.func152,rfl,by kernel_rfl⟩
theorem F154:Fun Tryz.prog 154 Tryz.f154 (Af Tryz.f154):=⟨Tryz.func154,rfl,by kernel_rfl⟩
theorem F155:Fun Tryz.prog 155 Tryz.f155 (Af Tryz.f155):=⟨Tryz.func155,rfl,by kernel_rfl⟩
theorem F156:Fun Tryz.prog 156 Tryz.f156 (Af Tryz.f156):=⟨Tryz.func156,rfl,by kernel_rfl⟩
theorem F157:Fun Tryz.prog 157 Tryz.f157 (Af Tryz.f157):=⟨Tryz.func157,rfl,by kernel_rfl⟩
theorem F158:Fun Tryz.prog 158 Tryz.f158 (Af Tryz.f158):=⟨Tryz.func158,rfl,by kernel_rfl⟩
theorem F159:Fun Tryz.prog 159 Tryz.f159 (Af Tryz.f159):=⟨Tryz.func159,rfl,by kernel_rfl⟩
theorem F160:Fun Tryz.prog 160 Tryz.f160 (Af Tryz.f160):=⟨Tryz.func160,rfl,by kernel_rfl⟩
theorem F161:Fun Tryz.prog 161 Tryz.f161 (Af Tryz.f161):=⟨Tryz.func161,rfl,by kernel_rfl⟩
theorem F162:Fun Tryz.prog 162 Tryz.f162 (Af Tryz.f162):=⟨Tryz.func162,rfl,by kernel_rfl⟩
theorem F163:Fun Tryz.prog 163 Tryz.f163 (Af Tryz.f163):=⟨Tryz.func163,rfl,by kernel_rfl⟩
theorem F164:Fun Tryz.prog 164 Tryz.f164 (Af Tryz.f164):=⟨Tryz.func164,rfl,by kernel_rfl⟩
theorem F165:Fun Tryz.prog 165 Tryz.f165 (Af Tryz.f165):=⟨Tryz.func165,rfl,by kernel_rfl⟩
theorem F166:Fun Tryz.prog 166 Tryz.f166 (Af Tryz.f166):=⟨Tryz.func166,rfl,by kernel_rfl⟩
theorem F167:Fun Tryz.prog 167 Tryz.f167 (Af Tryz.f167):=⟨Tryz.func167,rfl,by kernel_rfl⟩
theorem F168:Fun Tryz.prog 168 Tryz.f168 (Af Tryz.f168):=⟨Tryz.func168,rfl,by kernel_rfl⟩
theorem F169:Fun Tryz.prog 169 Tryz.f169 (Af Tryz.f169):=⟨Tryz.func169,rfl,by kernel_rfl⟩
theorem F170:Fun Tryz.prog 170 Tryz.f170 (Af Tryz.f170):=⟨Tryz.func170,rfl,by kernel_rfl⟩
theorem F171:Fun Tryz.prog 171 Tryz.f171 (Af Tryz.f171):=⟨Tryz.func171,rfl,by kernel_rfl⟩
theorem F172:Fun Tryz.prog 172 Tryz.f172 (Af Tryz.f172):=⟨Tryz.func172,rfl,by kernel_rfl⟩
theorem F173:Fun Tryz.prog 173 Tryz.f173 (Af Tryz.f173):=⟨Tryz.func173,rfl,by kernel_rfl⟩
theorem F174:Fun Tryz.prog 174 Tryz.f174 (Af Tryz.f174):=⟨Tryz.func174,rfl,by kernel_rfl⟩
theorem F175:Fun Tryz.prog 175 Tryz.f175 (Af Tryz.f175):=⟨Tryz.func175,rfl,by kernel_rfl⟩
theorem F176:Fun Tryz.prog 176 Tryz.f176 (Af Tryz.f176):=⟨Tryz.func176,rfl,by kernel_rfl⟩
theorem F177:Fun Tryz.prog 177 Tryz.f177 (Af Tryz.f177):=⟨Tryz.func177,rfl,by kernel_rfl⟩
theorem F178:Fun Tryz.prog 178 Tryz.f178 (Af Tryz.f178):=⟨Tryz.func178,rfl,by kernel_rfl⟩
theorem F179:Fun Tryz.prog 179 Tryz.f179 (Af Tryz.f179):=⟨Tryz.func179,rfl,by kernel_rfl⟩
theorem F180:Fun Tryz.prog 180 Tryz.f180 (Af Tryz.f180):=⟨Tryz.func180,rfl,by kernel_rfl⟩
theorem F181:Fun Tryz.prog 181 Tryz.f181 (Af Tryz.f181):=⟨Tryz.func181,rfl,by kernel_rfl⟩
theorem F182:Fun Tryz.prog 182 Tryz.f182 (Af Tryz.f182):=⟨Tryz.func182,rfl,by kernel_rfl⟩
theorem F183:Fun Tryz.prog 183 Tryz.f183 (Af Tryz.f183):=⟨Tryz.func183,rfl,by kernel_rfl⟩
theorem F184:Fun Tryz.prog 184 Tryz.f184 (Af Tryz.f184):=⟨Tryz.func184,rfl,by kernel_rfl⟩
theorem F185:Fun Tryz.prog 185 Tryz.f185 (Af Tryz.f185):=⟨Tryz.func185,rfl,by kernel_rfl⟩
theorem F186:Fun Tryz.prog 186 Tryz.f186 (Af Tryz.f186):=⟨Tryz.func186,rfl,by kernel_rfl⟩
theorem F187:Fun Tryz.prog 187 Tryz.f187 (Af Tryz.f187):=⟨Tryz.func187,rfl,by kernel_rfl⟩
theorem F190:Fun Tryz.prog 190 Tryz.f190 (Af Tryz.f190):=⟨Tryz.func190,rfl,by kernel_rfl⟩
theorem F191:Fun Tryz.prog 191 Tryz.f191 (Af Tryz.f191):=⟨Tryz.func191,rfl,by kernel_rfl⟩
theorem F192:Fun Tryz.prog 192 Tryz.f192 (Af Tryz.f192):=⟨Tryz.func192,rfl,by kernel_rfl⟩
theorem F193:Fun Tryz.prog 193 Tryz.f193 (Af Tryz.f193):=⟨Tryz.func193,rfl,by kernel_rfl⟩
theorem F194:Fun Tryz.prog 194 Tryz.f194 (Af Tryz.f194):=⟨Tryz.func194,rfl,by kernel_rfl⟩
theorem F195:Fun Tryz.prog 195 Tryz.f195 (Af Tryz.f195):=⟨Tryz.func195,rfl,by kernel_rfl⟩
theorem F196:Fun Tryz.prog 196 Tryz.f196 (Af Tryz.f196):=⟨Tryz.func196,rfl,by kernel_rfl⟩
theorem F197:Fun Tryz.prog 197 Tryz.f197 (Af Tryz.f197):=⟨Tryz.func197,rfl,by kernel_rfl⟩
theorem F198:Fun Tryz.prog 198 Tryz.f198 (Af Tryz.f198):=⟨Tryz.func198,rfl,by kernel_rfl⟩
theorem F199:Fun Tryz.prog 199 Tryz.f199 (Af Tryz.f199):=⟨Tryz.func199,rfl,by kernel_rfl⟩
theorem F200:Fun Tryz.prog 200 Tryz.f200 (Af Tryz.f200):=⟨Tryz.func200,rfl,by kernel_rfl⟩
theorem F201:Fun Tryz.prog 201 Tryz.f201 (Af Tryz.f201):=⟨Tryz.func201,rfl,by kernel_rfl⟩
theorem F202:Fun Tryz.prog 202 Tryz.f202 (Af Tryz.f202):=⟨Tryz.func202,rfl,by kernel_rfl⟩
theorem F203:Fun Tryz.prog 203 Tryz.f203 (Af Tryz.f203):=⟨Tryz.func203,rfl,by kernel_rfl⟩
theorem F204:Fun Tryz.prog 204 Tryz.f204 (Af Tryz.f204):=⟨Tryz.func204,rfl,by kernel_rfl⟩
theorem F205:Fun Tryz.prog 205 Tryz.f205 (Af Tryz.f205):=⟨Tryz.func205,rfl,by kernel_rfl⟩
theorem F206:Fun Tryz.prog 206 Tryz.f206 (Af Tryz.f206):=⟨Tryz.func206,rfl,by kernel_rfl⟩
theorem F207:Fun Tryz.prog 207 Tryz.f207 (Af Tryz.f207):=⟨Tryz.func207,rfl,by kernel_rfl⟩
theorem F208:Fun Tryz.prog 208 Tryz.f208 (Af Tryz.f208):=⟨Tryz.func208,rfl,by kernel_rfl⟩
theorem F209:Fun Tryz.prog 209 Tryz.f209 (Af Tryz.f209):=⟨Tryz.func209,rfl,by kernel_rfl⟩
theorem F210:Fun Tryz.prog 210 Tryz.f210 (Af Tryz.f210):=⟨Tryz.func210,rfl,by kernel_rfl⟩
theorem F211:Fun Tryz.prog 211 Tryz.f211 (Af Tryz.f211):=⟨Tryz.func211,rfl,by kernel_rfl⟩
theorem F212:Fun Tryz.prog 212 Tryz.f212 (Af Tryz.f212):=⟨Tryz.func212,rfl,by kernel_rfl⟩
theorem F213:Fun Tryz.prog 213 Tryz.f213 (Af Tryz.f213):=⟨Tryz.func213,rfl,by kernel_rfl⟩
theorem F214:Fun Tryz.prog 214 Tryz.f214 (Af Tryz.f214):=⟨Tryz.func214,rfl,by kernel_rfl⟩
theorem F215:Fun Tryz.prog 215 Tryz.f215 (Af Tryz.f215):=⟨Tryz.func215,rfl,by kernel_rfl⟩
theorem F216:Fun Tryz.prog 216 Tryz.f216 (Af Tryz.f216):=⟨Tryz.func216,rfl,by kernel_rfl⟩
theorem F217:Fun Tryz.prog 217 Tryz.f217 (Af Tryz.f217):=⟨Tryz.func217,rfl,by kernel_rfl⟩
theorem F218:Fun Tryz.prog 218 Tryz.f218 (Af Tryz.f218):=⟨Tryz.func218,rfl,by kernel_rfl⟩
theorem F219:Fun Tryz.prog 219 Tryz.f219 (Af Tryz.f219):=⟨Tryz.func219,rfl,by kernel_rfl⟩
theorem F220:Fun Tryz.prog 220 Tryz.f220 (Af Tryz.f220):=⟨Tryz.func220,rfl,by kernel_rfl⟩
theorem F221:Fun Tryz.prog 221 Tryz.f221 (Af Tryz.f221):=⟨Tryz.func221,rfl,by kernel_rfl⟩
theorem F222:Fun Tryz.prog 222 Tryz.f222 (Af Tryz.f222):=⟨Tryz.func222,rfl,by kernel_rfl⟩
theorem F223:Fun Tryz.prog 223 Tryz.f223 (Af Tryz.f223):=⟨Tryz.func223,rfl,by kernel_rfl⟩
theorem F224:Fun Tryz.prog 224 Tryz.f224 (Af Tryz.f224):=⟨Tryz.func224,rfl,by kernel_rfl⟩
theorem F225:Fun Tryz.prog 225 Tryz.f225 (Af Tryz.f225):=⟨Tryz.func225,rfl,by kernel_rfl⟩
theorem F226:Fun Tryz.prog 226 Tryz.f226 (Af Tryz.f226):=⟨Tryz.func226,rfl,by kernel_rfl⟩
theorem F227:Fun Tryz.prog 227 Tryz.f227 (Af Tryz.f227):=⟨Tryz.func227,rfl,by kernel_rfl⟩
theorem F228:Fun Tryz.prog 228 Tryz.f228 (Af Tryz.f228):=⟨Tryz.func228,rfl,by kernel_rfl⟩
theorem F229:Fun Tryz.prog 229 Tryz.f229 (Af Tryz.f229):=⟨Tryz.func229,rfl,by kernel_rfl⟩
theorem F230:Fun Tryz.prog 230 Tryz.f230 (Af Tryz.f230):=⟨Tryz.func230,rfl,by kernel_rfl⟩
theorem F231:Fun Tryz.prog 231 Tryz.f231 (Af Tryz.f231):=⟨Tryz.func231,rfl,by kernel_rfl⟩
theorem F232:Fun Tryz.prog 232 Tryz.f232 (Af Tryz.f232):=⟨Tryz.func232,rfl,by kernel_rfl⟩
theorem F233:Fun Tryz.prog 233 Tryz.f233 (Af Tryz.f233):=⟨Tryz.func233,rfl,by kernel_rfl⟩
theorem F234:Fun Tryz.prog 234 Tryz.f234 (Af Tryz.f234):=⟨Tryz.func234,rfl,by kernel_rfl⟩
theorem F235:Fun Tryz.prog 235 Tryz.f235 (Af Tryz.f235):=⟨Tryz.func235,rfl,by kernel_rfl⟩
theorem F236:Fun Tryz.prog 236 Tryz.f236 (Af Tryz.f236):=⟨Tryz.func236,rfl,by kernel_rfl⟩
theorem F237:Fun Tryz.prog 237 Tryz.f237 (Af Tryz.f237):=⟨Tryz.func237,rfl,by kernel_rfl⟩
theorem F238:Fun Tryz.prog 238 Tryz.f238 (Af Tryz.f238):=⟨Tryz.func238,rfl,by kernel_rfl⟩
theorem F239:Fun Tryz.prog 239 Tryz.f239 (Af Tryz.f239):=⟨Tryz.func239,rfl,by kernel_rfl⟩
theorem F240:Fun Tryz.prog 240 Tryz.f240 (Af Tryz.f240):=⟨Tryz.func240,rfl,by kernel_rfl⟩
theorem F241:Fun Tryz.prog 241 Tryz.f241 (Af Tryz.f241):=⟨Tryz.func241,rfl,by kernel_rfl⟩
theorem F242:Fun Tryz.prog 242 Tryz.f242 (Af Tryz.f242):=⟨Tryz.func242,rfl,by kernel_rfl⟩
theorem F243:Fun Tryz.prog 243 Tryz.f243 (Af Tryz.f243):=⟨Tryz.func243,rfl,by kernel_rfl⟩
theorem F244:Fun Tryz.prog 244 Tryz.f244 (Af Tryz.f244):=⟨Tryz.func244,rfl,by kernel_rfl⟩
theorem F245:Fun Tryz.prog 245 Tryz.f245 (Af Tryz.f245):=⟨Tryz.func245,rfl,by kernel_rfl⟩
theorem F246:Fun Tryz.prog 246 Tryz.f246 (Af Tryz.f246):=⟨Tryz.func246,rfl,by kernel_rfl⟩
theorem F247:Fun Tryz.prog 247 Tryz.f247 (Af Tryz.f247):=⟨Tryz.func247,rfl,by kernel_rfl⟩
theorem F248:Fun Tryz.prog 248 Tryz.f248 (Af Tryz.f248):=⟨Tryz.func248,rfl,by kernel_rfl⟩
theorem F249:Fun Tryz.prog 249 Tryz.f249 (Af Tryz.f249):=⟨Tryz.func249,rfl,by kernel_rfl⟩
theorem F250:Fun Tryz.prog 250 Tryz.f250 (Af Tryz.f250):=⟨Tryz.func250,rfl,by kernel_rfl⟩
theorem F251:Fun Tryz.prog 251 Tryz.f251 (Af Tryz.f251):=⟨Tryz.func251,rfl,by kernel_rfl⟩
theorem F252:Fun Tryz.prog 252 Tryz.f252 (Af Tryz.f252):=⟨Tryz.func252,rfl,by kernel_rfl⟩
theorem F253:Fun Tryz.prog 253 Tryz.f253 (Af Tryz.f253):=⟨Tryz.func253,rfl,by kernel_rfl⟩
theorem F254:Fun Tryz.prog 254 Tryz.f254 (Af Tryz.f254):=⟨Tryz.func254,rfl,by kernel_rfl⟩
theorem F255:Fun Tryz.prog 255 Tryz.f255 (Af Tryz.f255):=⟨Tryz.func255,rfl,by kernel_rfl⟩
theorem F256:Fun Tryz.prog 256 Tryz.f256 (Af Tryz.f256):=⟨Tryz.func256,rfl,by kernel_rfl⟩
theorem F258:Fun Tryz.prog 258 Tryz.f258 (Af Tryz.f258):=⟨Tryz.func258,rfl,by kernel_rfl⟩
theorem F259:Fun Tryz.prog 259 Tryz.f259 (Af Tryz.f259):=⟨Tryz.func259,rfl,by kernel_rfl⟩
theorem F260:Fun Tryz.prog 260 Tryz.f260 (Af Tryz.f260):=⟨Tryz.func260,rfl,by kernel_rfl⟩
theorem F261:Fun Tryz.prog 261 Tryz.f261 (Af Tryz.f261):=⟨Tryz.func261,rfl,by kernel_rfl⟩
theorem F262:Fun Tryz.prog 262 Tryz.f262 (Af Tryz.f262):=⟨Tryz.func262,rfl,by kernel_rfl⟩
theorem F263:Fun Tryz.prog 263 Tryz.f263 (Af Tryz.f263):=⟨Tryz.func263,rfl,by kernel_rfl⟩
theorem F264:Fun Tryz.prog 264 Tryz.f264 (Af Tryz.f264):=⟨Tryz.func264,rfl,by kernel_rfl⟩
theorem F265:Fun Tryz.prog 265 Tryz.f265 (Af Tryz.f265):=⟨Tryz.func265,rfl,by kernel_rfl⟩
theorem F266:Fun Tryz.prog 266 Tryz.f266 (Af Tryz.f266):=⟨Tryz.func266,rfl,by kernel_rfl⟩
theorem F267:Fun Tryz.prog 267 Tryz.f267 (Af Tryz.f267):=⟨Tryz.func267,rfl,by kernel_rfl⟩
theorem F268:Fun Tryz.prog 268 Tryz.f268 (Af Tryz.f268):=⟨Tryz.func268,rfl,by kernel_rfl⟩
theorem F269:Fun Tryz.prog 269 Tryz.f269 (Af Tryz.f269):=⟨Tryz.func269,rfl,by kernel_rfl⟩
theorem F270:Fun Tryz.prog 270 Tryz.f270 (Af Tryz.f270):=⟨Tryz.func270,rfl,by kernel_rfl⟩
theorem F271:Fun Tryz.prog 271 Tryz.f271 (Af Tryz.f271):=⟨Tryz.func271,rfl,by kernel_rfl⟩
theorem F272:Fun Tryz.prog 272 Tryz.f272 (Af Tryz.f272):=⟨Tryz.func272,rfl,by kernel_rfl⟩
theorem F273:Fun Tryz.prog 273 Tryz.f273 (Af Tryz.f273):=⟨Tryz.func273,rfl,by kernel_rfl⟩
theorem F274:Fun Tryz.prog 274 Tryz.f274 (Af Tryz.f274):=⟨Tryz.func274,rfl,by kernel_rfl⟩
theorem F275:Fun Tryz.prog 275 Tryz.f275 (Af Tryz.f275):=⟨Tryz.func275,rfl,by kernel_rfl⟩
theorem F276:Fun Tryz.prog 276 Tryz.f276 (Af Tryz.f276):=⟨Tryz.func276,rfl,by kernel_rfl⟩
theorem F277:Fun Tryz.prog 277 Tryz.f277 (Af Tryz.f277):=⟨Tryz.func277,rfl,by kernel_rfl⟩
theorem F278:Fun Tryz.prog 278 Tryz.f278 (Af Tryz.f278):=⟨Tryz.func278,rfl,by kernel_rfl⟩
theorem F279:Fun Tryz.prog 279 Tryz.f279 (Af Tryz.f279):=⟨Tryz.func279,rfl,by kernel_rfl⟩
theorem F280:Fun Tryz.prog 280 Tryz.f280 (Af Tryz.f280):=⟨Tryz.func280,rfl,by kernel_rfl⟩
theorem F281:Fun Tryz.prog 281 Tryz.f281 (Af Tryz.f281):=⟨Tryz.func281,rfl,by kernel_rfl⟩
theorem F282:Fun Tryz.prog 282 Tryz.f282 (Af Tryz.f282):=⟨Tryz.func282,rfl,by kernel_rfl⟩
theorem F283:Fun Tryz.prog 283 Tryz.f283 (Af Tryz.f283):=⟨Tryz.func283,rfl,by kernel_rfl⟩
theorem F284:Fun Tryz.prog 284 Tryz.f284 (Af Tryz.f284):=⟨Tryz.func284,rfl,by kernel_rfl⟩
theorem F285:Fun Tryz.prog 285 Tryz.f285 (Af Tryz.f285):=⟨Tryz.func285,rfl,by kernel_rfl⟩
theorem F286:Fun Tryz.prog 286 Tryz.f286 (Af Tryz.f286):=⟨Tryz.func286,rfl,by kernel_rfl⟩
theorem F287:Fun Tryz.prog 287 Tryz.f287 (Af Tryz.f287):=⟨Tryz.func287,rfl,by kernel_rfl⟩
theorem F288:Fun Tryz.prog 288 Tryz.f288 (Af Tryz.f288):=⟨Tryz.func288,rfl,by kernel_rfl⟩
theorem F289:Fun Tryz.prog 289 Tryz.f289 (Af Tryz.f289):=⟨Tryz.func289,rfl,by kernel_rfl⟩
theorem F290:Fun Tryz.prog 290 Tryz.f290 (Af Tryz.f290):=⟨Tryz.func290,rfl,by kernel_rfl⟩
theorem F291:Fun Tryz.prog 291 Tryz.f291 (Af Tryz.f291):=⟨Tryz.func291,rfl,by kernel_rfl⟩
theorem F292:Fun Tryz.prog 292 Tryz.f292 (Af Tryz.f292):=⟨Tryz.func292,rfl,by kernel_rfl⟩
theorem F293:Fun Tryz.prog 293 Tryz.f293 (Af Tryz.f293):=⟨Tryz.func293,rfl,by kernel_rfl⟩
theorem F294:Fun Tryz.prog 294 Tryz.f294 (Af Tryz.f294):=⟨Tryz.func294,rfl,by kernel_rfl⟩
theorem F295:Fun Tryz.prog 295 Tryz.f295 (Af Tryz.f295):=⟨Tryz.func295,rfl,by kernel_rfl⟩
theorem F296:Fun Tryz.prog 296 Tryz.f296 (Af Tryz.f296):=⟨Tryz.func296,rfl,by kernel_rfl⟩
theorem F297:Fun Tryz.prog 297 Tryz.f297 (Af Tryz.f297):=⟨Tryz.func297,rfl,by kernel_rfl⟩
theorem F298:Fun Tryz.prog 298 Tryz.f298 (Af Tryz.f298):=⟨Tryz.func298,rfl,by kernel_rfl⟩
theorem F299:Fun Tryz.prog 299 Tryz.f299 (Af Tryz.f299):=⟨Tryz.func299,rfl,by kernel_rfl⟩
theorem F300:Fun Tryz.prog 300 Tryz.f300 (Af Tryz.f300):=⟨Tryz.func300,rfl,by kernel_rfl⟩
theorem F301:Fun Tryz.prog 301 Tryz.f301 (Af Tryz.f301):=⟨Tryz.func301,rfl,by kernel_rfl⟩
theorem F302:Fun Tryz.prog 302 Tryz.f302 (Af Tryz.f302):=⟨Tryz.func302,rfl,by kernel_rfl⟩
theorem F303:Fun Tryz.prog 303 Tryz.f303 (Af Tryz.f303):=⟨Tryz.func303,rfl,by kernel_rfl⟩
theorem F304:Fun Tryz.prog 304 Tryz.f304 (Af Tryz.f304):=⟨Tryz.func304,rfl,by kernel_rfl⟩
theorem F305:Fun Tryz.prog 305 Tryz.f305 (Af Tryz.f305):=⟨Tryz.func305,rfl,by kernel_rfl⟩
theorem F306:Fun Tryz.prog 306 Tryz.f306 (Af Tryz.f306):=⟨Tryz.func306,rfl,by kernel_rfl⟩
theorem F307:Fun Tryz.prog 307 Tryz.f307 (Af Tryz.f307):=⟨Tryz.func307,rfl,by kernel_rfl⟩
theorem F308:Fun Tryz.prog 308 Tryz.f308 (Af Tryz.f308):=⟨Tryz.func308,rfl,by kernel_rfl⟩
theorem F309:Fun Tryz.prog 309 Tryz.f309 (Af Tryz.f309):=⟨Tryz.func309,rfl,by kernel_rfl⟩
theorem F310:Fun Tryz.prog 310 Tryz.f310 (Af Tryz.f310):=⟨Tryz.func310,rfl,by kernel_rfl⟩
theorem F311:Fun Tryz.prog 311 Tryz.f311 (Af Tryz.f311):=⟨Tryz.func311,rfl,by kernel_rfl⟩
theorem F316:Fun Tryz.prog 316 Tryz.f316 (Af Tryz.f316):=⟨Tryz.func316,rfl,by kernel_rfl⟩
theorem F317:Fun Tryz.prog 317 Tryz.f317 (Af Tryz.f317):=⟨Tryz.func317,rfl,by kernel_rfl⟩
theorem F318:Fun Tryz.prog 318 Tryz.f318 (Af Tryz.f318):=⟨Tryz.func318,rfl,by kernel_rfl⟩
theorem F319:Fun Tryz.prog 319 Tryz.f319 (Af Tryz.f319):=⟨Tryz.func319,rfl,by kernel_rfl⟩
theorem F320:Fun Tryz.prog 320 Tryz.f320 (Af Tryz.f320):=⟨Tryz.func320,rfl,by kernel_rfl⟩
theorem F321:Fun Tryz.prog 321 Tryz.f321 (Af Tryz.f321):=⟨Tryz.func321,rfl,by kernel_rfl⟩
theorem F322:Fun Tryz.prog 322 Tryz.f322 (Af Tryz.f322):=⟨Tryz.func322,rfl,by kernel_rfl⟩
theorem F323:Fun Tryz.prog 323 Tryz.f323 (Af Tryz.f323):=⟨Tryz.func323,rfl,by kernel_rfl⟩
theorem F324:Fun Tryz.prog 324 Tryz.f324 (Af Tryz.f324):=⟨Tryz.func324,rfl,by kernel_rfl⟩
theorem F325:Fun Tryz.prog 325 Tryz.f325 (Af Tryz.f325):=⟨Tryz.func325,rfl,by kernel_rfl⟩
theorem F326:Fun Tryz.prog 326 Tryz.f326 (Af Tryz.f326):=⟨Tryz.func326,rfl,by kernel_rfl⟩
theorem F327:Fun Tryz.prog 327 Tryz.f327 (Af Tryz.f327):=⟨Tryz.func327,rfl,by kernel_rfl⟩
theorem F329:Fun Tryz.prog 329 Tryz.f329 (Af Tryz.f329):=⟨Tryz.func329,rfl,by kernel_rfl⟩
theorem F330:Fun Tryz.prog 330 Tryz.f330 (Af Tryz.f330):=⟨Tryz.func330,rfl,by kernel_rfl⟩
theorem F331:Fun Tryz.prog 331 Tryz.f331 (Af Tryz.f331):=⟨Tryz.func331,rfl,by kernel_rfl⟩
theorem F332:Fun Tryz.prog 332 Tryz.f332 (Af Tryz.f332):=⟨Tryz.func332,rfl,by kernel_rfl⟩
theorem F333:Fun Tryz.prog 333 Tryz.f333 (Af Tryz.f333):=⟨Tryz.func333,rfl,by kernel_rfl⟩
theorem F338:Fun Tryz.prog 338 Tryz.f338 (Af Tryz.f338):=⟨Tryz.func338,rfl,by kernel_rfl⟩
theorem F339:Fun Tryz.prog 339 Tryz.f339 (Af Tryz.f339):=⟨Tryz.func339,rfl,by kernel_rfl⟩
theorem F340:Fun Tryz.prog 340 Tryz.f340 (Af Tryz.f340):=⟨Tryz.func340,rfl,by kernel_rfl⟩
theorem F341:Fun Tryz.prog 341 Tryz.f341 (Af Tryz.f341):=⟨Tryz.func341,rfl,by kernel_rfl⟩
theorem F343:Fun Tryz.prog 343 Tryz.f343 (Af Tryz.f343):=⟨Tryz.func343,rfl,by kernel_rfl⟩
theorem F344:Fun Tryz.prog 344 Tryz.f344 (Af Tryz.f344):=⟨Tryz.func344,rfl,by kernel_rfl⟩
theorem F345:Fun Tryz.prog 345 Tryz.f345 (Af Tryz.f345):=⟨Tryz.func345,rfl,by kernel_rfl⟩
theorem F346:Fun Tryz.prog 346 Tryz.f346 (Af Tryz.f346):=⟨Tryz.func346,rfl,by kernel_rfl⟩
theorem F347:Fun Tryz.prog 347 Tryz.f347 (Af Tryz.f347):=⟨Tryz.func347,rfl,by kernel_rfl⟩
theorem F357:Fun Tryz.prog 357 Tryz.f357 (Af Tryz.f357):=⟨Tryz.func357,rfl,by kernel_rfl⟩
theorem F384:Fun Tryz.prog 384 Tryz.f384 (Af Tryz.f384):=⟨Tryz.func384,rfl,by kernel_rfl⟩
theorem F385:Fun Tryz.prog 385 Tryz.f385 (Af Tryz.f385):=⟨Tryz.func385,rfl,by kernel_rfl⟩
theorem F386:Fun Tryz.prog 386 Tryz.f386 (Af Tryz.f386):=⟨Tryz.func386,rfl,by kernel_rfl⟩
theorem F387:Fun Tryz.prog 387 Tryz.f387 (Af Tryz.f387):=⟨Tryz.func387,rfl,by kernel_rfl⟩
theorem rg {F:Fr} {n:Nat} {B:Exit→Act→World→Prop} {bn:List Nat} {hbn:∀ k,F.k0 k≠.new→k∈bn} {k:List KI} {s:SS} (h:L1 ⟨Tryz.prog,Γ.toTy,F,n,B,bn,hbn⟩ Γ 400 k s):G ⟨Tryz.prog,Γ.toTy,F,n,B,bn,hbn⟩ k s:=rG Γ hm h
theorem rd {F:Fr} {n:Nat} {B:Exit→Act→World→Prop} {bn:List Nat} {hbn:∀ k,F.k0 k≠.new→k∈bn} {k:List KI} {s:SS} {all:Array Oper} {done:List Stp} {rest:List Oper} (hs:all.toList=done.map (·.o)++rest) (h:U3 ⟨Tryz.prog,Γ.toTy,F,n,B,bn,hbn⟩ Γ 400 k all done rest s):DR ⟨Tryz.prog,Γ.toTy,F,n,B,bn,hbn⟩ k all done rest s:=rD Γ hm hs h
end Go.Sy.YtmelpejjondedaaGreat
namespace Go.Sy.YtmelpejjondedaaGreat
open Go.Proofs
structure Device where
 (row prio:Int) (name:ByteArray) (mac vtep:Int)
structure Port where
 (row dev native cost link:Int) (name:ByteArray) (tagged:List Int)
structure Link where
 (row a b:Int)
structure Domain where
 (dev vlan vni irb row:Int) (peers:List Int)
structure Static where
 (row domain port mac:Int)
structure Flood where
 (row dev vni:Int) (addrs:List Int)
structure Vrf where
 (row dev:Int) (name:ByteArray) (imports exports:List Int)
structure Irb where
 (row domain vrf addr bits:Int)
structure Net where
 (devices:List Device) (ports:List Port) (links:List Link) (domains:List Domain) (statics:List Static) (floods:List Flood) (vrfs:List Vrf) (irbs:List Irb)
def Bt (d:Device):SV:=.agg [Aa d.row,Aa d.prio,Aau d.name,Az d.mac,B6 d.vtep]
def Bj (p:Port):SV:=.agg [Aa p.row,Aa p.dev,Aa p.native,Aa p.cost,Aa p.link,Aau p.name,.sl 1 Aa p.tagged]
def Cu (l:Link):SV:=.agg [Aa l.row,Aa l.a,Aa l.b]
def A1 (d:Domain):SV:=.agg [Aa d.dev,Aa d.vlan,Aa d.vni,Aa d.irb,Aa d.row,.sl 1 Aa d.peers]
def Br (s:Static):SV:=.agg [Aa s.row,Aa s.domain,Aa s.port,Az s.mac]
def Ca (f:Flood):SV:=.agg [Aa f.row,Aa f.dev,Aa f.vni,.sl 1 B6 f.addrs]
def C6 (v:Vrf):SV:=.agg [Aa v.row,Aa v.dev,Aau v.name,.sl 1 Aa v.imports,.sl 1 Aa v.exports]
def Du (i:Irb):SV:=.agg [Aa i.row,Aa i.domain,Aa i.vrf,B6 i.addr,Aa i.bits]
def Z8 (n:Net):List SV:=[.sl 5 Bt n.devices,.sl 7 Bj n.ports,.sl 3 Cu n.links,.sl 6 A1 n.domains,.sl 4 Br n.statics,.sl 4 Ca n.floods,.sl 5 C6 n.vrfs,.sl 5 Du n.irbs]
def Ap (n:Net):SV:=.agg [.sl 5 Bt n.devices,.sl 7 Bj n.ports,.sl 3 Cu n.links,.sl 6 A1 n.domains,.sl 4 Br n.statics,.sl 4 Ca n.floods,.sl 5 C6 n.vrfs,.sl 5 Du n.irbs]
instance:Inhabited Device:=⟨⟨0,0,.empty,0,0⟩⟩
instance:Inhabited Port:=⟨⟨0,0,0,0,0,.empty,[]⟩⟩
instance:Inhabited Link:=⟨⟨0,0,0⟩⟩
instance:Inhabited Domain:=⟨⟨0,0,0,0,0,[]⟩⟩
instance:Inhabited Static:=⟨⟨0,0,0,0⟩⟩
instance:Inhabited Flood:=⟨⟨0,0,0,[]⟩⟩
instance:Inhabited Vrf:=⟨⟨0,0,.empty,[],[]⟩⟩
instance:Inhabited Irb:=⟨⟨0,0,0,0,0⟩⟩
def Al (i:Int) (n:Nat):Bool:=decide (0≤i) && decide (i<n)
def inB (l:List Int) (x:Int):Bool:=l.any (· == x)
def nth {α:Type} [Inhabited α] (l:List α) (i:Int):α:=(l[i.toNat]?).getD default
theorem Ao {α:Type} [Inhabited α] {l:List α} {i:Int} (h:i.toNat<l.length):nth l i=l[i.toNat]:=by
 simp[nth,h]
def Dh {α:Type} (p:α→Bool) (l:List α):Int:=match l.findIdx? p with | some i=>(i:Int) | none=>-1
theorem C1 {α:Type} {p:α→Bool} {l:List α} {j:Nat} (h:j<l.length) (h1:∀ i (hi:i<l.length),i<j→p l[i]=false) (h2:p l[j]=true):Dh p l=j:=by
 have:l.findIdx? p=some j:=by
  rw[List.findIdx?_eq_some_iff_getElem]
  exact⟨h,h2,fun i hi=>by simp[h1 i qn hi]⟩
 simp[Dh,this]
theorem Dc {α:Type} {p:α→Bool} {l:List α} (h1:∀ i (hi:i<l.length),p l[i]=false):Dh p l=-1:=by
 have:l.findIdx? p=none:=by
  rw[List.findIdx?_eq_none_iff]
  intro x hx
  obtain ⟨i,hi,rfl⟩:=List.mem_iff_getElem.1 hx
  exact h1 i hi
 simp[Dh,this]
theorem I3 {α:Type} (p:α→Bool) (l:List α):Dh p l<l.length:=by
 unfold Dh
 split
 ·rename_i i h
  rw[List.findIdx?_eq_some_iff_getElem]at h
  obtain ⟨h,_⟩:=h
  omega
 ·omega
theorem Y9 {α:Type} (p:α→Bool) (l:List α):decide (0≤Dh p l)=l.any p:=by
 unfold Dh
 split
 ·rename_i i h
  rw[List.findIdx?_eq_some_iff_getElem]at h
  obtain ⟨h,h2,_⟩:=h
  have:l.any p=true:=List.any_eq_true.2 ⟨_,List.getElem_mem h,h2⟩
  rw[this]
  simp
 ·rename_i h
  rw[List.findIdx?_eq_none_iff]at h
  have:l.any p=false:=by
   rw[List.any_eq_false]
   intro x hx
   simp[h x hx]
  rw[this]
  simp
def C8 {α:Type} (p:Nat→α→Bool) (l:List α):Bool:=l.zipIdx.all fun q=>p q.2 q.1
theorem allB_iff {α:Type} {p:Nat→α→Bool} {l:List α}:C8 p l=true↔∀ i (h:i<l.length),p i l[i]=true:=by
 simp only[C8,List.all_eq_true]
 constructor
 ·intro h i hi
  exact h (l[i],i) (by rw[List.mk_mem_zipIdx_iff_getElem?];simp[hi])
 ·rintro h ⟨x,i⟩ hx
  rw[List.mk_mem_zipIdx_iff_getElem?]at hx
  obtain ⟨hi,rfl⟩:=List.getElem?_eq_some_iff.1 hx
  exact h i hi
theorem Am8 {α:Type} {p:Nat→α→Bool} {l:List α} (h:∀ i (h:i<l.length),p i l[i]=true):C8 p l=true:=allB_iff.2 h
theorem Be {α:Type} {p:Nat→α→Bool} {l:List α} {i:Nat} (h:i<l.length) (h1:p i l[i]=false):C8 p l=false:=by
 cases hh:C8 p l with
 | false=>rfl
 | true=>have:=allB_iff.1 hh i h;rw[h1]at this;cases this
def Dd {α:Type} (p:Nat→α→Bool) (l:List α) (j:Nat):Prop:=∀ i (h:i<l.length),i<j→p i l[i]=true
theorem A5 {α:Type} (p:Nat→α→Bool) (l:List α):Dd p l 0:=fun i h hj=>absurd hj qn
theorem A3 {α:Type} {p:Nat→α→Bool} {l:List α} {j:Nat} (hI:Dd p l j) (hj:j<l.length) (h:p j l[j]=true):Dd p l (j+1):=by
 intro i hi hij
 rcases Nat.lt_or_ge i j with h1 | h1
 ·exact hI i hi h1
 ·have:i=j:=by omega
  subst this
  exact h
theorem Cc {α:Type} {p:Nat→α→Bool} {l:List α} {j:Nat} (hI:Dd p l j) (hj:l.length≤j):C8 p l=true:=Am8 fun i hi=>hI i hi qn
def Ar {α:Type} (l:List α):Prop:=l.length<2147483648
end Go.Sy.YtmelpejjondedaaGreat
namespace Go.Sy.YtmelpejjondedaaGreat
open Go.Proofs
attribute [local irreducible] Go.Sy.G Go.Sy.DR
set_option maxRecDepth 100000
set_option maxHeartbeats 4000000
theorem An3 (i:Int) (h0:0≤i) (h5:i≤5):Sy.Spec Tryz.prog 132 [Aa i] [] (Az (8 * (5-i))) []:=Ab Γ hm 100 F132 Tryz.ntmps132 rfl fun F hF=>by
 conv=>whnf
 refine⟨by unfold I64;omega,?_⟩
 conv=>whnf
 refine⟨by unfold I64;omega,?_⟩
 conv=>whnf
 refine Ac E (.cons .tmp .nil) (congrArg (fun z=>SV.val (.int .u64 z)) ?_) E
 rw[IntKind.wrap_u64]
 omega
def be:Nat→Nat→List UInt8
 | 0,_=>[]
 | k+1,m=>UInt8.ofNat (m / 256 ^ k)::be k m
theorem A4 (m:Nat):∀ k,(be k m).length=k
 | 0=>rfl
 | k+1=>by simp[be,A4 m k]
theorem Xo (m:Nat):∀ (k j:Nat) (h:j<k),(be k m).take (j+1)=(be k m).take j++[UInt8.ofNat (m / 256 ^ (k-1-j))]
 | 0,j,h=>by omega
 | k+1,0,h=>by simp[be]
 | k+1,j+1,h=>by
  have:=Xo m k j qn
  simp only[be,List.take_succ_cons,List.cons_append,this]
  rw[show k+1-1-(j+1)=k-1-j by omega]
theorem Aei (m k:Nat) (hk:k≤7):IntKind.u8.wrap ((m:Int).fdiv (2 ^ (min (8 * (k:Int)).toNat IntKind.u64.bits)))=((UInt8.ofNat (m / 256 ^ k)).toNat:Int):=by
 have h1:min (8 * (k:Int)).toNat IntKind.u64.bits=8 * k:=by simp[IntKind.bits];omega
 rw[h1,Int.fdiv_eq_ediv_of_nonneg _ (by exact Int.pow_nonneg qz),IntKind.wrap_u8]
 have h2:(2:Int) ^ (8 * k)=((256 ^ k:Nat):Int):=by rw[Int.pow_mul];simp
 rw[h2]
 simp
theorem put2 (l:List UInt8) (hl:l.length<1000000) (m:Nat):Sy.Spec Tryz.prog 72 [.osl 0,Az m] [(0,.row 1 Aj l)] (.osl 1) [(0,.non),(1,.row 1 Aj (l++be 6 m))]:=Ab Γ hm 100 F72 Tryz.ntmps72 rfl fun F hF=>by
 conv=>whnf
 refine Ajt 0 1 [0] E E qz (by simp;rfl) ?_
 refine At 6 (fun j=>[(0,.osl 1),(1,Az m),(6,Aa j)]) (fun j=>[(0,.non),(1,.row 1 Aj (l++(be 6 m).take j))]) [(0,0),(1,1)] ⟨⟨E,E,E,E,E,E,Y⟩,⟨.inl E,E,.inl (congrArg (Ob.row 1 Aj) (List.append_nil l)),E,Y⟩,E,E⟩ ?_
 intro j hj
 refine rg ?_;conv=>whnf
 refine⟨fun h=>?_,fun h=>?_⟩
 ·have hlt:j<6:=by have:=of_decide_eq_true h;omega
  refine rg ?_;conv=>whnf
  refine Ah (An3 j qn qn) F132 E E E E E ?_
  refine rg ?_;conv=>whnf
  refine⟨by omega,?_⟩
  conv=>whnf
  refine Ai (Ae Γ.toTy 16 E E E E E (.row E) (.lit (l:=[UInt8.ofNat (m / 256 ^ (5-j))]) E ?_) za ?_ ?_) E E ?_
  ·have:=Aei m (5-j) qn
   rw[show ((5-j:Nat):Int)=5-(j:Int) by omega]at this
   simp only[List.map_cons,List.map_nil,Aj,← this]
  ·simp[A4];omega
  ·simp[A4];omega
  refine rg ?_;conv=>whnf
  refine⟨by unfold I64;omega,?_⟩
  conv=>whnf
  exact Aq [(0,0),(1,16)] hlt ⟨⟨E,E,E,E,E,E,Y⟩,⟨.inl E,E,.inl (congrArg (Ob.row 1 Aj) (by rw[Xo _ _ _ hlt,List.append_assoc])),E,Y⟩,E,E⟩
 ·have:j=6:=by have:=of_decide_eq_false h;omega
  subst this
  refine rg ?_;conv=>whnf
  exact done E (.cons .tmp .nil) [(0,0),(1,1)] _ (fun _ h=>h) E E ⟨Y,⟨.inl E,E,.inl E,E,Y⟩,E,E⟩
theorem put2n (m:Nat):Sy.Spec Tryz.prog 72 [.val (.slice none 0 0),Az m] [] (.osl 0) [(0,.row 1 Aj (be 6 m))]:=Ab Γ hm 100 F72 Tryz.ntmps72 rfl fun F hF=>by
 conv=>whnf
 refine Bm 0 1000 1 Aj E E ?_
 refine At 6 (fun j=>[(0,.osl 1000),(1,Az m),(6,Aa j)]) (fun j=>[(1000,.row 1 Aj ((be 6 m).take j))]) [] ⟨⟨E,E,E,E,E,E,Y⟩,⟨.inl E,E,Y⟩,E,E⟩ ?_
 intro j hj
 refine rg ?_;conv=>whnf
 refine⟨fun h=>?_,fun h=>?_⟩
 ·have hlt:j<6:=by have:=of_decide_eq_true h;omega
  refine rg ?_;conv=>whnf
  refine Ah (An3 j qn qn) F132 E E E E E ?_
  refine rg ?_;conv=>whnf
  refine⟨by omega,?_⟩
  conv=>whnf
  refine Ai (Ae Γ.toTy 16 E E E E E (.row E) (.lit (l:=[UInt8.ofNat (m / 256 ^ (5-j))]) E ?_) za ?_ ?_) E E ?_
  ·have:=Aei m (5-j) qn
   rw[show ((5-j:Nat):Int)=5-(j:Int) by omega]at this
   simp only[List.map_cons,List.map_nil,Aj,← this]
  ·simp[A4];omega
  ·simp[A4];omega
  refine rg ?_;conv=>whnf
  refine⟨by unfold I64;omega,?_⟩
  conv=>whnf
  exact Aq [(1000,16)] hlt ⟨⟨E,E,E,E,E,E,Y⟩,⟨.inl (congrArg (Ob.row 1 Aj) (Xo _ _ _ hlt)),E,Y⟩,E,E⟩
 ·have:j=6:=by have:=of_decide_eq_false h;omega
  subst this
  refine rg ?_;conv=>whnf
  exact done E (.cons .tmp .nil) [(0,1000)] _ (fun _ h=>h) E E ⟨Y,⟨.inl E,E,Y⟩,E,E⟩
theorem Akm (m k:Nat):m / 256 ^ k / 256=m / 256 ^ (k+1):=by rw[Nat.div_div_eq_div_mul,Nat.pow_succ]
theorem Ajh (m:Nat) (hm64:m<18446744073709551616):Sy.Spec Tryz.prog 141 [Az m] [] (.osl 0) [(0,.row 1 Aj (be 6 m))]:=Ab Γ hm 100 F141 Tryz.ntmps141 rfl fun F hF=>by
 conv=>whnf
 refine Bm 3 1000 1 Aj E E ?_
 refine At 6 (fun j=>[(0,Az m),(3,.osl 1000),(4,Aa (5-(j:Int)))]) (fun j=>[(1000,.row 1 Aj ((be 6 m).take j))]) [] ⟨⟨E,E,E,E,E,E,Y⟩,⟨.inl E,E,Y⟩,E,E⟩ ?_
 intro j hj
 refine rg ?_;conv=>whnf
 refine⟨fun h=>?_,fun h=>?_⟩
 ·have hlt:j<6:=by have:=of_decide_eq_true h;omega
  refine rg ?_;conv=>whnf
  refine At (5-j) (fun k=>[(0,Az m),(3,.osl 1000),(4,Aa (5-(j:Int))),(5,Az (m / 256 ^ k:Nat)),(6,Aa k)]) (fun _=>[(1000,.row 1 Aj ((be 6 m).take j))]) [] ⟨⟨E,E,E,E,E,E,by simp;rfl,E,E,E,Y⟩,⟨.inl E,E,Y⟩,E,E⟩ ?_
  intro k hk
  refine rg ?_;conv=>whnf
  refine⟨fun h2=>?_,fun h2=>?_⟩
  ·have hlt2:k<5-j:=by have:=of_decide_eq_true h2;omega
   refine rg ?_;conv=>whnf
   refine⟨by decide,?_⟩
   conv=>whnf
   refine⟨by unfold I64;omega,?_⟩
   conv=>whnf
   refine Aq [] qn ⟨⟨E,E,E,E,E,E,congrArg (fun z=>SV.val (.int .u64 z)) ?_,E,E,E,Y⟩,⟨.inl E,E,Y⟩,E,E⟩
   have h5:m / 256 ^ k≤m:=Nat.div_le_self _ _
   rw[Int.tdiv_eq_ediv_of_nonneg (Int.natCast_nonneg _),IntKind.wrap_u64,← Akm]
   generalize m / 256 ^ k=q at *
   omega
  ·have:k=5-j:=by have:=of_decide_eq_false h2;omega
   subst this
   refine rg ?_;conv=>whnf
   refine⟨by decide,?_⟩
   conv=>whnf
   refine Ai (Ae Γ.toTy 24 E E E E E (.row E) (.lit (l:=[UInt8.ofNat (m / 256 ^ (5-j))]) E ?_) za ?_ ?_) E E ?_
   ·simp only[List.map_cons,List.map_nil,Aj]
    congr 3
    rw[Int.tmod_eq_emod_of_nonneg (Int.natCast_nonneg _),IntKind.wrap_u8]
    simp
   ·simp[A4];omega
   ·simp[A4];omega
   refine rg ?_;conv=>whnf
   refine⟨by unfold I64;omega,?_⟩
   conv=>whnf
   exact Aq [(1000,24)] hlt ⟨⟨E,E,E,E,congrArg (fun z=>SV.val (.int .i64 z)) qn,E,Y⟩,⟨.inl (congrArg (Ob.row 1 Aj) (Xo _ _ _ hlt)),E,Y⟩,E,E⟩
 ·have:j=6:=by have:=of_decide_eq_false h;omega
  subst this
  refine rg ?_;conv=>whnf
  exact done E (.cons .tmp .nil) [(0,1000)] _ (fun _ h=>h) E E ⟨Y,⟨.inl E,E,Y⟩,E,E⟩
def Af5 (d s:Nat) (t:Int) (body:List UInt8):SV:=.agg [Az d,Az s,Aa t,.sl 1 Aj body]
def frame (d s t:Nat) (body:List UInt8):List UInt8:=be 6 d++be 6 s++[UInt8.ofNat (t / 256),UInt8.ofNat t]++body
theorem Ez (t:Nat):[UInt8.ofNat (t / 256),UInt8.ofNat t].map Aj=[SV.val (.int .u8 (IntKind.u8.wrap ((t:Int).fdiv (2 ^ (min (Int.toNat 8) IntKind.i64.bits))))),SV.val (.int .u8 (IntKind.u8.wrap (t:Int)))]:=by
 have h1:IntKind.u8.wrap ((t:Int).fdiv (2 ^ (min (Int.toNat 8) IntKind.i64.bits)))=((UInt8.ofNat (t / 256)).toNat:Int):=by
  show IntKind.u8.wrap ((t:Int).fdiv 256)=_
  rw[Int.fdiv_eq_ediv_of_nonneg _ qz,IntKind.wrap_u8]
  simp
 have h2:IntKind.u8.wrap (t:Int)=((UInt8.ofNat t).toNat:Int):=by
  rw[IntKind.wrap_u8]
  simp
 rw[h1,h2]
 rfl
theorem Ip (t:Nat) (ht:t≤65535):[UInt8.ofNat (t / 256),UInt8.ofNat t].map Aj=[SV.val (.int .u8 (IntKind.u8.wrap (IntKind.i64.wrap ((t:Int).tdiv 256)))),SV.val (.int .u8 (IntKind.u8.wrap ((t:Int).tmod 256)))]:=by
 have h1:IntKind.u8.wrap (IntKind.i64.wrap ((t:Int).tdiv 256))=((UInt8.ofNat (t / 256)).toNat:Int):=by
  rw[Int.tdiv_eq_ediv_of_nonneg qn,IntKind.wrap_u8,IntKind.wrap_i64]
  simp
  omega
 have h2:IntKind.u8.wrap ((t:Int).tmod 256)=((UInt8.ofNat t).toNat:Int):=by
  rw[Int.tmod_eq_emod_of_nonneg qn,IntKind.wrap_u8]
  simp
 rw[h1,h2]
 rfl
theorem Aga (d s t:Nat) (body:List UInt8) (hd:d<281474976710656) (hs:s<281474976710656) (ht:t≤65535) (hb:body.length≤1504):Sy.Spec Tryz.prog 33 [Af5 d s t body] [] (.tup [.osl 0,Aa 0]) [(0,.row 1 Aj (frame d s t body))]:=Ab Γ hm 100 F33 Tryz.ntmps33 rfl fun F hF=>by
 conv=>whnf
 refine⟨fun h=>absurd (of_decide_eq_true h) qn,fun _=>?_⟩
 refine rg ?_;conv=>whnf
 refine⟨fun h=>absurd (of_decide_eq_true h) qn,fun _=>?_⟩
 (refine rg ?_;(conv=>whnf);refine aF ?_;refine rg ?_;conv=>whnf)
 refine⟨fun h=>absurd (of_decide_eq_true h) qn,fun _=>?_⟩
 refine rg ?_;conv=>whnf
 refine⟨fun h=>absurd (of_decide_eq_true h) qn,fun _=>?_⟩
 refine rg ?_;conv=>whnf
 refine Bn (Ak [(0,31)] E F72 (put2n d) E Y E ⟨.inr E,Y⟩) qy E ?_
 refine rd qy ?_;conv=>whnf
 refine Bn (Ak [(0,31),(1,34)] E F72 (put2 (be 6 d) (by simp[A4]) s) E ⟨E,Y⟩ E ⟨.inl E,.inr E,Y⟩) qy E ?_
 refine rd qy ?_;conv=>whnf
 refine⟨by kernel_rfl,?_⟩
 conv=>whnf
 refine⟨by decide,?_⟩
 conv=>whnf
 refine Bn (Ae Γ.toTy 44 E E E E E (.row E) (.lit (l:=[UInt8.ofNat (t / 256),UInt8.ofNat t]) E (Ez t)) qz ?_ ?_) qy E ?_
 ·simp[A4]
 ·simp[A4]
 refine rd qy ?_;conv=>whnf
 refine Bn (Ae Γ.toTy 47 E E E E E (.row E) .sl qz ?_ ?_) qy E ?_
 ·simp[A4];omega
 ·simp[A4];omega
 refine rd qy ?_;conv=>whnf
 refine⟨by kernel_rfl,?_⟩
 conv=>whnf
 exact done E (.cons .tmp (.cons .tmp .nil)) [(0,47)] _ (fun _ h=>h) E E ⟨Y,⟨.inl E,E,Y⟩,E,E⟩
theorem All (d s t:Nat) (body:List UInt8) (hd:d<281474976710656) (hs:s<281474976710656) (ht:t≤65535) (hb:body.length≤1504):Sy.Spec Tryz.prog 220 [Af5 d s t body] [] (.tup [.osl 0,Aa 0]) [(0,.row 1 Aj (frame d s t body))]:=Ab Γ hm 100 F220 Tryz.ntmps220 rfl fun F hF=>by
 conv=>whnf
 refine⟨fun h=>absurd (of_decide_eq_true h) qn,fun _=>?_⟩
 refine rg ?_;conv=>whnf
 refine⟨fun h=>absurd (of_decide_eq_true h) qn,fun _=>?_⟩
 (refine rg ?_;(conv=>whnf);refine aF ?_;refine rg ?_;conv=>whnf)
 refine⟨fun h=>absurd (of_decide_eq_true h) qn,fun _=>?_⟩
 refine rg ?_;conv=>whnf
 refine⟨fun h=>absurd (of_decide_eq_true h) qn,fun _=>?_⟩
 refine rg ?_;conv=>whnf
 refine Bn (Ak [(0,29)] E F141 (Ajh d qn) E Y E ⟨.inr E,Y⟩) qy E ?_
 refine rd qy ?_;conv=>whnf
 refine Bn (Ak [(0,32)] E F141 (Ajh s qn) E Y E ⟨.inr E,Y⟩) qy E ?_
 refine rd qy ?_;conv=>whnf
 refine Bn (Ae Γ.toTy 33 E E E E E (.row E) (.row E) qz ?_ ?_) qy E ?_
 ·simp[A4]
 ·simp[A4]
 refine rd qy ?_;conv=>whnf
 refine⟨by kernel_rfl,?_⟩
 conv=>whnf
 refine⟨by decide,?_⟩
 conv=>whnf
 refine⟨by decide,?_⟩
 conv=>whnf
 refine Ai (Ae Γ.toTy 44 E E E E E (.row E) (.lit (l:=[UInt8.ofNat (t / 256),UInt8.ofNat t]) E (Ip t ht)) qz ?_ ?_) E E ?_
 ·simp[A4]
 ·simp[A4]
 refine rg ?_;conv=>whnf
 refine Ai (Ae Γ.toTy 48 E E E E E (.row E) .sl qz ?_ ?_) E E ?_
 ·simp[A4];omega
 ·simp[A4];omega
 refine rg ?_;conv=>whnf
 exact done E (.cons .tmp (.cons .tmp .nil)) [(0,48)] _ (fun _ h=>h) E E ⟨Y,⟨.inl E,E,Y⟩,E,E⟩
end Go.Sy.YtmelpejjondedaaGreat
namespace Go.Sy.YtmelpejjondedaaGreat
structure FrameM where
 dst:Nat
 src:Nat
 typ:Nat
 body:List UInt8
def Bh (f:FrameM):SV:=Af5 f.dst f.src f.typ f.body
structure StepM where
 kind:Int
 port:Int
 domain:Int
 at_:Int
 bytes:List UInt8
 up:List Bool
def Bu (x:StepM):SV:=.agg [Aa x.kind,Aa x.port,Aa x.domain,Aa x.at_,.sl 1 Aj x.bytes,.sl 1 Ad x.up]
structure SeenM where
 port:Int
 origin:Int
 bytes:List UInt8
def A9 (x:SeenM):SV:=.agg [Aa x.port,Aa x.origin,.sl 1 Aj x.bytes]
def Es (ip:Int):Nat:=2199023255552+ip.toNat
def Jl (a bits:Int):Int:=if 0≤bits∧bits≤32 then a-a % 2 ^ (32-bits).toNat else 0
def Di (n:Nat):Nat:=if n=0 then 0 else (n-1) % 65535+1
theorem Zg {α:Type} {l:List α} {i:Nat} {d:α} (h:i<l.length):l.getD i d=l[i]:=by simp[List.getD,h]
theorem Af6 {n:Nat} (h:n≤65535):Di n=n:=by
 unfold Di
 split<;>omega
theorem Ai4 {n:Nat} (h:65535<n):Di (n / 65536+n % 65536)=Di n∧n / 65536+n % 65536<n:=by
 unfold Di
 rw[if_neg qn,if_neg qn]
 omega
theorem Amp (a x:Nat) (hx:x≤65535):Di (a+x)=if 65535<Di a+x then Di a+x-65535 else Di a+x:=by
 unfold Di
 split<;>split<;>split<;>omega
theorem Zi (n:Nat):Di n≤65535:=by
 unfold Di
 split<;>omega
def Il (l:List UInt8):Nat→Nat
 | 0=>0
 | j+1=>Il l j+((l.getD (2 * j) 0).toNat * 256+(l.getD (2 * j+1) 0).toNat)
theorem Aju (l:List UInt8):∀ j,Il l j≤65535 * j
 | 0=>Nat.le_refl _
 | j+1=>by
  have ih:=Aju l j
  have h1:=(l.getD (2 * j) 0).toNat_lt
  have h2:=(l.getD (2 * j+1) 0).toNat_lt
  rw[Il]
  omega
def Tw (l:List UInt8):Nat:=65535-Di (Il l (l.length / 2))
theorem Ky (n:Nat):(UInt8.ofNat n).toNat=n % 256:=by simp
end Go.Sy.YtmelpejjondedaaGreat
namespace Go.Sy.YtmelpejjondedaaGreat
open Go.Proofs
attribute [local irreducible] Go.Sy.G Go.Sy.DR
set_option maxRecDepth 100000
set_option maxHeartbeats 4000000
theorem Iy (a b:Nat) (ha:a<9223372036854775808) (hb:b<9223372036854775808):bits .and .i64 (a:Int) (b:Int)=((a &&& b:Nat):Int):=by
 have hx:a &&& b<2 ^ 63:=Nat.lt_of_le_of_lt Nat.and_le_left ha
 have h1:(BitVec.ofInt 64 (a:Int)).toNat=a:=by
  rw[BitVec.ofInt_natCast,BitVec.toNat_ofNat];exact Nat.mod_eq_of_lt qn
 have h2:(BitVec.ofInt 64 (b:Int)).toNat=b:=by
  rw[BitVec.ofInt_natCast,BitVec.toNat_ofNat];exact Nat.mod_eq_of_lt qn
 show IntKind.i64.wrap ((BitVec.ofInt 64 (a:Int) &&& BitVec.ofInt 64 (b:Int)).toNat:Int)=_
 rw[BitVec.toNat_and,h1,h2,IntKind.wrap_i64]
 omega
theorem Do (a b:Nat) (ha:a<9223372036854775808) (hb:b<9223372036854775808):bits .or .i64 (a:Int) (b:Int)=((a ||| b:Nat):Int):=by
 have hx:a ||| b<2 ^ 63:=Nat.or_lt_two_pow qn qn
 have h1:(BitVec.ofInt 64 (a:Int)).toNat=a:=by
  rw[BitVec.ofInt_natCast,BitVec.toNat_ofNat];exact Nat.mod_eq_of_lt qn
 have h2:(BitVec.ofInt 64 (b:Int)).toNat=b:=by
  rw[BitVec.ofInt_natCast,BitVec.toNat_ofNat];exact Nat.mod_eq_of_lt qn
 show IntKind.i64.wrap ((BitVec.ofInt 64 (a:Int) ||| BitVec.ofInt 64 (b:Int)).toNat:Int)=_
 rw[BitVec.toNat_or,h1,h2,IntKind.wrap_i64]
 omega
theorem Ajw (n k:Nat) (hk:k<64):(n:Int).fdiv (2 ^ (min (Int.toNat (k:Int)) IntKind.i64.bits))=((n / 2 ^ k:Nat):Int):=by
 have h1:min (Int.toNat (k:Int)) IntKind.i64.bits=k:=by simp[IntKind.bits];omega
 rw[h1,Int.fdiv_eq_ediv_of_nonneg _ (by exact Int.pow_nonneg qz)]
 simp
theorem Asa (n:Nat) (h:n<9223372036854775808):bits .and .i64 (n:Int) 65535=((n % 65536:Nat):Int):=by
 have:=Iy n 65535 h qz
 rw[show ((65535:Nat):Int)=65535 from rfl]at this
 rw[this]
 have h2:=Nat.and_two_pow_sub_one_eq_mod n 16
 rw[show 2 ^ 16-1=65535 from rfl,show 2 ^ 16=65536 from rfl]at h2
 rw[h2]
theorem Amu (n:Nat) (h:n<9223372036854775808):Sy.Spec Tryz.prog 357 [.ptr 0 0] [(0,.box [Aa n])] (.tup []) [(0,.box [Aa (n / 65536+n % 65536:Nat)])]:=Ab Γ hm 100 F357 Tryz.ntmps357 rfl fun F hF=>by
 have e1:(n:Int).fdiv (2 ^ (min (Int.toNat 16) IntKind.i64.bits))=((n / 65536:Nat):Int):=Ajw n 16 qz
 have e2:=Asa n h
 conv=>whnf
 first | (refine⟨by omega,?_⟩;(conv=>whnf)) | skip
 rw[e1,e2]
 refine⟨by unfold I64;omega,?_⟩
 conv=>whnf
 exact Bw E .nil [] [(0,.box [Aa (n / 65536+n % 65536:Nat)])] (fun _ h=>h) E E ⟨Y,⟨.inl E,E,Y⟩,E,E⟩
theorem Anq (n:Nat) (h:n<9223372036854775808):Sy.Spec Tryz.prog 343 [Aa n] [] (Aa (Di n)) []:=Ab Γ hm 100 F343 Tryz.ntmps343 rfl fun F hF=>by
 conv=>whnf
 refine Qi (α:={m:Nat // Di m=Di n∧m≤n}) (fun m=>[(3,.clo (.func 357) [] [.ptr 1 0]),(1,.ptr 1 0)]) (fun m=>[(1,.box [Aa m.1])]) (fun m=>m.1) ⟨n,E,Nat.le_refl _⟩ []
  ⟨⟨rfl,rfl,rfl,rfl,trivial⟩,⟨.inl rfl,rfl,trivial⟩,rfl,rfl⟩ ?_
 rintro ⟨m,h1,h2⟩
 dsimp only
 refine rg ?_;conv=>whnf
 refine⟨fun h3=>?_,fun h3=>?_⟩
 ·have hmm:65535<m:=by have:=of_decide_eq_true h3;omega
  obtain ⟨g1,g2⟩:=Ai4 hmm
  refine rg ?_;conv=>whnf
  refine Ai (C5 [(0,1)] (Hv E E F357) (Amu m qn) E ⟨E,Y⟩ E ⟨.inl E,Y⟩) E E ?_
  refine rg ?_;conv=>whnf
  exact Sp (α:={m:Nat // Di m=Di n∧m≤n}) (x:=⟨m,h1,h2⟩) ⟨m / 65536+m % 65536,by rw[g1,h1],by omega⟩ [] g2 ⟨⟨E,E,E,E,Y⟩,⟨.inl E,E,Y⟩,E,E⟩
 ·have hmm:m≤65535:=by have:=of_decide_eq_false h3;omega
  have e:Di n=m:=by rw[← h1,Af6 hmm]
  refine rg ?_;conv=>whnf
  refine Ac E (.cons .tmp .nil) ?_ E
  exact congrArg (fun z:Nat=>Aa z) e
theorem E5 (a b:UInt8):bits .or .i64 (IntKind.i64.wrap ((IntKind.i64.wrap (a.toNat:Int)) * 2 ^ min (Int.toNat 8) IntKind.i64.bits)) (IntKind.i64.wrap (b.toNat:Int))=((a.toNat * 256+b.toNat:Nat):Int):=by
 have h1:=a.toNat_lt
 have h2:=b.toNat_lt
 have e1:IntKind.i64.wrap (a.toNat:Int)=(a.toNat:Int):=by rw[IntKind.wrap_i64];omega
 have e2:IntKind.i64.wrap (b.toNat:Int)=(b.toNat:Int):=by rw[IntKind.wrap_i64];omega
 rw[e1,e2]
 have h3:IntKind.i64.wrap ((a.toNat:Int) * 2 ^ min (Int.toNat 8) IntKind.i64.bits)=((a.toNat * 256:Nat):Int):=by
  show IntKind.i64.wrap ((a.toNat:Int) * 256)=_
  rw[IntKind.wrap_i64]
  omega
 rw[h3,Do _ _ qn qn]
 congr 1
 have h:=Nat.two_pow_add_eq_or_of_lt (i:=8) (b:=b.toNat) qn a.toNat
 rw[Nat.mul_comm a.toNat 256]
 exact h.symm
theorem Ajv (l:List UInt8) (hl:l.length<100000) (h2:l.length % 2=0):Sy.Spec Tryz.prog 329 [.sl 1 Aj l] [] (Aa (Di (Il l (l.length / 2)))) []:=Ab Γ hm 100 F329 Tryz.ntmps329 rfl fun F hF=>by
 conv=>whnf
 refine At (l.length / 2) (fun j=>[(0,.sl 1 Aj l),(3,Aa (Il l j)),(4,Aa (2 * (j:Int)))]) (fun _=>[]) [] ⟨⟨E,E,E,E,E,E,Y⟩,Y,E,E⟩ ?_
 intro j hj
 have hw:=Aju l j
 refine rg ?_;conv=>whnf
 refine⟨by unfold I64;omega,?_⟩
 conv=>whnf
 refine⟨fun h=>?_,fun h=>?_⟩
 ·have hlt:2 * j+1<l.length:=by have:=of_decide_eq_true h;omega
  have hs:Il l (j+1)=Il l j+((l[2 * j]'qn).toNat * 256+(l[2 * j+1]'hlt).toNat):=by
   rw[Il,Zg (show 2 * j<l.length by omega),Zg hlt]
  have e1:l[(2 * (j:Int)).toNat]'qn=l[2 * j]'qn:=by congr 1
  have e2:l[(2 * (j:Int)+1).toNat]'qn=l[2 * j+1]'hlt:=by congr 1
  have hp:=E5 (l[2 * j]'qn) (l[2 * j+1]'hlt)
  have hb1:=(l[2 * j]'qn).toNat_lt
  have hb2:=(l[2 * j+1]'hlt).toNat_lt
  rw[← e1,← e2]at hp hs
  rw[← e1]at hb1
  rw[← e2]at hb2
  refine rg ?_;conv=>whnf
  refine⟨E,by omega,by omega,?_⟩
  conv=>whnf
  refine⟨by omega,?_⟩
  conv=>whnf
  refine⟨by unfold I64;omega,?_⟩
  conv=>whnf
  refine⟨E,by omega,by omega,?_⟩
  conv=>whnf
  refine⟨(by rw[hp];unfold I64;omega),?_⟩
  conv=>whnf
  refine⟨qy,?_⟩
  conv=>whnf
  refine⟨by unfold I64;omega,?_⟩
  conv=>whnf
  refine Aq [] qn ⟨⟨E,E,congrArg (fun z=>SV.val (.int .i64 z)) ?_,E,congrArg (fun z=>SV.val (.int .i64 z)) ?_,E,Y⟩,Y,E,E⟩
  ·rw[hp,hs];omega
  ·omega
 have hjl:j=l.length / 2:=by
  have:=of_decide_eq_false h
  omega
 have hpar:¬ bits .and .i64 (l.length:Int) 1=1:=by
  have:=Iy l.length 1 qn qz
  rw[show ((1:Nat):Int)=1 from rfl]at this
  rw[this,Nat.and_one_is_mod,h2]
  decide
 have hd:=Anq (Il l j) qn
 rw[hjl]at hd ⊢
 clear hjl
 refine rg ?_;conv=>whnf
 refine⟨fun h=>absurd (of_decide_eq_true h) hpar,fun _=>?_⟩
 refine rg ?_;conv=>whnf
 refine Ah hd F343 E E E E E ?_
 refine rg ?_;conv=>whnf
 exact Ac E (.cons .tmp .nil) E E
theorem sumOfS (l:List UInt8) (hl:l.length<100000) (h2:l.length % 2=0):Sy.Spec Tryz.prog 305 [.sl 1 Aj l] [] (Aa (Tw l)) []:=Ab Γ hm 100 F305 Tryz.ntmps305 rfl fun F hF=>by
 have ha:=Ajv l hl h2
 have hle:=Zi (Il l (l.length / 2))
 conv=>whnf
 refine Ah ha F329 E E E E E ?_
 refine rg ?_;conv=>whnf
 refine⟨by unfold I64;omega,?_⟩
 conv=>whnf
 refine Ac E (.cons .tmp .nil) ?_ E
 refine congrArg Aa ?_
 rw[Tw]
 omega
theorem Aj0 (l:List UInt8) (hl:l.length<100000) (h2:l.length % 2=0):Sy.Spec Tryz.prog 323 [.sl 1 Aj l] [] (Aa (Di (Il l (l.length / 2)))) []:=Ab Γ hm 100 F323 Tryz.ntmps323 rfl fun F hF=>by
 conv=>whnf
 refine At (l.length / 2) (fun j=>[(0,.sl 1 Aj l),(3,Aa (Di (Il l j))),(4,Aa (2 * (j:Int)))]) (fun _=>[]) [] ⟨⟨E,E,E,E,E,E,Y⟩,Y,E,E⟩ ?_
 intro j hj
 have hw:=Zi (Il l j)
 refine rg ?_;conv=>whnf
 refine⟨fun h=>?_,fun h=>?_⟩
 ·have hlt0:2 * j<l.length:=by have:=of_decide_eq_true h;omega
  have hlt:2 * j+1<l.length:=by omega
  have hb1:=(l[2 * j]'qn).toNat_lt
  have hb2:=(l[2 * j+1]'hlt).toNat_lt
  have hs:Di (Il l (j+1))=if 65535<Di (Il l j)+((l[2 * j]'qn).toNat * 256+(l[2 * j+1]'hlt).toNat) then Di (Il l j)+((l[2 * j]'qn).toNat * 256+(l[2 * j+1]'hlt).toNat)-65535 else Di (Il l j)+((l[2 * j]'qn).toNat * 256+(l[2 * j+1]'hlt).toNat):=by
   rw[Il,Zg (show 2 * j<l.length by omega),Zg hlt,Amp _ _ qn]
  have e1:l[(2 * (j:Int)).toNat]'qn=l[2 * j]'qn:=by congr 1
  have e2:l[(2 * (j:Int)+1).toNat]'qn=l[2 * j+1]'hlt:=by congr 1
  obtain ⟨x,hx⟩:∃ x,l[2 * j]'qn=x:=⟨_,rfl⟩
  obtain ⟨y,hy⟩:∃ y,l[2 * j+1]'hlt=y:=⟨_,rfl⟩
  rw[hx]at e1 hs hb1
  rw[hy]at e2 hs hb2
  have w1:IntKind.i64.wrap (x.toNat:Int)=(x.toNat:Int):=by rw[IntKind.wrap_i64];omega
  have w2:IntKind.i64.wrap (y.toNat:Int)=(y.toNat:Int):=by rw[IntKind.wrap_i64];omega
  refine rg ?_;conv=>whnf
  refine⟨E,by omega,by omega,?_⟩
  rw[e1]
  conv=>whnf
  rw[w1]
  refine⟨by unfold I64;omega,?_⟩
  conv=>whnf
  refine⟨by unfold I64;omega,?_⟩
  conv=>whnf
  refine⟨fun h4=>?_,fun h4=>absurd (of_decide_eq_false h4) qn⟩
  refine rg ?_;conv=>whnf
  refine⟨by unfold I64;omega,?_⟩
  conv=>whnf
  refine⟨E,by omega,by omega,?_⟩
  rw[e2]
  conv=>whnf
  rw[w2]
  refine⟨by unfold I64;omega,?_⟩
  conv=>whnf
  refine⟨by unfold I64;omega,?_⟩
  conv=>whnf
  refine⟨fun h5=>?_,fun h5=>?_⟩
  ·have h5:=of_decide_eq_true h5
   rw[if_pos qn]at hs
   refine rg ?_;conv=>whnf
   refine⟨by unfold I64;omega,?_⟩
   conv=>whnf
   refine⟨by unfold I64;omega,?_⟩
   conv=>whnf
   refine Aq [] qn ⟨⟨E,E,congrArg (fun z=>SV.val (.int .i64 z)) ?_,E,congrArg (fun z=>SV.val (.int .i64 z)) ?_,E,Y⟩,Y,E,E⟩
   ·rw[hs];omega
   ·omega
  ·have h5:=of_decide_eq_false h5
   rw[if_neg qn]at hs
   refine rg ?_;conv=>whnf
   refine⟨by unfold I64;omega,?_⟩
   conv=>whnf
   refine Aq [] qn ⟨⟨E,E,congrArg (fun z=>SV.val (.int .i64 z)) ?_,E,congrArg (fun z=>SV.val (.int .i64 z)) ?_,E,Y⟩,Y,E,E⟩
   ·rw[hs];omega
   ·omega
 ·have hjl:j=l.length / 2:=by
   have:=of_decide_eq_false h
   omega
  subst hjl
  refine rg ?_;conv=>whnf
  exact Ac E (.cons .tmp .nil) E E
theorem Alj (l:List UInt8) (hl:l.length<100000) (h2:l.length % 2=0):Sy.Spec Tryz.prog 275 [.sl 1 Aj l] [] (Aa (Tw l)) []:=Ab Γ hm 100 F275 Tryz.ntmps275 rfl fun F hF=>by
 have ha:=Aj0 l hl h2
 have hle:=Zi (Il l (l.length / 2))
 conv=>whnf
 refine Ah ha F323 E E E E E ?_
 refine rg ?_;conv=>whnf
 refine⟨by unfold I64;omega,?_⟩
 conv=>whnf
 refine Ac E (.cons .tmp .nil) ?_ E
 refine congrArg Aa ?_
 rw[Tw]
 omega
def Ao1 (n:Nat):SV:=Aa n
def Ke (l:List Nat):List UInt8:=l.flatMap fun n=>[UInt8.ofNat (n / 256),UInt8.ofNat n]
theorem Z5 (l:List Nat):(Ke l).length=2 * l.length:=by
 induction l with
 | nil=>rfl
 | cons a l ih=>simp only[Ke,List.flatMap_cons,List.length_append,List.length_cons,List.length_nil]at ih ⊢;omega
theorem Afa (l:List Nat) (n:Nat):Ke (l++[n])=Ke l++[UInt8.ofNat (n / 256),UInt8.ofNat n]:=by simp[Ke]
theorem Acb (a b:Int) (h:0≤a∧a≤b):Sy.Spec Tryz.prog 303 [Aa a,Aa b] [] (Ad true) []:=Ab Γ hm 100 F303 Tryz.ntmps303 rfl fun F hF=>by
 conv=>whnf
 refine⟨fun _=>?_,fun h2=>absurd (of_decide_eq_false h2) qn⟩
 refine rg ?_;conv=>whnf
 refine Ac E (.cons .tmp .nil) ?_ E
 exact congrArg Ad (decide_eq_true h.2).symm
theorem Are (a b:Int) (h:0≤a∧a≤b):Sy.Spec Tryz.prog 273 [Aa a,Aa b] [] (Ad false) []:=Ab Γ hm 100 F273 Tryz.ntmps273 rfl fun F hF=>by
 conv=>whnf
 refine⟨fun h2=>absurd (of_decide_eq_true h2) qn,fun _=>?_⟩
 refine rg ?_;conv=>whnf
 refine Ac E (.cons .tmp .nil) ?_ E
 exact congrArg Ad (decide_eq_false qn).symm
theorem Apf (l:List Nat) (hl:l.length<100000):Sy.Spec Tryz.prog 304 [.val (.slice none 0 0),.sl 1 Ao1 l] [] (.osl 0) [(0,.row 1 Aj (Ke l))]:=Ab Γ hm 100 F304 Tryz.ntmps304 rfl fun F hF=>by
 conv=>whnf
 refine Bm 0 1000 1 Aj E E ?_
 refine At l.length (fun j=>[(0,.osl 1000),(7,.sl 1 Ao1 l),(8,Aa l.length),(9,Aa j)]) (fun j=>[(1000,.row 1 Aj (Ke (l.take j)))]) [] ⟨⟨E,E,E,E,E,E,E,E,Y⟩,⟨.inl E,E,Y⟩,E,E⟩ ?_
 intro j hj
 have hpl:=Z5 (l.take j)
 refine rg ?_;conv=>whnf
 refine⟨fun h=>?_,fun h=>?_⟩
 ·have hlt:j<l.length:=by simpa using h
  have e1:l[(j:Int).toNat]'qn=l[j]:=rfl
  have hsucc:Ke (l.take (j+1))=Ke (l.take j)++[UInt8.ofNat (l[j] / 256),UInt8.ofNat l[j]]:=by
   rw[List.take_succ_eq_append_getElem hlt,Afa]
  obtain ⟨n,hn⟩:∃ n,l[j]=n:=⟨_,rfl⟩
  rw[hn]at e1 hsucc
  have htb:=Ez n
  refine rg ?_;conv=>whnf
  refine⟨E,by omega,by omega,?_⟩
  rw[e1]
  conv=>whnf
  refine⟨by omega,?_⟩
  conv=>whnf
  refine Ai (Ae Γ.toTy 20 E E E E E (.row E) (.lit (e:=Aj) (l:=[UInt8.ofNat (n / 256),UInt8.ofNat n]) E htb) za (by simp[hpl];omega) (by simp[hpl];omega)) E E ?_
  refine rg ?_;conv=>whnf
  refine⟨by unfold I64;omega,?_⟩
  conv=>whnf
  exact Aq [(1000,20)] hlt ⟨⟨E,E,E,E,E,E,E,E,Y⟩,⟨.inl (congrArg (Ob.row 1 Aj) hsucc),E,Y⟩,E,E⟩
 ·have hjl:j=l.length:=by
   have:¬ j<l.length:=by simpa using h
   omega
  subst hjl
  rw[List.take_length]
  refine rg ?_;conv=>whnf
  exact done E (.cons .tmp .nil) [(0,1000)] [(0,.row 1 Aj (Ke l))] (fun _ h=>h) E E ⟨Y,⟨.inl E,E,Y⟩,E,E⟩
theorem Asn (n:Nat):IntKind.u8.wrap (n:Int)=((UInt8.ofNat n).toNat:Int):=by
 rw[IntKind.wrap_u8]
 simp
def beU (k n j:Nat):List UInt8:=List.replicate (k-j) 0++be j n
theorem Ajm (k n j:Nat) (h:j≤k):(beU k n j).length=k:=by simp[beU,A4];omega
theorem Aqf (k n j:Nat) (h:j<k):beU k n (j+1)=(beU k n j).set (k-1-j) (UInt8.ofNat (n / 256 ^ j)):=by
 have e:k-j=(k-(j+1))+1:=by omega
 rw[beU,beU,e,List.replicate_succ',List.append_assoc,List.set_append_right _ _ (by simp;omega),List.length_replicate,show k-1-j-(k-(j+1))=0 by omega]
 rfl
theorem Lr (n k:Nat) (hn:n<9223372036854775808) (hk:k≤8):Sy.Spec Tryz.prog 274 [Aa n,Aa k] [] (.osl 0) [(0,.row 1 Aj (be k n))]:=Ab Γ hm 100 F274 Tryz.ntmps274 rfl fun F hF=>by
 conv=>whnf
 refine Ai (B1 Γ.toTy (d:=8) (n:=k) Aj 0 E E E E E E E E qn qn E E E) E E ?_
 refine rg ?_;conv=>whnf
 refine At k (fun j=>[(0,Aa (n / 256 ^ j:Nat)),(1,Aa k),(5,.osl 8),(6,Aa j)]) (fun j=>[(8,.row 1 Aj (beU k n j))]) [] ⟨⟨congrArg (fun z:Nat=>Aa z) za,E,E,E,E,E,E,E,Y⟩,⟨.inl (congrArg (Ob.row 1 Aj) (by simp[beU,be])),E,Y⟩,E,E⟩ ?_
 intro j hj
 have hlen:=Ajm k n j hj
 refine rg ?_;conv=>whnf
 refine⟨fun h=>?_,fun h=>?_⟩
 ·have hlt:j<k:=by have:=of_decide_eq_true h;omega
  have hsucc:=Aqf k n j hlt
  have hle:=Nat.div_le_self n (256 ^ j)
  have hdiv:=Akm n j
  generalize n / 256 ^ j=q at *
  generalize beU k n j=u at *
  have e3:IntKind.u8.wrap ((q:Int).tmod 256)=((UInt8.ofNat q).toNat:Int):=by
   rw[Int.tmod_eq_emod_of_nonneg qn,IntKind.wrap_u8]
   simp
  refine rg ?_;conv=>whnf
  refine⟨by unfold I64;omega,?_⟩
  conv=>whnf
  refine⟨by unfold I64;omega,?_⟩
  conv=>whnf
  refine⟨by decide,?_⟩
  conv=>whnf
  refine⟨by omega,by omega,?_⟩
  conv=>whnf
  refine⟨E,by omega,UInt8.ofNat q,congrArg (fun z=>[SV.val (.int .u8 z)]) e3.symm,E,?_⟩
  conv=>whnf
  refine⟨by decide,?_⟩
  conv=>whnf
  refine⟨by unfold I64;omega,?_⟩
  conv=>whnf
  refine Aq [] hlt ⟨⟨congrArg (fun z=>SV.val (.int .i64 z)) ?_,E,E,E,E,E,E,E,Y⟩,⟨.inl (congrArg (Ob.row 1 Aj) ?_),E,Y⟩,E,E⟩
  ·rw[← hdiv,Int.tdiv_eq_ediv_of_nonneg qn,IntKind.wrap_i64];omega
  ·rw[hsucc];congr 1;omega
 ·have hjk:j=k:=by have:=of_decide_eq_false h;omega
  subst hjk
  refine rg ?_;conv=>whnf
  refine done E (.cons .tmp .nil) [(0,8)] [(0,.row 1 Aj (be j n))] (fun _ h=>h) E E ⟨Y,⟨.inl (congrArg (Ob.row 1 Aj) ?_),E,Y⟩,E,E⟩
  simp[beU]
def Ls (a bits:Int):SV:=.agg [B6 a,Aa bits]
theorem Ajp (a k:Nat) (ha:a<4294967296) (hk:k≤32):bits .andNot .u32 (a:Int) ((2 ^ k-1:Nat):Int)=((a-a % 2 ^ k:Nat):Int):=by
 have hp:=Nat.pow_le_pow_right (n:=2) qz hk
 have e32:(2:Nat) ^ 32=4294967296:=rfl
 rw[e32]at hp
 have h1:=Nat.one_le_two_pow (n:=k)
 have x1:(BitVec.ofInt 32 (a:Int)).toNat=a:=by rw[BitVec.ofInt_natCast,BitVec.toNat_ofNat];exact Nat.mod_eq_of_lt qn
 have x2:(BitVec.ofInt 32 ((2 ^ k-1:Nat):Int)).toNat=2 ^ k-1:=by rw[BitVec.ofInt_natCast,BitVec.toNat_ofNat];exact Nat.mod_eq_of_lt qn
 have key:(BitVec.ofInt 32 (a:Int) &&& ~~~ BitVec.ofInt 32 ((2 ^ k-1:Nat):Int)).toNat=a-a % 2 ^ k:=by
  have hd:a-a % 2 ^ k=2 ^ k * (a / 2 ^ k):=by have:=Nat.div_add_mod a (2 ^ k);omega
  rw[hd]
  refine Nat.eq_of_testBit_eq fun i=>?_
  rw[BitVec.testBit_toNat,BitVec.getLsbD_and,BitVec.getLsbD_not,← BitVec.testBit_toNat,← BitVec.testBit_toNat,x1,x2,Nat.testBit_two_pow_sub_one,Nat.testBit_two_pow_mul,Nat.testBit_div_two_pow]
  by_cases hi:i<k
  ·have:¬ i≥k:=by omega
   simp[hi,this]
  ·have h2:i≥k:=by omega
   have h3:i-k+k=i:=by omega
   by_cases h4:i<32
   ·simp[hi,h2,h4,h3]
   ·have h5:a.testBit i=false:=Nat.testBit_lt_two_pow (Nat.lt_of_lt_of_le (by rw[← e32]at ha;exact ha) (Nat.pow_le_pow_right qz qn))
    rw[h3,h5]
    simp
 show IntKind.u32.wrap (((BitVec.ofInt 32 (a:Int) &&& ~~~ BitVec.ofInt 32 ((2 ^ k-1:Nat):Int)).toNat:Nat):Int)=_
 rw[key,IntKind.wrap_u32]
 omega
theorem Mr (a k:Nat) (bits:Int) (h:0≤bits∧bits≤32) (hk:(32-bits).toNat=k):Jl a bits=((a-a % 2 ^ k:Nat):Int):=by
 rw[Jl,if_pos h,hk]
 have h1:=Nat.mod_le a (2 ^ k)
 rw[show (2:Int) ^ k=((2 ^ k:Nat):Int) by rw[Int.natCast_pow];rfl]
 omega
def lastI (a bits:Int):Int:=if 0≤bits∧bits≤32 then Jl a bits+2 ^ (32-bits).toNat-1 else 0
theorem Abi (a k:Nat) (bits:Int) (h:0≤bits∧bits≤32) (hk:(32-bits).toNat=k):lastI a bits=((a-a % 2 ^ k+(2 ^ k-1):Nat):Int):=by
 rw[lastI,if_pos h,hk,Mr a k bits h hk]
 have h1:=Nat.one_le_two_pow (n:=k)
 rw[show (2:Int) ^ k=((2 ^ k:Nat):Int) by rw[Int.natCast_pow];rfl]
 omega
theorem Aqt (a b:Nat) (ha:a<4294967296) (hb:b<4294967296):bits .xor .u32 (a:Int) (b:Int)=((a ^^^ b:Nat):Int):=by
 have x1:(BitVec.ofInt 32 (a:Int)).toNat=a:=by rw[BitVec.ofInt_natCast,BitVec.toNat_ofNat];exact Nat.mod_eq_of_lt qn
 have x2:(BitVec.ofInt 32 (b:Int)).toNat=b:=by rw[BitVec.ofInt_natCast,BitVec.toNat_ofNat];exact Nat.mod_eq_of_lt qn
 show IntKind.u32.wrap (((BitVec.ofInt 32 (a:Int) ^^^ BitVec.ofInt 32 (b:Int)).toNat:Nat):Int)=_
 have hlt:(BitVec.ofInt 32 (a:Int) ^^^ BitVec.ofInt 32 (b:Int)).toNat<4294967296:=BitVec.isLt _
 rw[BitVec.toNat_xor,x1,x2]at hlt ⊢
 rw[IntKind.wrap_u32]
 omega
theorem masked (a x k:Nat) (ha:a<4294967296) (hx:x<4294967296) (hk:k≤32):(bits .andNot .u32 (bits .xor .u32 (a:Int) (x:Int)) ((2 ^ k-1:Nat):Int) == 0)=decide (a / 2 ^ k=x / 2 ^ k):=by
 have hxl:a ^^^ x<4294967296:=Nat.xor_lt_two_pow (n:=32) ha hx
 rw[Aqt a x ha hx,Ajp _ k hxl hk]
 have hd:(a ^^^ x)-(a ^^^ x) % 2 ^ k=2 ^ k * ((a ^^^ x) / 2 ^ k):=by have:=Nat.div_add_mod (a ^^^ x) (2 ^ k);omega
 rw[hd,Nat.xor_div_two_pow]
 have h1:=Nat.one_le_two_pow (n:=k)
 by_cases h:a / 2 ^ k=x / 2 ^ k
 ·rw[h,Nat.xor_self]
  simp
 ·rw[decide_eq_false h]
  have:a / 2 ^ k ^^^ x / 2 ^ k≠0:=fun e=>h (by
   have:=congrArg (fun z=>z ^^^ x / 2 ^ k) e
   simpa [Nat.xor_assoc] using this)
  rw[beq_eq_false_iff_ne]
  intro e
  have e:=Int.natCast_eq_zero.1 e
  rcases Nat.mul_eq_zero.1 e with e | e
  ·omega
  ·exact this e
theorem Ala (a x q:Nat) (hq:0<q):(a / q=x / q)↔(a-a % q≤x∧x≤a-a % q+(q-1)):=by
 have h1:=Nat.div_add_mod a q
 have hd:a-a % q=q * (a / q):=by omega
 rw[hd]
 constructor
 ·intro e
  have h2:=Nat.div_add_mod x q
  have h3:=Nat.mod_lt x hq
  rw[← e]at h2
  omega
 ·rintro ⟨h2,h3⟩
  symm
  rw[Nat.div_eq_iff hq]
  generalize a / q=m at *
  have:q * m=m * q:=Nat.mul_comm ..
  constructor<;>omega
def Addrs (n:Net):Prop:=∀ x∈n.irbs,0≤x.addr∧x.addr<4294967296
theorem Ld (a bits:Int):Sy.Spec Tryz.prog 324 [Ls a bits] [] (Ad (decide (0≤bits∧bits≤32))) []:=Ab Γ hm 100 F324 Tryz.ntmps324 rfl fun F hF=>by
 conv=>whnf
 (repeat' (first | (refine⟨fun h=>?_,fun h=>?_⟩<;>(repeat (first | simp only[decide_eq_true_eq]at h | simp only[decide_eq_false_iff_not]at h))<;>((refine rg ?_);(conv=>whnf))) | (refine Ac rfl (.cons .tmp .nil) ?_ rfl)))
 all_goals (refine congrArg Ad ?_;clear hF;grind)
theorem Aeu (a bits:Int) (h:0≤bits∧bits≤32):Sy.Spec Tryz.prog 341 [Ls a bits] [] (Aa (2 ^ (32-bits).toNat:Nat)) []:=Ab Γ hm 100 F341 Tryz.ntmps341 rfl fun F hF=>by
 obtain ⟨k,hk,hk2⟩:∃ k:Nat,(32-bits).toNat=k∧k≤32:=⟨_,rfl,by omega⟩
 rw[hk]
 conv=>whnf
 refine At k (fun j=>[(1,.ptr 1 0),(3,Aa (2 ^ j:Nat)),(4,Aa (bits+j))]) (fun _=>[(1,.box [B6 a,Aa bits])]) [] ⟨⟨E,E,E,E,congrArg (fun z=>SV.val (.int .i64 z)) za,E,Y⟩,⟨.inl E,E,Y⟩,E,E⟩ ?_
 intro j hj
 have hp:2 ^ j≤2 ^ 32:=Nat.pow_le_pow_right qz qn
 have e32:(2:Nat) ^ 32=4294967296:=rfl
 have hs:2 ^ (j+1)=2 ^ j * 2:=Nat.pow_succ ..
 rw[e32]at hp
 obtain ⟨q,hq⟩:∃ q:Nat,2 ^ j=q:=⟨_,rfl⟩
 rw[hq]at hp hs ⊢
 refine rg ?_;conv=>whnf
 refine⟨fun h2=>?_,fun h2=>?_⟩
 ·have hlt:j<k:=by have:=of_decide_eq_true h2;omega
  refine rg ?_;conv=>whnf
  refine⟨by unfold I64;omega,?_⟩
  conv=>whnf
  refine⟨by unfold I64;omega,?_⟩
  conv=>whnf
  refine Aq [] hlt ⟨⟨E,E,congrArg (fun z=>SV.val (.int .i64 z)) ?_,E,congrArg (fun z=>SV.val (.int .i64 z)) ?_,E,Y⟩,⟨.inl E,E,Y⟩,E,E⟩
  ·rw[hs];omega
  ·omega
 ·have hjk:j=k:=by have:=of_decide_eq_false h2;omega
  subst hjk
  rw[hq]
  refine rg ?_;conv=>whnf
  exact Ac E (.cons .tmp .nil) E E
theorem Aa0 (a:Nat) (bits:Int) (ha:a<4294967296):Sy.Spec Tryz.prog 325 [Ls a bits] [] (B6 (Jl a bits)) []:=Ab Γ hm 100 F325 Tryz.ntmps325 rfl fun F hF=>by
 have hr:=Ld a bits
 by_cases hb:0≤bits∧bits≤32
 ·have hsz:=Aeu a bits hb
  rw[decide_eq_true hb]at hr
  obtain ⟨k,hk,hk2⟩:∃ k:Nat,(32-bits).toNat=k∧k≤32:=⟨_,rfl,by omega⟩
  have hf:=Mr a k bits hb hk
  have h1:=Nat.one_le_two_pow (n:=k)
  have hp:2 ^ k≤2 ^ 32:=Nat.pow_le_pow_right qz hk2
  have e32:(2:Nat) ^ 32=4294967296:=rfl
  have hdm:=Nat.div_add_mod a (2 ^ k)
  have hml:=Nat.mod_le a (2 ^ k)
  have hdl:=Nat.div_le_self a (2 ^ k)
  rw[e32]at hp
  rw[hk]at hsz
  rw[hf]
  generalize 2 ^ k=q at *
  have w1:IntKind.i64.wrap (a:Int)=a:=by rw[IntKind.wrap_i64];omega
  have w2:IntKind.i64.wrap ((IntKind.i64.wrap (a:Int)).tdiv (q:Int))=((a / q:Nat):Int):=by
   rw[w1,Int.tdiv_eq_ediv_of_nonneg qn,IntKind.wrap_i64]
   have:((a:Int) / (q:Int))=((a / q:Nat):Int):=by simp
   rw[this]
   obtain ⟨d,hd⟩:∃ d:Nat,a / q=d:=⟨_,rfl⟩
   rw[hd]at hdl ⊢
   omega
  have hmul:((a / q:Nat):Int) * (q:Int)=((q * (a / q):Nat):Int):=by rw[Int.natCast_mul,Int.mul_comm]
  conv=>whnf
  refine Ah hr F324 E E E E E ?_
  (refine rg ?_;(conv=>whnf);refine aF ?_;refine rg ?_;conv=>whnf)
  refine Au hsz F341 E E E qy E ?_
  refine rd qy ?_;conv=>whnf
  refine⟨by omega,?_⟩
  conv=>whnf
  refine Au hsz F341 E E E qy E ?_
  refine rd qy ?_;conv=>whnf
  refine⟨(by rw[w2,hmul];unfold I64;omega),?_⟩
  conv=>whnf
  refine⟨qy,?_⟩
  conv=>whnf
  refine Ac E (.cons .tmp .nil) ?_ E
  refine congrArg (fun z=>SV.val (.int .u32 z)) ?_
  rw[w2,hmul,IntKind.wrap_u32]
  omega
 ·rw[decide_eq_false hb]at hr
  have hf:Jl a bits=0:=by rw[Jl,if_neg hb]
  rw[hf]
  conv=>whnf
  refine Ah hr F324 E E E E E ?_
  (refine rg ?_;(conv=>whnf);refine aT ?_;refine rg ?_;conv=>whnf)
  exact Ac E (.cons .tmp .nil) E E
theorem J1 {x:Int} (h0:0≤x) (h1:x<18446744073709551616):IntKind.u64.wrap x=x:=by rw[IntKind.wrap_u64];omega
theorem Afy (ip:Nat) (h:ip<4294967296):Sy.Spec Tryz.prog 244 [B6 ip] [] (Az (Es ip)) []:=Ab Γ hm 100 F244 Tryz.ntmps244 rfl fun F hF=>by
 conv=>whnf
 refine Ac E (.cons .tmp .nil) ?_ E
 refine congrArg (fun z=>SV.val (.int .u64 z)) ?_
 have e:IntKind.u64.wrap (ip:Int)=ip:=J1 qn qn
 rw[e]
 have hb:=bits_or_u64_nat 2199023255552 ip qz qn
 rw[show ((2199023255552:Nat):Int)=2199023255552 from rfl]at hb
 rw[hb,Es,Int.toNat_natCast]
 have h2:=Nat.two_pow_add_eq_or_of_lt (i:=32) (b:=ip) qn 512
 rw[show 2 ^ 32 * 512=2199023255552 from rfl]at h2
 rw[← h2]
theorem Ol (ip:Nat) (h:ip<4294967296):Sy.Spec Tryz.prog 213 [B6 ip] [] (Az (Es ip)) []:=Ab Γ hm 100 F213 Tryz.ntmps213 rfl fun F hF=>by
 conv=>whnf
 refine Ac E (.cons .tmp .nil) ?_ E
 refine congrArg (fun z=>SV.val (.int .u64 z)) ?_
 have e:IntKind.u64.wrap (ip:Int)=ip:=J1 qn qn
 rw[e,J1 qn qn,Es,Int.toNat_natCast]
 omega
theorem tagIsS (d s:Nat) (t:Int) (body:List UInt8) (ht:t≠33024):Sy.Spec Tryz.prog 166 [Af5 d s t body] [] (Ad false) []:=Ab Γ hm 100 F166 Tryz.ntmps166 rfl fun F hF=>by
 conv=>whnf
 refine Ac E (.cons .tmp .nil) ?_ E
 exact congrArg Ad (beq_eq_false_iff_ne.2 ht).symm
theorem Arf (v:Nat) (hv:v<9223372036854775808):bits .or .i64 (IntKind.i64.wrap (0 * 2 ^ min (Int.toNat 12) IntKind.i64.bits)) (v:Int)=v:=by
 have h:=Do 0 v qz hv
 rw[Nat.zero_or]at h
 exact h
theorem Aq3 (d s t v:Nat) (body:List UInt8) (ht:t≠33024) (ht2:t≤65535) (hv:v≤4094) (hb:body.length≤1500) :
  Sy.Spec Tryz.prog 308 [Af5 d s t body,Aa v,Aa 0] [] (.tup [Af5 d s 33024 ([UInt8.ofNat (v / 256),UInt8.ofNat v,UInt8.ofNat (t / 256),UInt8.ofNat t]++body),Aa 0]) []:=Ab Γ hm 100 F308 Tryz.ntmps308 rfl fun F hF=>by
 have hor:=Arf v qn
 have tb1:=Ez v
 have tb2:=Ez t
 conv=>whnf
 refine Ah (tagIsS d s t body qn) F166 E E E E E ?_
 (refine rg ?_;(conv=>whnf);refine aF ?_;refine rg ?_;(conv=>whnf);refine aF ?_;refine rg ?_;conv=>whnf)
 refine⟨fun h=>absurd (of_decide_eq_true h) qn,fun _=>?_⟩
 (refine rg ?_;(conv=>whnf);refine aF ?_;refine rg ?_;(conv=>whnf);refine aF ?_;refine rg ?_;(conv=>whnf);refine aF ?_;refine rg ?_;conv=>whnf)
 refine⟨fun h=>absurd (of_decide_eq_true h) qn,fun _=>?_⟩
 refine rg ?_;conv=>whnf
 refine⟨fun h=>absurd (of_decide_eq_true h) qn,fun _=>?_⟩
 refine rg ?_;conv=>whnf
 refine⟨by omega,?_⟩
 conv=>whnf
 rw[hor]
 refine⟨by omega,?_⟩
 conv=>whnf
 refine⟨by omega,?_⟩
 conv=>whnf
 refine Bn (Ae Γ.toTy 70 E E E E E (.lit (e:=Aj) (l:=[UInt8.ofNat (v / 256),UInt8.ofNat v,UInt8.ofNat (t / 256),UInt8.ofNat t]) E ?_) .sl za (by simp;omega) (by simp;omega)) qy E ?_
 ·have h1:=List.cons.inj tb1
  have h2:=List.cons.inj tb2
  have h3:=List.cons.inj h1.2
  have h4:=List.cons.inj h2.2
  simp only[List.map_cons,List.map_nil]
  rw[h1.1,h3.1,h2.1,h4.1]
 refine rd qy ?_;conv=>whnf
 refine⟨qy,?_⟩
 conv=>whnf
 refine As 70 E ?_
 exact Ac E (.cons (.cell E E E E) (.cons .tmp .nil)) E E
theorem Ahf (d s t v:Nat) (body:List UInt8) (ht:t≠33024) (ht2:t≤65535) (hv:v≤4094) (hb:body.length≤1500) :
  Sy.Spec Tryz.prog 221 [Af5 d s t body,Aa v,Aa 0] [] (.tup [Af5 d s 33024 ([UInt8.ofNat (v / 256),UInt8.ofNat v,UInt8.ofNat (t / 256),UInt8.ofNat t]++body),Aa 0]) []:=Ab Γ hm 100 F221 Tryz.ntmps221 rfl fun F hF=>by
 have tb1:=Ip v qn
 have tb2:=Ip t ht2
 conv=>whnf
 refine⟨fun h=>absurd (by simpa using h) (show ¬ (t:Int)=33024 by omega),fun _=>?_⟩
 (refine rg ?_;(conv=>whnf);refine aF ?_;refine rg ?_;conv=>whnf)
 refine⟨fun h=>absurd (of_decide_eq_true h) qn,fun _=>?_⟩
 (refine rg ?_;(conv=>whnf);refine aF ?_;refine rg ?_;(conv=>whnf);refine aF ?_;refine rg ?_;(conv=>whnf);refine aF ?_;refine rg ?_;conv=>whnf)
 refine⟨fun h=>absurd (of_decide_eq_true h) qn,fun _=>?_⟩
 refine rg ?_;conv=>whnf
 refine⟨fun h=>absurd (of_decide_eq_true h) qn,fun _=>?_⟩
 refine rg ?_;conv=>whnf
 refine⟨by unfold I64;decide,?_⟩
 conv=>whnf
 refine⟨by unfold I64;omega,?_⟩
 conv=>whnf
 rw[Int.zero_mul,Int.zero_add]
 refine⟨by decide,?_⟩
 conv=>whnf
 refine⟨by decide,?_⟩
 conv=>whnf
 refine⟨by decide,?_⟩
 conv=>whnf
 refine⟨by decide,?_⟩
 conv=>whnf
 refine Bn (Ae Γ.toTy 70 E E E E E (.lit (e:=Aj) (l:=[UInt8.ofNat (v / 256),UInt8.ofNat v,UInt8.ofNat (t / 256),UInt8.ofNat t]) E ?_) .sl za (by simp;omega) (by simp;omega)) qy E ?_
 ·have h1:=List.cons.inj tb1
  have h2:=List.cons.inj tb2
  have h3:=List.cons.inj h1.2
  have h4:=List.cons.inj h2.2
  simp only[List.map_cons,List.map_nil]
  rw[h1.1,h3.1,h2.1,h4.1]
 refine rd qy ?_;conv=>whnf
 refine⟨qy,?_⟩
 conv=>whnf
 refine As 70 E ?_
 exact Ac E (.cons (.cell E E E E) (.cons .tmp .nil)) E E
end Go.Sy.YtmelpejjondedaaGreat
namespace Go.Sy.YtmelpejjondedaaGreat
open Go.Proofs
def E8 (l:List UInt8):Nat:=l.foldl (fun n c=>n * 256+c.toNat) 0
theorem Aas (l:List UInt8) (c:UInt8):E8 (l++[c])=E8 l * 256+c.toNat:=by
 rw[E8,List.foldl_append];rfl
theorem Jp:∀ (k:Nat) (l:List UInt8),l.length=k→E8 l<256 ^ k
 | 0,l,h=>by rw[List.length_eq_zero_iff.1 h];decide
 | k+1,l,h=>by
  have hne:l≠[]:=fun e=>by rw[e]at h;cases h
  have e:=List.dropLast_concat_getLast hne
  have h1:=Jp k l.dropLast (by rw[List.length_dropLast];omega)
  have h2:=(l.getLast hne).toNat_lt
  rw[← e,Aas,Nat.pow_succ]
  omega
theorem Vi (l:List UInt8) {j:Nat} (h:j<l.length):E8 (l.take (j+1))=E8 (l.take j) * 256+l[j].toNat:=by
 rw[List.take_succ_eq_append_getElem h,Aas]
theorem Aq0 (m:Nat) (c:UInt8) (h:m<1099511627776) :
  bits .or .u64 (IntKind.u64.wrap ((m:Int) * 2 ^ min (Int.toNat 8) IntKind.u64.bits)) (IntKind.u64.wrap (c.toNat:Int))=((m * 256+c.toNat:Nat):Int):=by
 have hc:=c.toNat_lt
 have e1:IntKind.u64.wrap ((m:Int) * 2 ^ min (Int.toNat 8) IntKind.u64.bits)=((m * 256:Nat):Int):=by
  show IntKind.u64.wrap ((m:Int) * 256)=_
  rw[IntKind.wrap_u64];omega
 have e2:IntKind.u64.wrap (c.toNat:Int)=(c.toNat:Int):=by rw[IntKind.wrap_u64];omega
 rw[e1,e2,bits_or_u64_nat _ _ qn qn]
 congr 1
 have h:=Nat.two_pow_add_eq_or_of_lt (i:=8) (b:=c.toNat) qn m
 rw[Nat.mul_comm m 256]
 exact h.symm
def D1 (m:Nat):Bool:=decide (m / 1099511627776 % 2=1)
theorem Asb (m k:Nat):m &&& 2 ^ k=if m / 2 ^ k % 2=1 then 2 ^ k else 0:=by
 apply Nat.eq_of_testBit_eq
 intro i
 rw[Nat.testBit_and,Nat.testBit_two_pow]
 by_cases hi:k=i
 ·subst hi
  rw[decide_eq_true rfl,Bool.and_true,Nat.testBit_eq_decide_div_mod_eq]
  split
  ·rename_i h;rw[decide_eq_true h,Nat.testBit_two_pow_self]
  ·rename_i h;rw[decide_eq_false h,Nat.zero_testBit]
 ·rw[decide_eq_false hi,Bool.and_false]
  split
  ·rw[Nat.testBit_two_pow,decide_eq_false hi]
  ·rw[Nat.zero_testBit]
theorem Aml (m:Nat) (h:m<18446744073709551616):(bits .and .u64 (m:Int) 1099511627776 != 0)=D1 m:=by
 have e:=bits_and_u64_nat m 1099511627776 h qz
 rw[show ((1099511627776:Nat):Int)=1099511627776 from rfl]at e
 rw[e,show (1099511627776:Nat)=2 ^ 40 from rfl,Asb,D1,show (1099511627776:Nat)=2 ^ 40 from rfl]
 split
 ·rename_i h;rw[decide_eq_true h];rfl
 ·rename_i h;rw[decide_eq_false h];rfl
theorem App (m:Nat):decide ((UInt8.ofNat (m / 256 ^ 5)).toNat % 2=1)=D1 m:=by
 rw[D1]
 refine decide_eq_decide.2 ?_
 rw[show (256:Nat) ^ 5=1099511627776 from rfl,UInt8.toNat_ofNat']
 omega
end Go.Sy.YtmelpejjondedaaGreat
namespace Go.Sy
theorem Spec.view {P:Program} {f:FuncId} {A A':List SV} {H H':Obs} {R:SV} (hs:Sy.Spec P f A H R H') (h:∀ κ w vs,RdL κ w A' vs→RdL κ w A vs):Sy.Spec P f A' H R H' :=
 fun κ w vs hi hk hr ho=>hs κ w vs hi hk (h κ w vs hr) ho
theorem Q2 {κ:Ka} {w:World} {sz:Nat} {α:Type} {e:α→SV} {v:Value} (h:Rd κ w (.val (.slice none 0 0)) v):Rd κ w (.sl sz e []) v:=by
 simp only[Rd]at h
 simp only[Rd,RdD]
 exact .inl ⟨Y,none,0,h⟩
theorem Mv {M:Nat→Prop} {w:World} {sz:Nat} {α:Type} {e:α→SV} {v:Value} (h:v=.slice none 0 0):RdD M w (.sl sz e []) v:=by
 simp only[RdD]
 exact .inl ⟨Y,none,0,h⟩
theorem Vg {C:Cx} {k:List KI} {s:SS} (d:Nat) {sz:Nat} {α β:Type} {e:α→SV} {l:List α} {e':β→SV} {l':List β} (h:s.h d=.row sz e l) (hl:l'.length=l.length)
  (hv:∀ (M:Nat→Prop) (w:World) (i:Nat) (h1:i<l.length) (h2:i<l'.length) (v:Value),RdD M w (e l[i]) v→RdD M w (e' l'[i]) v) (hg:G C k ⟨s.σ,upd s.h d (.row sz e' l')⟩):G C k s:=fun κ a w hs =>
 hg κ a w ⟨hs.defers,hs.size,hs.inv,hs.ctx,hs.slot,fun i=>by
  show ObOK κ w i (upd s.h d (.row sz e' l') i)
  by_cases hi:i=d
  ·subst hi
   rw[Bq]
   have:=hs.obj i
   rw[h]at this
   rcases this with ⟨h1,rfl⟩ | ⟨b,cap,cs,T,fr,e1,e2,e3,e4,e5,e6⟩
   ·exact .inl ⟨h1,List.eq_nil_of_length_eq_zero (by simpa using hl)⟩
   ·refine .inr ⟨b,cap,cs,T,fr,by rw[hl];exact e1,e2,e3,e4,by omega,fun i x hx=>?_⟩
    obtain ⟨hi2,rfl⟩:=hx
    obtain ⟨_,u,hu,hrest⟩:=e6 i (e (l[i]'qn)) ⟨by omega,rfl⟩
    exact⟨hi2,u,hv _ _ i qn hi2 u hu,hrest⟩
  ·rw[Cd _ _ hi];exact hs.obj i⟩
theorem Akq {κ:Ka} {w:World} {x:SV}:∀ {l:List SV} {cs:List Value} {i:Nat},RdL κ w l cs→(∀ y v,l[i]? = some y→Rd κ w y v→Rd κ w x v)→RdL κ w (l.set i x) cs
 | [],_,_,h,_=>h
 | y::l,cs,0,h,hx=>by
  simp only[RdL,List.set_cons_zero]at h ⊢
  obtain ⟨v,r,e1,e2,e3⟩:=h
  exact⟨v,r,e1,hx y v E e2,e3⟩
 | y::l,cs,i+1,h,hx=>by
  simp only[RdL,List.set_cons_succ]at h ⊢
  obtain ⟨v,r,e1,e2,e3⟩:=h
  exact⟨v,r,e1,e2,Akq e3 (fun z u hz hu=>hx z u hz hu)⟩
theorem Qj {C:Cx} {k:List KI} {s:SS} (b i d sz:Nat) {α:Type} (e:α→SV) {l:List SV} (hb:s.h b=.box l) (h:l[i]? = some (.val (.slice none 0 0))) (hd:s.h d=.fresh) (hbd:Nat.beq b d=false)
  (hg:G C k ⟨s.σ,upd (upd s.h b (.box (l.set i (.osl d)))) d (.row sz e [])⟩):G C k s:=fun κ a w hs=>by
 have hne:b≠d:=fun e=>by rw[e,Nat.beq_refl]at hbd;cases hbd
 have hnew:κ d=.new:=by have:=hs.obj d;rwa [hd]at this
 obtain ⟨st,inv⟩:=H7 hs.inv hnew (e:=.nil) (Grew.refl w) (fun b hb=>by cases hb)
 refine hg (Db κ d .nil) a w ⟨hs.defers,hs.size,inv,hs.ctx.step inv st,fun j=>Rd.step st _ _ (hs.slot j),fun j=>?_⟩
 show ObOK _ w j (upd (upd s.h b (.box (l.set i (.osl d)))) d (.row sz e []) j)
 by_cases hj:j=d
 ·subst hj;rw[Bq];exact .inl ⟨Ax _ _ _,rfl⟩
 ·rw[Cd _ _ hj]
  by_cases hjb:j=b
  ·subst hjb
   rw[Bq]
   have:=ObOK.step st hj _ (hs.obj j)
   rw[hb]at this
   obtain ⟨b',cs,T,fr,e1,e2,e3,e4,e5⟩:=this
   refine⟨b',cs,T,fr,e1,e2,e3,e4,Akq e5 fun y v hy hv=>?_⟩
   rw[h]at hy
   cases hy
   simp only[Rd]at hv
   simp only[Rd,Ax]
   exact hv
  ·rw[Cd _ _ hjb];exact ObOK.step st hj _ (hs.obj j)
theorem Q3 {P:Program} (w:World) {t e:TypeId} (h:P.underlying t=some (.slice e)) (ad:Option Addr) (n cap c1 c2:Nat):(Op.equal t (.slice ad n cap) (.slice none c1 c2)).run P w=.ok ad.isNone w:=by
 have key:∀ d,(Op.equalIn (d+1) t (.slice ad n cap) (.slice none c1 c2)).run P w=.ok ad.isNone w:=fun d=>by
  cases ad<;>simp[Op.equalIn,run_underlying h]
 exact key 9999
inductive NilT (s:SS):SV→List Nat→Nat→Prop
 | sl {sz:Nat} {α:Type} {e:α→SV} {l:List α}:NilT s (.sl sz e l) [] l.length
 | row {k sz:Nat} {α:Type} {e:α→SV} {l:List α} (h:s.h k=.row sz e l):NilT s (.osl k) [k] l.length
theorem NilT.at {C:Cx} {s:SS} {κ:Ka} {a:Act} {w:World} {x:Operand} {rd:List Nat} {n:Nat} (hs:St C.F C.n s κ a w) (hx:NilT s (ev s x) rd n):∃ (ad:Option Addr) (m cap:Nat),a.eval x=.slice ad m cap∧(ad.isNone=true→n=0):=by
 have h1:Rd κ w (ev s x) (a.eval x):=hs.ev x
 generalize ev s x=y at *
 cases hx with
 | @sl sz α e l =>
  simp only[Rd,RdD]at h1
  rcases h1 with ⟨rfl,a',cap,h1⟩ | ⟨b,off,cap,h1,_⟩
  ·exact⟨_,_,_,h1,fun _=>rfl⟩
  ·exact⟨_,_,_,h1,fun h=>by cases h⟩
 | @row k' sz α e l hr =>
  have hob:=hs.obj k'
  rw[hr]at hob
  simp only[Rd]at h1
  rcases hob with ⟨hκ,hl⟩ | ⟨b,cap,_,_,_,hκ,_⟩
  ·rw[hκ]at h1
   exact⟨_,_,_,h1,fun _=>by rw[hl];rfl⟩
  ·rw[hκ]at h1
   exact⟨_,_,_,h1,fun h=>by cases h⟩
theorem D7 {C:Cx} {k:List KI} {s:SS} {all:Array Oper} {o:Oper} {rest:List Oper} {op:BinOp} {t yt:TypeId} {ti:TI} {et:TypeId} {sz eb n:Nat} {ez:List Value} {x y:Operand} {rd:List Nat} (h:o.op=.binOp op t x y yt) (hop:op=.eql∨op=.neq)
  (ht:C.Γ.get t=some ti) (hk:ti.k=.slice et sz eb ez) (hy:ev s y=.val (.slice none 0 0)) (hx:NilT s (ev s x) rd n) (hd:Sn C.n o=true) (hw:Ee C.n all o s=some true)
  (hg:∀ b:Bool,(b=true→n=0)→G C (.ops all rest::k) (s.upd o.dst ⟨.val (.bool (if op=.eql then b else !b)),rd,[]⟩)):G C (.ops all (o::rest)::k) s:=fun κ a w hs=>by
 have h2:Rd κ w (ev s y) (a.eval y):=hs.ev y
 rw[hy]at h2
 obtain ⟨ad,m,cap,e1,e2⟩:=hx.at hs
 obtain ⟨d,info,z,k1,k2,_⟩:=C.Γ.ok t ti ht
 rw[hk]at k2
 simp only[TK.ok]at k2
 have hrun:=Q3 (P:=C.P) w (t:=t) (e:=et) (by first | exact k2.1 ▸ k1 | (rw[k1,k2.1])) ad m cap 0 0
 have hG:=hg ad.isNone e2
 have hv:=h2.val
 refine wpList_step fun K hK=>?_
 rw[if_pos (Ts hs (Eo hw).2 (Eo hw).1)]
 have hx':(execOp a.eval o).run C.P w=.ok (.value (.bool (if op=.eql then ad.isNone else !ad.isNone))) w:=by
  rcases hop with rfl | rfl<;>simp[execOp,h,e1,hv,eqGuard,binOp,hrun]
 simp only[Oper.wp,hx',Oper.upon]
 exact hK _ _ (hG κ _ w (hs.put (U:=⟨.val (.bool (if op=.eql then ad.isNone else !ad.isNone)),rd,[]⟩) (Zm hd) (Step.refl _ κ w) hs.inv (by simp[Rd]) (fun p hp=>by cases hp)))
def KeepL (s:SS):List (Nat × Ob)→Prop
 | []=>True
 | (k,o)::r=>s.h k=o∧KeepL s r
theorem KeepL.all {s:SS}:∀ {l:List (Nat × Ob)},KeepL s l→∀ p∈l,s.h p.1=p.2
 | [],_,p,hp=>by cases hp
 | (k,o)::r,h,p,hp=>by
  rcases List.mem_cons.1 hp with rfl | hp
  ·exact h.1
  ·exact KeepL.all h.2 p hp
theorem stepD2 {C:Cx} {k:List KI} {s:SS} {all:Array Oper} {done:List Stp} {o:Oper} {rest:List Oper} {U:Up} (hg:Good C.P o s U) (hk:KeepL s U.objs) (hi:all[done.length]? = some o) (hw:Ee C.n all o s=some true)
  (h:DR C k all (done++[⟨done.length,o,⟨U.v,U.rd++U.ws,[]⟩,true⟩]) rest (s.upd o.dst ⟨U.v,U.rd++U.ws,[]⟩)) (hn:(Hy o || Le o)=false:=by rfl):DR C k all done (o::rest) s :=
 Aqr _ (.of2 (hg.keep hk.all) hn) hi (Eo hw).1 h
theorem Ak2 {κ:Ka} {w w':World} (hi:Inv κ w) (g:Grew w w'):Step (fun _=>False) κ w κ w'∧Inv κ w' :=
 ⟨⟨g.size,g.os,g.tape,g.output,rfl,fun b hb=>g.blk b (hi.mbnd b hb),fun b hb _=>g.blk b hb,fun k b _ hb=>g.blk b (hi.bnd k b hb),fun _ _=>rfl,fun _ h=>h.elim,fun _ h=>.inl h⟩,
  ⟨hi.inj,fun k b h=>Nat.lt_of_lt_of_le (hi.bnd k b h) g.size,hi.apart,fun b h=>Nat.lt_of_lt_of_le (hi.mbnd b h) g.size⟩⟩
theorem Apu {P:Program} {o:Oper} {s:SS} {x y:Operand} {at_:Array TypeId} {k k':IntKind} {m n:Int} (h:o.op=.call ⟨.builtin .min,#[x,y],at_⟩)
  (hx:ev s x=.val (.int k m)) (hy:ev s y=.val (.int k' n)):Good P o s ⟨.val (.int k (if n<m then n else m)),[],[]⟩ :=
 Good.pure fun κ a w _ hr ho=>by
  have h1:=hr x (by simp[h,Op.operands,Call.operands])
  have h2:=hr y (by simp[h,Op.operands,Call.operands])
  rw[hx]at h1
  rw[hy]at h2
  refine⟨.int k (if n<m then n else m),?_,by simp[Rd]⟩
  simp[execOp,h,resolve,invoke,builtin,Builtin.min_,Builtin.min2,h1.val,h2.val]
end Go.Sy
namespace Go.Sy.YtmelpejjondedaaGreat
open Go.Proofs
attribute [local irreducible] Go.Sy.G Go.Sy.DR
set_option maxRecDepth 20000
set_option maxHeartbeats 4000000
theorem Hf {α:Type} (sz:Nat) (e:α→SV) (l:List α) (i:Int):Sy.Spec Tryz.prog 126 [.sl sz e l,Aa i] [] (Ad (Al i l.length)) []:=Ab Γ hm 100 F126 Tryz.ntmps126 rfl fun F hF=>by
 conv=>whnf
 (repeat' (first | (refine⟨fun h=>?_,fun h=>?_⟩<;>(repeat (first | simp only[decide_eq_true_eq]at h | simp only[decide_eq_false_iff_not]at h))<;>((refine rg ?_);(conv=>whnf))) | (refine Ac rfl (.cons .tmp .nil) ?_ rfl)))
 all_goals (refine congrArg Ad ?_)
 all_goals grind [Al]
theorem Ah2 {α:Type} (sz:Nat) (e:α→SV) (l:List α) (i:Int):Sy.Spec Tryz.prog 190 [.sl sz e l,Aa i] [] (Ad (Al i l.length)) []:=Ab Γ hm 100 F190 Tryz.ntmps190 rfl fun F hF=>by
 conv=>whnf
 (repeat' (first | (refine⟨fun h=>?_,fun h=>?_⟩<;>(repeat (first | simp only[decide_eq_true_eq]at h | simp only[decide_eq_false_iff_not]at h))<;>((refine rg ?_);(conv=>whnf))) | (refine Ac rfl (.cons .tmp .nil) ?_ rfl)))
 all_goals (refine congrArg Ad ?_)
 all_goals grind [Al]
theorem Ae8 {α:Type} (sz:Nat) (e:α→SV) (l:List α) (i:Int):Sy.Spec Tryz.prog 195 [.sl sz e l,Aa i] [] (Ad (Al i l.length)) []:=Ab Γ hm 100 F195 Tryz.ntmps195 rfl fun F hF=>by
 conv=>whnf
 (repeat' (first | (refine⟨fun h=>?_,fun h=>?_⟩<;>(repeat (first | simp only[decide_eq_true_eq]at h | simp only[decide_eq_false_iff_not]at h))<;>((refine rg ?_);(conv=>whnf))) | (refine Ac rfl (.cons .tmp .nil) ?_ rfl)))
 all_goals (refine congrArg Ad ?_)
 all_goals grind [Al]
theorem Oq {α:Type} (sz:Nat) (e:α→SV) (l:List α) (i:Int):Sy.Spec Tryz.prog 196 [.sl sz e l,Aa i] [] (Ad (Al i l.length)) []:=Ab Γ hm 100 F196 Tryz.ntmps196 rfl fun F hF=>by
 conv=>whnf
 (repeat' (first | (refine⟨fun h=>?_,fun h=>?_⟩<;>(repeat (first | simp only[decide_eq_true_eq]at h | simp only[decide_eq_false_iff_not]at h))<;>((refine rg ?_);(conv=>whnf))) | (refine Ac rfl (.cons .tmp .nil) ?_ rfl)))
 all_goals (refine congrArg Ad ?_)
 all_goals grind [Al]
theorem I1 {α:Type} (sz:Nat) (e:α→SV) (l:List α) (i:Int):Sy.Spec Tryz.prog 197 [.sl sz e l,Aa i] [] (Ad (Al i l.length)) []:=Ab Γ hm 100 F197 Tryz.ntmps197 rfl fun F hF=>by
 conv=>whnf
 (repeat' (first | (refine⟨fun h=>?_,fun h=>?_⟩<;>(repeat (first | simp only[decide_eq_true_eq]at h | simp only[decide_eq_false_iff_not]at h))<;>((refine rg ?_);(conv=>whnf))) | (refine Ac rfl (.cons .tmp .nil) ?_ rfl)))
 all_goals (refine congrArg Ad ?_)
 all_goals grind [Al]
theorem Ah1 {α:Type} (sz:Nat) (e:α→SV) (l:List α) (i:Int):Sy.Spec Tryz.prog 200 [.sl sz e l,Aa i] [] (Ad (Al i l.length)) []:=Ab Γ hm 100 F200 Tryz.ntmps200 rfl fun F hF=>by
 conv=>whnf
 (repeat' (first | (refine⟨fun h=>?_,fun h=>?_⟩<;>(repeat (first | simp only[decide_eq_true_eq]at h | simp only[decide_eq_false_iff_not]at h))<;>((refine rg ?_);(conv=>whnf))) | (refine Ac rfl (.cons .tmp .nil) ?_ rfl)))
 all_goals (refine congrArg Ad ?_)
 all_goals grind [Al]
theorem Api (l:List Int) (x:Int) (hl:Ar l):Sy.Spec Tryz.prog 161 [.sl 1 Aa l,Aa x] [] (Aa (Dh (· == x) l)) []:=Ab Γ hm 100 F161 Tryz.ntmps161 rfl fun F hF=>by
 unfold Ar at hl
 conv=>whnf
 refine A2 l.length (fun j=>∀ i (h:i<l.length),i<j→(l[i] == x)=false) (fun j=>[(0,.sl 1 Aa l),(1,Aa x),(7,Aa l.length),(8,Aa j)]) (fun _=>[]) [] (fun i h hj=>absurd hj qn) ⟨⟨E,E,E,E,E,E,E,E,Y⟩,Y,E,E⟩ ?_
 intro j hj hI
 refine rg ?_;conv=>whnf
 (repeat' (first | (refine⟨fun h=>?_,fun h=>?_⟩<;>(repeat (first | simp only[decide_eq_true_eq]at h | simp only[decide_eq_false_iff_not]at h | simp only[beq_iff_eq]at h | simp only[beq_eq_false_iff_ne]at h))<;>((refine rg ?_);(conv=>whnf))) | (refine Ac rfl (.cons .tmp .nil) ?_ rfl) | (refine⟨qy,?_⟩;((conv=>whnf))) | (refine⟨by (omega),by (omega),?_⟩;((conv=>whnf))) | (refine⟨by (unfold I64;omega),?_⟩;((conv=>whnf))) | refine Aw [] hI qn ?_ ⟨⟨rfl,rfl,rfl,rfl,rfl,rfl,rfl,rfl,trivial⟩,trivial,rfl,rfl⟩))
 all_goals try (refine congrArg Aa ?_)
 ·exact C1 qn hI (by simpa using h.symm)
 ·intro i hi hij
  rcases Nat.lt_or_ge i j with h1 | h1
  ·exact hI i hi h1
  ·have:i=j:=by omega
   subst this
   simpa using Ne.symm h
 ·exact Dc (fun i hi=>hI i hi qn)
theorem D2 (l:List Int) (x:Int) (hl:Ar l):Sy.Spec Tryz.prog 86 [.sl 1 Aa l,Aa x] [] (Ad (inB l x)) []:=Ab Γ hm 100 F86 Tryz.ntmps86 rfl fun F hF=>by
 conv=>whnf
 (repeat' (first | (refine Ac rfl (.cons .tmp .nil) ?_ rfl) | (refine Ah (Api _ _ hl) F161 rfl rfl rfl rfl rfl ?_;((refine rg ?_);(conv=>whnf)))))
 exact congrArg Ad (Y9 _ _).symm
def Ie (p:Port) (v:Int):Bool:=v != 0 && (v == p.native || inB p.tagged v)
theorem Ac2 (p:Port) (v:Int) (hl:Ar p.tagged):Sy.Spec Tryz.prog 198 [Bj p,Aa v] [] (Ad (Ie p v)) []:=Ab Γ hm 100 F198 Tryz.ntmps198 rfl fun F hF=>by
 conv=>whnf
 (repeat' (first | (refine⟨fun h=>?_,fun h=>?_⟩<;>(repeat (first | simp only[beq_iff_eq]at h | simp only[beq_eq_false_iff_ne]at h | simp only[bne_iff_ne]at h | simp only[bne_eq_false_iff_eq]at h))<;>((refine rg ?_);(conv=>whnf))) | (refine Ac rfl (.cons .tmp .nil) ?_ rfl) | (refine Ah (D2 _ _ hl) F86 rfl rfl rfl rfl rfl ?_;((refine rg ?_);(conv=>whnf)))))
 all_goals (refine congrArg Ad ?_)
 all_goals grind [Ie]
def Lp (l:List Int) (least most:Int) (i:Nat) (x:Int):Bool:=decide (least≤x) && decide (x≤most) && (i == 0 || decide (nth l ((i:Int)-1)<x))
def Dp (l:List Int) (least most:Int):Bool:=decide (0<l.length) && decide (l.length≤16) && C8 (Lp l least most) l
theorem Aif (l:List Int) (least most:Int) (hl:Ar l):Sy.Spec Tryz.prog 199 [.sl 1 Aa l,Aa least,Aa most] [] (Ad (Dp l least most)) []:=Ab Γ hm 100 F199 Tryz.ntmps199 rfl fun F hF=>by
 unfold Ar at hl
 conv=>whnf
 refine A2 l.length (fun j=>Dd (Lp l least most) l j) (fun j=>[(0,.sl 1 Aa l),(1,Aa least),(2,Aa most),(9,.sl 1 Aa l),(10,Aa l.length),(11,Aa j)]) (fun _=>[]) [] (A5 _ _) ⟨⟨E,E,E,E,E,E,E,E,E,E,E,E,Y⟩,Y,E,E⟩ ?_
 intro j hj hI
 refine rg ?_;conv=>whnf
 (repeat' (first | (refine⟨fun h=>?_,fun h=>?_⟩<;>(repeat (first | simp only[decide_eq_true_eq]at h | simp only[decide_eq_false_iff_not]at h))<;>((refine rg ?_);(conv=>whnf);repeat((first|refine aF ?_|refine aT ?_);(refine rg ?_);(conv=>whnf)))) | (refine Ac rfl (.cons .tmp .nil) ?_ rfl) | (refine⟨qy,?_⟩;((conv=>whnf))) | (refine⟨by (first | (unfold I64;omega) | omega),by (omega),?_⟩;((conv=>whnf))) | (refine⟨by (unfold I64;omega),?_⟩;((conv=>whnf))) | refine Aw [] hI qn ?_ ⟨⟨rfl,rfl,rfl,rfl,rfl,rfl,rfl,rfl,rfl,rfl,rfl,rfl,trivial⟩,trivial,rfl,rfl⟩))
 all_goals try (refine congrArg Ad ?_)
 all_goals try simp only[Int.toNat_natCast,Int.pred_toNat]at *
 ·rw[Dp,Be (i:=j) qn (by simp[Lp];omega)];simp
 ·rw[Dp,Be (i:=j) qn (by simp[Lp];omega)];simp
 ·rw[Dp,Be (i:=j) qn (by simp only[Lp,Ao (show ((j:Int)-1).toNat<l.length by omega),Int.pred_toNat,Int.toNat_natCast];simp;omega)];simp
 ·exact A3 hI qn (by simp only[Lp,Ao (show ((j:Int)-1).toNat<l.length by omega),Int.pred_toNat,Int.toNat_natCast];simp;omega)
 ·exact A3 hI qn (by simp[Lp];omega)
 ·rw[Dp,Cc hI qn,Bool.eq_iff_iff];simp;omega
 ·rw[Dp];simp;omega
theorem Ach (l:List Int) (most:Int) (hl:Ar l):Sy.Spec Tryz.prog 129 [.sl 1 Aa l,Aa most] [] (Ad (decide (l.length=0) || Dp l 1 most)) []:=Ab Γ hm 100 F129 Tryz.ntmps129 rfl fun F hF=>by
 conv=>whnf
 (repeat' (first | (refine⟨fun h=>?_,fun h=>?_⟩<;>(repeat (first | simp only[beq_iff_eq]at h | simp only[beq_eq_false_iff_ne]at h))<;>((refine rg ?_);(conv=>whnf))) | (refine Ac rfl (.cons .tmp .nil) ?_ rfl) | (refine Ah (Aif l 1 most hl) F199 rfl rfl rfl rfl rfl ?_;((refine rg ?_);(conv=>whnf)))))
 all_goals (refine congrArg Ad ?_)
 all_goals grind
end Go.Sy.YtmelpejjondedaaGreat
