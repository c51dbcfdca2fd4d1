/-
  Sy22 Ty N1 R1 R2 R3 R5 R6 A5 A6 R7 R8 K0 Sy25 Sy26 Sy27 Sy28 Sh E1 N2: parts of a proof, joined by program.
-/
import Derived.Test.YteinjapglfkamaaGreatXD2
import Derived.Test.YteinjapglfkamaaGreatProg
import Derived.Laws.Bits64b
import Derived.ChangeKeysEq
import Derived.Below
import Derived.Lib.Join
import Derived.Lib.Strings
import Derived.Lib.Bytealg
namespace Go.Sy
mutual
def frb (d sz:Nat) (x:SV):SV→SV
 | .ptr k o=>bif Nat.beq k d then .ref sz x o else .ptr k o
 | .agg l=>.agg (Aet d sz x l)
 | .tup l=>.tup (Aet d sz x l)
 | .ifc t y=>.ifc t (frb d sz x y)
 | .clo f g l=>.clo f (Aet d sz x g) (Aet d sz x l)
 | y=>y
def Aet (d sz:Nat) (x:SV):List SV→List SV
 | []=>[]
 | y::l=>frb d sz x y::Aet d sz x l
end
mutual
theorem Aki {κ κ':Ka} {w:World} {K:Nat→Prop} {d sz:Nat} {x:SV} (st:Step K κ w κ' w) (hx:∀ o v,Rd κ w (.ptr d o) v→Rd κ' w (.ref sz x o) v):∀ (y:SV) (v:Value),Rd κ w y v→Rd κ' w (frb d sz x y) v
 | .ptr k o,v,h=>by
  unfold frb
  by_cases hk:k=d
  ·subst hk;rw[show Nat.beq k k=true from Nat.beq_refl k];exact hx o v h
  ·rw[show Nat.beq k d=false from by cases hb:Nat.beq k d with | false=>rfl | true=>exact absurd (Nat.eq_of_beq_eq_true hb) hk];exact Rd.step st _ _ h
 | .agg l,v,h=>by
  simp only[Rd]at h
  unfold frb
  simp only[Rd]
  obtain ⟨cs,h1,h2,h3⟩:=h
  exact⟨cs,h1,h2,Sh st hx l cs h3⟩
 | .tup l,v,h=>by
  simp only[Rd]at h
  unfold frb
  simp only[Rd]
  obtain ⟨cs,h1,h3⟩:=h
  exact⟨cs,h1,Sh st hx l cs h3⟩
 | .ifc t y,v,h=>by
  simp only[Rd]at h
  unfold frb
  simp only[Rd]
  obtain ⟨u,h1,h3⟩:=h
  exact⟨u,h1,Aki st hx y u h3⟩
 | .clo f g l,v,h=>by
  simp only[Rd]at h
  unfold frb
  simp only[Rd]
  obtain ⟨fs,cs,h1,h2,h3⟩:=h
  exact⟨fs,cs,h1,Sh st hx g fs h2,Sh st hx l cs h3⟩
 | .top,v,h=>by unfold frb;exact Rd.step st _ _ h
 | .val u,v,h=>by unfold frb;exact Rd.step st _ _ h
 | .sl sz e l,v,h=>by unfold frb;exact Rd.step st _ _ h
 | .ref sz z o,v,h=>by unfold frb;exact Rd.step st _ _ h
 | .rpt k sz i o,v,h=>by unfold frb;exact Rd.step st _ _ h
 | .osl k,v,h=>by unfold frb;exact Rd.step st _ _ h
theorem Sh {κ κ':Ka} {w:World} {K:Nat→Prop} {d sz:Nat} {x:SV} (st:Step K κ w κ' w) (hx:∀ o v,Rd κ w (.ptr d o) v→Rd κ' w (.ref sz x o) v):∀ (l:List SV) (vs:List Value),RdL κ w l vs→RdL κ' w (Aet d sz x l) vs
 | [],vs,h=>by
  unfold Aet
  simpa [RdL] using h
 | y::l,vs,h=>by
  simp only[RdL]at h
  unfold Aet
  simp only[RdL]
  obtain ⟨v,r,h1,h2,h3⟩:=h
  exact⟨v,r,h1,Aki st hx y v h2,Sh st hx l r h3⟩
end
def frbO (d sz:Nat) (x:SV):Ob→Ob
 | .box l=>.box (Aet d sz x l)
 | o=>o
theorem Ak1 {κ κ':Ka} {w:World} {d sz:Nat} {l:List SV} {x:SV} (h:ObOK κ w d (.box l)) (hl:cellsOf x=l) (hb:x.boxed=true) (_hd:Mm l=true) (hsz:l.length=sz) (ho:∀ b,b<w.heap.size→¬ Own κ b→¬ Own κ' b)
  (hdead:∀ b,(κ d).block? = some b→b<w.heap.size∧¬ Own κ' b) (hxd:x.data=true) (o:Nat) (v:Value) (hv:Rd κ w (.ptr d o) v):Rd κ' w (.ref sz x o) v:=by
 obtain ⟨b,cs,T,fr,e1,e2,e3,e4,e5⟩:=h
 simp only[Rd,e1]at hv
 obtain ⟨h1,h2⟩:=hdead b (by rw[e1];rfl)
 rw[← hl]at e5
 obtain ⟨u,f1,f2⟩:=Rd.of_cells hb e4 e5
 simp only[Rd,RdD]
 refine⟨b,0,u,by rw[Nat.zero_add];exact hv,h2,h1,RdD.keep ⟨Nat.le_refl _,fun _ _ _=>rfl,ho⟩ _ _ (Rd.data _ _ hxd f1),?_,by rw[f2];exact e4,fun j hj=>?_⟩
 ·have:=e5.length
  rw[← hsz,← hl,← this,← f2]
  simp
 ·rw[Nat.zero_add,cell_of_row w b _ cs.toArray T fr e2,← f2]
theorem A3 {C:Cx} {k:List KI} {s:SS} (d sz:Nat) (x:SV) {l:List SV} (h:s.h d=.box l) (hl:cellsOf x=l) (hc:(x.boxed && x.data && Mm l && Nat.beq l.length sz)=true)
  (hg:G C k ⟨fun i=>frb d sz x (s.σ i),fun j=>bif Nat.beq j d then .non else frbO d sz x (s.h j)⟩):G C k s:=fun κ a w hs=>by
 simp only[Bool.and_eq_true]at hc
 obtain ⟨⟨⟨hb,hxd⟩,hd⟩,hsz⟩:=hc
 have hsz:=Nat.eq_of_beq_eq_true hsz
 have hob:=hs.obj d
 rw[h]at hob
 have st:=Id (κ:=κ) (w:=w) (some d)
 have inv:=Js hs.inv (some d)
 have hx:∀ o v,Rd κ w (.ptr d o) v→Rd (Dl κ d .dead) w (.ref sz x o) v:=fun o v hv =>
  Ak1 hob hl hb hd hsz st.keeps.out (fun b hb=>⟨hs.inv.bnd d b hb,by
   rintro (⟨q,hq⟩ | hq)
   ·by_cases hqd:q=d
    ·subst hqd;change (Dl κ q .dead q).block? = some b at hq;rw[Az]at hq;cases hq
    ·change (Dl κ d .dead q).block? = some b at hq
     rw[Ce _ _ hqd]at hq
     exact hqd (hs.inv.inj q d b hq hb)
   ·exact hs.inv.apart d b hb hq⟩) hxd o v hv
 refine hg (Dl κ d .dead) a w ⟨hs.defers,hs.size,inv,hs.ctx.step inv st,fun j=>Aki st hx _ _ (hs.slot j),fun j=>?_⟩
 show ObOK _ w j (bif Nat.beq j d then .non else frbO d sz x (s.h j))
 by_cases hj:j=d
 ·subst hj;rw[show Nat.beq j j=true from Nat.beq_refl j];trivial
 ·rw[show Nat.beq j d=false from by cases hb:Nat.beq j d with | false=>rfl | true=>exact absurd (Nat.eq_of_beq_eq_true hb) hj]
  have hb:=ObOK.step st (fun e=>hj (Option.some.inj e).symm) _ (hs.obj j)
  have h0:=hs.obj j
  show ObOK _ w j (frbO d sz x (s.h j))
  cases hh:s.h j with
  | box m =>
   rw[hh]at h0 hb
   obtain ⟨b,cs,T,fr,e1,e2,e3,e4,e5⟩:=h0
   exact⟨b,cs,T,fr,by show Dl κ d .dead j=_;rw[Ce _ _ hj];exact e1,e2,e3,e4,Sh st hx m cs e5⟩
  | fresh=>rw[hh]at hb;exact hb
  | non=>rw[hh]at hb;exact hb
  | row sz' e' l'=>rw[hh]at hb;exact hb
  | lit sz' svs=>rw[hh]at hb;exact hb
  | glob sz' x' g'=>rw[hh]at hb;exact hb
  | pin b' n' cap' sz' e' l'=>rw[hh]at hb;exact hb
  | dat v' sz' e' l'=>rw[hh]at hb;exact hb
theorem Am {C:Cx} {k:List KI} {s:SS} (d sz:Nat) {α:Type} (e:α→SV) (h:s.σ d=.val (.slice none 0 0)) (hg:G C k ⟨upd s.σ d (.sl sz e []),s.h⟩):G C k s :=
 G_set d (fun κ w v hv=>by
  rw[h]at hv
  simp only[Rd]at hv
  simp only[Rd,RdD]
  exact .inl ⟨Y,none,0,hv⟩) hg
end Go.Sy
namespace Go.Sy.YteinjapglfkamaaGreat
open Go.Proofs
set_option maxRecDepth 100000
theorem ty1:Bj Tryz.prog 1=some ⟨.func,1,[.nilFunc]⟩:=by kernel_rfl
theorem ty2:Bj Tryz.prog 2=some ⟨.int .i64,1,[.int .i64 0]⟩:=by kernel_rfl
theorem ty3:Bj Tryz.prog 3=some ⟨.int .i64,1,[.int .i64 0]⟩:=by kernel_rfl
theorem ty4:Bj Tryz.prog 4=some ⟨.bool,1,[.bool false]⟩:=by kernel_rfl
theorem ty5:Bj Tryz.prog 5=some ⟨.int .u8,1,[.int .u8 0]⟩:=by kernel_rfl
theorem ty9:Bj Tryz.prog 9=some ⟨.string,1,[.string .empty]⟩:=by kernel_rfl
theorem ty20:Bj Tryz.prog 20=some ⟨.iface,1,[.nilIface]⟩:=by kernel_rfl
theorem ty22:Bj Tryz.prog 22=some ⟨.slice 77 5 48 [.int .i64 0,.int .i64 0,.string .empty,.int .u64 0,.int .u32 0],1,[.slice none 0 0]⟩:=by kernel_rfl
theorem ty23:Bj Tryz.prog 23=some ⟨.slice 67 7 80 [.int .i64 0,.int .i64 0,.int .i64 0,.int .i64 0,.int .i64 0,.string .empty,.slice none 0 0],1,[.slice none 0 0]⟩:=by kernel_rfl
theorem ty24:Bj Tryz.prog 24=some ⟨.slice 167 3 24 [.int .i64 0,.int .i64 0,.int .i64 0],1,[.slice none 0 0]⟩:=by kernel_rfl
theorem ty25:Bj Tryz.prog 25=some ⟨.slice 69 6 64 [.int .i64 0,.int .i64 0,.int .i64 0,.int .i64 0,.int .i64 0,.slice none 0 0],1,[.slice none 0 0]⟩:=by kernel_rfl
theorem ty26:Bj Tryz.prog 26=some ⟨.slice 171 4 32 [.int .i64 0,.int .i64 0,.int .i64 0,.int .u64 0],1,[.slice none 0 0]⟩:=by kernel_rfl
theorem ty27:Bj Tryz.prog 27=some ⟨.slice 72 4 48 [.int .i64 0,.int .i64 0,.int .i64 0,.slice none 0 0],1,[.slice none 0 0]⟩:=by kernel_rfl
theorem ty28:Bj Tryz.prog 28=some ⟨.slice 74 5 80 [.int .i64 0,.int .i64 0,.string .empty,.slice none 0 0,.slice none 0 0],1,[.slice none 0 0]⟩:=by kernel_rfl
theorem ty29:Bj Tryz.prog 29=some ⟨.slice 119 5 40 [.int .i64 0,.int .i64 0,.int .i64 0,.int .u32 0,.int .i64 0],1,[.slice none 0 0]⟩:=by kernel_rfl
theorem ty31:Bj Tryz.prog 31=some ⟨.struct [(0,1),(1,1),(2,1),(3,1),(4,1),(5,1),(6,1),(7,1)],8,[.slice none 0 0,.slice none 0 0,.slice none 0 0,.slice none 0 0,.slice none 0 0,.slice none 0 0,.slice none 0 0,.slice none 0 0]⟩:=by kernel_rfl
theorem ty43:Bj Tryz.prog 43=some ⟨.slice 5 1 1 [.int .u8 0],1,[.slice none 0 0]⟩:=by kernel_rfl
theorem ty44:Bj Tryz.prog 44=some ⟨.int .i64,1,[.int .i64 0]⟩:=by kernel_rfl
theorem ty50:Bj Tryz.prog 50=some ⟨.slice 80 6 80 [.int .i64 0,.int .i64 0,.int .i64 0,.int .i64 0,.slice none 0 0,.slice none 0 0],1,[.slice none 0 0]⟩:=by kernel_rfl
theorem ty56:Bj Tryz.prog 56=some ⟨.slice 3 1 8 [.int .i64 0],1,[.slice none 0 0]⟩:=by kernel_rfl
theorem ty57:Bj Tryz.prog 57=some ⟨.int .u64,1,[.int .u64 0]⟩:=by kernel_rfl
theorem ty59:Bj Tryz.prog 59=some ⟨.struct [(0,1),(1,1),(2,1),(3,1),(4,1)],5,[.int .i64 0,.int .i64 0,.int .i64 0,.int .i64 0,.slice none 0 0]⟩:=by kernel_rfl
theorem ty62:Bj Tryz.prog 62=some ⟨.struct [(0,1),(1,1),(2,1),(3,1),(4,1)],5,[.int .i64 0,.int .i64 0,.int .i64 0,.int .i64 0,.slice none 0 0]⟩:=by kernel_rfl
theorem ty67:Bj Tryz.prog 67=some ⟨.struct [(0,1),(1,1),(2,1),(3,1),(4,1),(5,1),(6,1)],7,[.int .i64 0,.int .i64 0,.int .i64 0,.int .i64 0,.int .i64 0,.string .empty,.slice none 0 0]⟩:=by kernel_rfl
theorem ty69:Bj Tryz.prog 69=some ⟨.struct [(0,1),(1,1),(2,1),(3,1),(4,1),(5,1)],6,[.int .i64 0,.int .i64 0,.int .i64 0,.int .i64 0,.int .i64 0,.slice none 0 0]⟩:=by kernel_rfl
theorem ty70:Bj Tryz.prog 70=some ⟨.slice 75 1 4 [.int .u32 0],1,[.slice none 0 0]⟩:=by kernel_rfl
theorem ty72:Bj Tryz.prog 72=some ⟨.struct [(0,1),(1,1),(2,1),(3,1)],4,[.int .i64 0,.int .i64 0,.int .i64 0,.slice none 0 0]⟩:=by kernel_rfl
theorem ty74:Bj Tryz.prog 74=some ⟨.struct [(0,1),(1,1),(2,1),(3,1),(4,1)],5,[.int .i64 0,.int .i64 0,.string .empty,.slice none 0 0,.slice none 0 0]⟩:=by kernel_rfl
theorem ty75:Bj Tryz.prog 75=some ⟨.int .u32,1,[.int .u32 0]⟩:=by kernel_rfl
theorem ty77:Bj Tryz.prog 77=some ⟨.struct [(0,1),(1,1),(2,1),(3,1),(4,1)],5,[.int .i64 0,.int .i64 0,.string .empty,.int .u64 0,.int .u32 0]⟩:=by kernel_rfl
theorem ty78:Bj Tryz.prog 78=some ⟨.slice 4 1 1 [.bool false],1,[.slice none 0 0]⟩:=by kernel_rfl
theorem ty80:Bj Tryz.prog 80=some ⟨.struct [(0,1),(1,1),(2,1),(3,1),(4,1),(5,1)],6,[.int .i64 0,.int .i64 0,.int .i64 0,.int .i64 0,.slice none 0 0,.slice none 0 0]⟩:=by kernel_rfl
theorem ty110:Bj Tryz.prog 110=some ⟨.struct [(0,1),(1,1),(2,1),(3,1)],4,[.int .u64 0,.int .u64 0,.int .i64 0,.slice none 0 0]⟩:=by kernel_rfl
theorem ty115:Bj Tryz.prog 115=some ⟨.struct [(0,1),(1,1),(2,1),(3,1),(4,1),(5,1),(6,1)],7,[.int .i64 0,.int .i64 0,.int .i64 0,.int .i64 0,.int .u32 0,.int .u32 0,.slice none 0 0]⟩:=by kernel_rfl
theorem ty117:Bj Tryz.prog 117=some ⟨.struct [(0,1),(1,1)],2,[.int .u32 0,.int .i64 0]⟩:=by kernel_rfl
theorem ty119:Bj Tryz.prog 119=some ⟨.struct [(0,1),(1,1),(2,1),(3,2)],5,[.int .i64 0,.int .i64 0,.int .i64 0,.int .u32 0,.int .i64 0]⟩:=by kernel_rfl
theorem ty122:Bj Tryz.prog 122=some ⟨.func,1,[.nilFunc]⟩:=by kernel_rfl
theorem ty125:Bj Tryz.prog 125=some ⟨.ptr,1,[.pointer none]⟩:=by kernel_rfl
theorem ty128:Bj Tryz.prog 128=some ⟨.slice 263 3 40 [.int .i64 0,.int .i64 0,.slice none 0 0],1,[.slice none 0 0]⟩:=by kernel_rfl
theorem ty132:Bj Tryz.prog 132=some ⟨.slice 229 7 72 [.int .i64 0,.int .i64 0,.int .i64 0,.int .u64 0,.int .u64 0,.int .i64 0,.slice none 0 0],1,[.slice none 0 0]⟩:=by kernel_rfl
theorem ty135:Bj Tryz.prog 135=some ⟨.ptr,1,[.pointer none]⟩:=by kernel_rfl
theorem ty145:Bj Tryz.prog 145=some ⟨.ptr,1,[.pointer none]⟩:=by kernel_rfl
theorem ty146:Bj Tryz.prog 146=some ⟨.func,1,[.nilFunc]⟩:=by kernel_rfl
theorem ty153:Bj Tryz.prog 153=some ⟨.ptr,1,[.pointer none]⟩:=by kernel_rfl
theorem ty155:Bj Tryz.prog 155=some ⟨.struct [(0,1)],1,[.int .u64 0]⟩:=by kernel_rfl
theorem ty160:Bj Tryz.prog 160=some ⟨.struct [(0,8)],8,[.slice none 0 0,.slice none 0 0,.slice none 0 0,.slice none 0 0,.slice none 0 0,.slice none 0 0,.slice none 0 0,.slice none 0 0]⟩:=by kernel_rfl
theorem ty162:Bj Tryz.prog 162=some ⟨.func,1,[.nilFunc]⟩:=by kernel_rfl
theorem ty164:Bj Tryz.prog 164=some ⟨.func,1,[.nilFunc]⟩:=by kernel_rfl
theorem ty167:Bj Tryz.prog 167=some ⟨.struct [(0,1),(1,1),(2,1)],3,[.int .i64 0,.int .i64 0,.int .i64 0]⟩:=by kernel_rfl
theorem ty168:Bj Tryz.prog 168=some ⟨.func,1,[.nilFunc]⟩:=by kernel_rfl
theorem ty171:Bj Tryz.prog 171=some ⟨.struct [(0,1),(1,1),(2,1),(3,1)],4,[.int .i64 0,.int .i64 0,.int .i64 0,.int .u64 0]⟩:=by kernel_rfl
theorem ty172:Bj Tryz.prog 172=some ⟨.func,1,[.nilFunc]⟩:=by kernel_rfl
theorem ty175:Bj Tryz.prog 175=some ⟨.func,1,[.nilFunc]⟩:=by kernel_rfl
theorem ty177:Bj Tryz.prog 177=some ⟨.func,1,[.nilFunc]⟩:=by kernel_rfl
theorem ty179:Bj Tryz.prog 179=some ⟨.func,1,[.nilFunc]⟩:=by kernel_rfl
theorem ty195:Bj Tryz.prog 195=some ⟨.int .u64,1,[.int .u64 0]⟩:=by kernel_rfl
theorem ty204:Bj Tryz.prog 204=some ⟨.ptr,1,[.pointer none]⟩:=by kernel_rfl
theorem ty209:Bj Tryz.prog 209=some ⟨.struct [(0,0),(0,1)],1,[.int .u32 0]⟩:=by kernel_rfl
theorem ty213:Bj Tryz.prog 213=some ⟨.struct [(0,0),(0,2)],2,[.int .i32 0,.int .u32 0]⟩:=by kernel_rfl
theorem ty215:Bj Tryz.prog 215=some ⟨.struct [(0,0),(0,1),(1,2)],3,[.int .u32 0,.int .i32 0,.int .u32 0]⟩:=by kernel_rfl
theorem ty217:Bj Tryz.prog 217=some ⟨.struct [(0,1),(1,3),(4,1)],5,[.slice none 0 0,.int .u32 0,.int .i32 0,.int .u32 0,.slice none 0 0]⟩:=by kernel_rfl
theorem ty218:Bj Tryz.prog 218=some ⟨.slice 251 1 24 [.slice none 0 0],1,[.slice none 0 0]⟩:=by kernel_rfl
theorem ty219:Bj Tryz.prog 219=some ⟨.slice 132 1 24 [.slice none 0 0],1,[.slice none 0 0]⟩:=by kernel_rfl
theorem ty222:Bj Tryz.prog 222=some ⟨.struct [(0,0),(0,0),(0,1)],1,[.int .i64 0]⟩:=by kernel_rfl
theorem ty223:Bj Tryz.prog 223=some ⟨.array 222 64 1,64,[.int .i64 0,.int .i64 0,.int .i64 0,.int .i64 0,.int .i64 0,.int .i64 0,.int .i64 0,.int .i64 0,.int .i64 0,.int .i64 0,.int .i64 0,.int .i64 0,.int .i64 0,.int .i64 0,.int .i64 0,.int .i64 0,.int .i64 0,.int .i64 0,.int .i64 0,.int .i64 0,.int .i64 0,.int .i64 0,.int .i64 0,.int .i64 0,.int .i64 0,.int .i64 0,.int .i64 0,.int .i64 0,.int .i64 0,.int .i64 0,.int .i64 0,.int .i64 0,.int .i64 0,.int .i64 0,.int .i64 0,.int .i64 0,.int .i64 0,.int .i64 0,.int .i64 0,.int .i64 0,.int .i64 0,.int .i64 0,.int .i64 0,.int .i64 0,.int .i64 0,.int .i64 0,.int .i64 0,.int .i64 0,.int .i64 0,.int .i64 0,.int .i64 0,.int .i64 0,.int .i64 0,.int .i64 0,.int .i64 0,.int .i64 0,.int .i64 0,.int .i64 0,.int .i64 0,.int .i64 0,.int .i64 0,.int .i64 0,.int .i64 0,.int .i64 0]⟩:=by kernel_rfl
theorem ty225:Bj Tryz.prog 225=some ⟨.struct [(0,8),(8,1),(9,1),(10,1),(11,1),(12,1),(13,64)],77,[.slice none 0 0,.slice none 0 0,.slice none 0 0,.slice none 0 0,.slice none 0 0,.slice none 0 0,.slice none 0 0,.slice none 0 0,.pointer none,.slice none 0 0,.slice none 0 0,.int .i64 0,.int .i64 0,.int .i64 0,.int .i64 0,.int .i64 0,.int .i64 0,.int .i64 0,.int .i64 0,.int .i64 0,.int .i64 0,.int .i64 0,.int .i64 0,.int .i64 0,.int .i64 0,.int .i64 0,.int .i64 0,.int .i64 0,.int .i64 0,.int .i64 0,.int .i64 0,.int .i64 0,.int .i64 0,.int .i64 0,.int .i64 0,.int .i64 0,.int .i64 0,.int .i64 0,.int .i64 0,.int .i64 0,.int .i64 0,.int .i64 0,.int .i64 0,.int .i64 0,.int .i64 0,.int .i64 0,.int .i64 0,.int .i64 0,.int .i64 0,.int .i64 0,.int .i64 0,.int .i64 0,.int .i64 0,.int .i64 0,.int .i64 0,.int .i64 0,.int .i64 0,.int .i64 0,.int .i64 0,.int .i64 0,.int .i64 0,.int .i64 0,.int .i64 0,.int .i64 0,.int .i64 0,.int .i64 0,.int .i64 0,.int .i64 0,.int .i64 0,.int .i64 0,.int .i64 0,.int .i64 0,.int .i64 0,.int .i64 0,.int .i64 0,.int .i64 0,.int .i64 0]⟩:=by kernel_rfl
theorem ty229:Bj Tryz.prog 229=some ⟨.struct [(0,1),(1,1),(2,1),(3,4)],7,[.int .i64 0,.int .i64 0,.int .i64 0,.int .u64 0,.int .u64 0,.int .i64 0,.slice none 0 0]⟩:=by kernel_rfl
theorem ty233:Bj Tryz.prog 233=some ⟨.func,1,[.nilFunc]⟩:=by kernel_rfl
theorem ty239:Bj Tryz.prog 239=some ⟨.array 3 64 1,64,[.int .i64 0,.int .i64 0,.int .i64 0,.int .i64 0,.int .i64 0,.int .i64 0,.int .i64 0,.int .i64 0,.int .i64 0,.int .i64 0,.int .i64 0,.int .i64 0,.int .i64 0,.int .i64 0,.int .i64 0,.int .i64 0,.int .i64 0,.int .i64 0,.int .i64 0,.int .i64 0,.int .i64 0,.int .i64 0,.int .i64 0,.int .i64 0,.int .i64 0,.int .i64 0,.int .i64 0,.int .i64 0,.int .i64 0,.int .i64 0,.int .i64 0,.int .i64 0,.int .i64 0,.int .i64 0,.int .i64 0,.int .i64 0,.int .i64 0,.int .i64 0,.int .i64 0,.int .i64 0,.int .i64 0,.int .i64 0,.int .i64 0,.int .i64 0,.int .i64 0,.int .i64 0,.int .i64 0,.int .i64 0,.int .i64 0,.int .i64 0,.int .i64 0,.int .i64 0,.int .i64 0,.int .i64 0,.int .i64 0,.int .i64 0,.int .i64 0,.int .i64 0,.int .i64 0,.int .i64 0,.int .i64 0,.int .i64 0,.int .i64 0,.int .i64 0]⟩:=by kernel_rfl
theorem ty241:Bj Tryz.prog 241=some ⟨.struct [(0,8),(8,1),(9,1),(10,1),(11,1),(12,1),(13,64)],77,[.slice none 0 0,.slice none 0 0,.slice none 0 0,.slice none 0 0,.slice none 0 0,.slice none 0 0,.slice none 0 0,.slice none 0 0,.slice none 0 0,.slice none 0 0,.slice none 0 0,.int .i64 0,.int .i64 0,.int .i64 0,.int .i64 0,.int .i64 0,.int .i64 0,.int .i64 0,.int .i64 0,.int .i64 0,.int .i64 0,.int .i64 0,.int .i64 0,.int .i64 0,.int .i64 0,.int .i64 0,.int .i64 0,.int .i64 0,.int .i64 0,.int .i64 0,.int .i64 0,.int .i64 0,.int .i64 0,.int .i64 0,.int .i64 0,.int .i64 0,.int .i64 0,.int .i64 0,.int .i64 0,.int .i64 0,.int .i64 0,.int .i64 0,.int .i64 0,.int .i64 0,.int .i64 0,.int .i64 0,.int .i64 0,.int .i64 0,.int .i64 0,.int .i64 0,.int .i64 0,.int .i64 0,.int .i64 0,.int .i64 0,.int .i64 0,.int .i64 0,.int .i64 0,.int .i64 0,.int .i64 0,.int .i64 0,.int .i64 0,.int .i64 0,.int .i64 0,.int .i64 0,.int .i64 0,.int .i64 0,.int .i64 0,.int .i64 0,.int .i64 0,.int .i64 0,.int .i64 0,.int .i64 0,.int .i64 0,.int .i64 0,.int .i64 0,.int .i64 0,.int .i64 0]⟩:=by kernel_rfl
theorem ty251:Bj Tryz.prog 251=some ⟨.slice 327 3 24 [.int .u64 0,.int .i64 0,.int .i64 0],1,[.slice none 0 0]⟩:=by kernel_rfl
theorem ty253:Bj Tryz.prog 253=some ⟨.func,1,[.nilFunc]⟩:=by kernel_rfl
theorem ty255:Bj Tryz.prog 255=some ⟨.struct [(0,8),(8,1),(9,1)],10,[.slice none 0 0,.slice none 0 0,.slice none 0 0,.slice none 0 0,.slice none 0 0,.slice none 0 0,.slice none 0 0,.slice none 0 0,.slice none 0 0,.nilFunc]⟩:=by kernel_rfl
theorem ty258:Bj Tryz.prog 258=some ⟨.struct [(0,8),(8,1),(9,1)],10,[.slice none 0 0,.slice none 0 0,.slice none 0 0,.slice none 0 0,.slice none 0 0,.slice none 0 0,.slice none 0 0,.slice none 0 0,.slice none 0 0,.slice none 0 0]⟩:=by kernel_rfl
theorem ty263:Bj Tryz.prog 263=some ⟨.struct [(0,1),(1,1),(2,1)],3,[.int .i64 0,.int .i64 0,.slice none 0 0]⟩:=by kernel_rfl
theorem ty265:Bj Tryz.prog 265=some ⟨.func,1,[.nilFunc]⟩:=by kernel_rfl
theorem ty273:Bj Tryz.prog 273=some ⟨.func,1,[.nilFunc]⟩:=by kernel_rfl
theorem ty280:Bj Tryz.prog 280=some ⟨.ptr,1,[.pointer none]⟩:=by kernel_rfl
theorem ty298:Bj Tryz.prog 298=some ⟨.slice 304 9 104 [.int .i64 0,.int .i64 0,.int .i64 0,.slice none 0 0,.int .u64 0,.int .u64 0,.int .i64 0,.slice none 0 0,.int .i64 0],1,[.slice none 0 0]⟩:=by kernel_rfl
theorem ty304:Bj Tryz.prog 304=some ⟨.struct [(0,1),(1,1),(2,1),(3,1),(4,4),(8,1)],9,[.int .i64 0,.int .i64 0,.int .i64 0,.slice none 0 0,.int .u64 0,.int .u64 0,.int .i64 0,.slice none 0 0,.int .i64 0]⟩:=by kernel_rfl
theorem ty319:Bj Tryz.prog 319=some ⟨.slice 324 9 104 [.int .i64 0,.int .i64 0,.int .i64 0,.slice none 0 0,.int .u64 0,.int .u64 0,.int .i64 0,.slice none 0 0,.int .i64 0],1,[.slice none 0 0]⟩:=by kernel_rfl
theorem ty324:Bj Tryz.prog 324=some ⟨.struct [(0,1),(1,1),(2,1),(3,1),(4,4),(8,1)],9,[.int .i64 0,.int .i64 0,.int .i64 0,.slice none 0 0,.int .u64 0,.int .u64 0,.int .i64 0,.slice none 0 0,.int .i64 0]⟩:=by kernel_rfl
theorem ty327:Bj Tryz.prog 327=some ⟨.struct [(0,1),(1,1),(2,1)],3,[.int .u64 0,.int .i64 0,.int .i64 0]⟩:=by kernel_rfl
theorem ty345:Bj Tryz.prog 345=some ⟨.struct [(0,8),(8,1),(9,1),(10,1),(11,1)],12,[.slice none 0 0,.slice none 0 0,.slice none 0 0,.slice none 0 0,.slice none 0 0,.slice none 0 0,.slice none 0 0,.slice none 0 0,.slice none 0 0,.slice none 0 0,.slice none 0 0,.slice none 0 0]⟩:=by kernel_rfl
theorem ty363:Bj Tryz.prog 363=some ⟨.func,1,[.nilFunc]⟩:=by kernel_rfl
theorem ty366:Bj Tryz.prog 366=some ⟨.ptr,1,[.pointer none]⟩:=by kernel_rfl
theorem ty370:Bj Tryz.prog 370=some ⟨.struct [(0,1),(1,1),(2,1),(3,1),(4,1)],5,[.int .i64 0,.int .i64 0,.int .i64 0,.int .i64 0,.int .i64 0]⟩:=by kernel_rfl
theorem ty371:Bj Tryz.prog 371=some ⟨.slice 370 5 40 [.int .i64 0,.int .i64 0,.int .i64 0,.int .i64 0,.int .i64 0],1,[.slice none 0 0]⟩:=by kernel_rfl
theorem ty373:Bj Tryz.prog 373=some ⟨.struct [(0,8),(8,1),(9,1),(10,1)],11,[.slice none 0 0,.slice none 0 0,.slice none 0 0,.slice none 0 0,.slice none 0 0,.slice none 0 0,.slice none 0 0,.slice none 0 0,.slice none 0 0,.slice none 0 0,.slice none 0 0]⟩:=by kernel_rfl
theorem ty393:Bj Tryz.prog 393=some ⟨.func,1,[.nilFunc]⟩:=by kernel_rfl
theorem ty397:Bj Tryz.prog 397=some ⟨.ptr,1,[.pointer none]⟩:=by kernel_rfl
theorem ty399:Bj Tryz.prog 399=some ⟨.slice 402 3 24 [.int .i64 0,.int .i64 0,.int .i64 0],1,[.slice none 0 0]⟩:=by kernel_rfl
theorem ty402:Bj Tryz.prog 402=some ⟨.struct [(0,1),(1,1),(2,1)],3,[.int .i64 0,.int .i64 0,.int .i64 0]⟩:=by kernel_rfl
theorem ty405:Bj Tryz.prog 405=some ⟨.slice 406 5 40 [.int .i64 0,.int .i64 0,.int .i64 0,.int .i64 0,.int .i64 0],1,[.slice none 0 0]⟩:=by kernel_rfl
theorem ty406:Bj Tryz.prog 406=some ⟨.struct [(0,1),(1,1),(2,1),(3,1),(4,1)],5,[.int .i64 0,.int .i64 0,.int .i64 0,.int .i64 0,.int .i64 0]⟩:=by kernel_rfl
theorem ty410:Bj Tryz.prog 410=some ⟨.ptr,1,[.pointer none]⟩:=by kernel_rfl
theorem ty415:Bj Tryz.prog 415=some ⟨.struct [(0,8),(8,1),(9,1),(10,1),(11,1)],12,[.slice none 0 0,.slice none 0 0,.slice none 0 0,.slice none 0 0,.slice none 0 0,.slice none 0 0,.slice none 0 0,.slice none 0 0,.slice none 0 0,.int .i64 0,.int .i64 0,.slice none 0 0]⟩:=by kernel_rfl
theorem ty423:Bj Tryz.prog 423=some ⟨.struct [(0,8)],8,[.slice none 0 0,.slice none 0 0,.slice none 0 0,.slice none 0 0,.slice none 0 0,.slice none 0 0,.slice none 0 0,.slice none 0 0]⟩:=by kernel_rfl
theorem ty427:Bj Tryz.prog 427=some ⟨.ptr,1,[.pointer none]⟩:=by kernel_rfl
theorem ty428:Bj Tryz.prog 428=some ⟨.ptr,1,[.pointer none]⟩:=by kernel_rfl
theorem ty430:Bj Tryz.prog 430=some ⟨.ptr,1,[.pointer none]⟩:=by kernel_rfl
theorem ty455:Bj Tryz.prog 455=some ⟨.iface,1,[.nilIface]⟩:=by kernel_rfl
theorem ty470:Bj Tryz.prog 470=some ⟨.ptr,1,[.pointer none]⟩:=by kernel_rfl
theorem ty472:Bj Tryz.prog 472=some ⟨.ptr,1,[.pointer none]⟩:=by kernel_rfl
theorem ty474:Bj Tryz.prog 474=some ⟨.ptr,1,[.pointer none]⟩:=by kernel_rfl
theorem ty476:Bj Tryz.prog 476=some ⟨.struct [(0,7),(7,1)],8,[.int .i64 0,.int .i64 0,.int .i64 0,.int .i64 0,.int .u32 0,.int .u32 0,.slice none 0 0,.int .i64 0]⟩:=by kernel_rfl
theorem ty478:Bj Tryz.prog 478=some ⟨.struct [(0,8),(8,1)],9,[.int .i64 0,.int .i64 0,.int .i64 0,.int .i64 0,.int .u32 0,.int .u32 0,.slice none 0 0,.int .i64 0,.int .i64 0]⟩:=by kernel_rfl
theorem ty481:Bj Tryz.prog 481=some ⟨.func,1,[.nilFunc]⟩:=by kernel_rfl
theorem ty491:Bj Tryz.prog 491=some ⟨.array 3 4 1,4,[.int .i64 0,.int .i64 0,.int .i64 0,.int .i64 0]⟩:=by kernel_rfl
theorem ty502:Bj Tryz.prog 502=some ⟨.func,1,[.nilFunc]⟩:=by kernel_rfl
theorem tq77:Oq Tryz.prog 77=some [.int .i64,.int .i64,.string,.int .u64,.int .u32]:=by kernel_rfl
theorem tq117:Oq Tryz.prog 117=some [.int .u32,.int .i64]:=by kernel_rfl
theorem tq155:Oq Tryz.prog 155=some [.int .u64]:=by kernel_rfl
theorem tq167:Oq Tryz.prog 167=some [.int .i64,.int .i64,.int .i64]:=by kernel_rfl
theorem tq171:Oq Tryz.prog 171=some [.int .i64,.int .i64,.int .i64,.int .u64]:=by kernel_rfl
theorem tq327:Oq Tryz.prog 327=some [.int .u64,.int .i64,.int .i64]:=by kernel_rfl
theorem tq370:Oq Tryz.prog 370=some [.int .i64,.int .i64,.int .i64,.int .i64,.int .i64]:=by kernel_rfl
theorem tq402:Oq Tryz.prog 402=some [.int .i64,.int .i64,.int .i64]:=by kernel_rfl
theorem tq406:Oq Tryz.prog 406=some [.int .i64,.int .i64,.int .i64,.int .i64,.int .i64]:=by kernel_rfl
def tab:Tr TI:=(.nd 195 (⟨.int .u64,1,[.int .u64 0]⟩) (.nd 74 (⟨.struct [(0,1),(1,1),(2,1),(3,1),(4,1)],5,[.int .i64 0,.int .i64 0,.string .empty,.slice none 0 0,.slice none 0 0]⟩) (.nd 28 (⟨.slice 74 5 80 [.int .i64 0,.int .i64 0,.string .empty,.slice none 0 0,.slice none 0 0],1,[.slice none 0 0]⟩) (.nd 20 (⟨.iface,1,[.nilIface]⟩) (.nd 4 (⟨.bool,1,[.bool false]⟩) (.nd 2 (⟨.int .i64,1,[.int .i64 0]⟩) (.nd 1 (⟨.func,1,[.nilFunc]⟩) .lf .lf) (.nd 3 (⟨.int .i64,1,[.int .i64 0]⟩) .lf .lf)) (.nd 9 (⟨.string,1,[.string .empty]⟩) (.nd 5 (⟨.int .u8,1,[.int .u8 0]⟩) .lf .lf) .lf)) (.nd 25 (⟨.slice 69 6 64 [.int .i64 0,.int .i64 0,.int .i64 0,.int .i64 0,.int .i64 0,.slice none 0 0],1,[.slice none 0 0]⟩) (.nd 23 (⟨.slice 67 7 80 [.int .i64 0,.int .i64 0,.int .i64 0,.int .i64 0,.int .i64 0,.string .empty,.slice none 0 0],1,[.slice none 0 0]⟩) (.nd 22 (⟨.slice 77 5 48 [.int .i64 0,.int .i64 0,.string .empty,.int .u64 0,.int .u32 0],1,[.slice none 0 0]⟩) .lf .lf) (.nd 24 (⟨.slice 167 3 24 [.int .i64 0,.int .i64 0,.int .i64 0],1,[.slice none 0 0]⟩) .lf .lf)) (.nd 27 (⟨.slice 72 4 48 [.int .i64 0,.int .i64 0,.int .i64 0,.slice none 0 0],1,[.slice none 0 0]⟩) (.nd 26 (⟨.slice 171 4 32 [.int .i64 0,.int .i64 0,.int .i64 0,.int .u64 0],1,[.slice none 0 0]⟩) .lf .lf) .lf))) (.nd 57 (⟨.int .u64,1,[.int .u64 0]⟩) (.nd 44 (⟨.int .i64,1,[.int .i64 0]⟩) (.nd 31 (⟨.struct [(0,1),(1,1),(2,1),(3,1),(4,1),(5,1),(6,1),(7,1)],8,[.slice none 0 0,.slice none 0 0,.slice none 0 0,.slice none 0 0,.slice none 0 0,.slice none 0 0,.slice none 0 0,.slice none 0 0]⟩) (.nd 29 (⟨.slice 119 5 40 [.int .i64 0,.int .i64 0,.int .i64 0,.int .u32 0,.int .i64 0],1,[.slice none 0 0]⟩) .lf .lf) (.nd 43 (⟨.slice 5 1 1 [.int .u8 0],1,[.slice none 0 0]⟩) .lf .lf)) (.nd 56 (⟨.slice 3 1 8 [.int .i64 0],1,[.slice none 0 0]⟩) (.nd 50 (⟨.slice 80 6 80 [.int .i64 0,.int .i64 0,.int .i64 0,.int .i64 0,.slice none 0 0,.slice none 0 0],1,[.slice none 0 0]⟩) .lf .lf) .lf)) (.nd 69 (⟨.struct [(0,1),(1,1),(2,1),(3,1),(4,1),(5,1)],6,[.int .i64 0,.int .i64 0,.int .i64 0,.int .i64 0,.int .i64 0,.slice none 0 0]⟩) (.nd 62 (⟨.struct [(0,1),(1,1),(2,1),(3,1),(4,1)],5,[.int .i64 0,.int .i64 0,.int .i64 0,.int .i64 0,.slice none 0 0]⟩) (.nd 59 (⟨.struct [(0,1),(1,1),(2,1),(3,1),(4,1)],5,[.int .i64 0,.int .i64 0,.int .i64 0,.int .i64 0,.slice none 0 0]⟩) .lf .lf) (.nd 67 (⟨.struct [(0,1),(1,1),(2,1),(3,1),(4,1),(5,1),(6,1)],7,[.int .i64 0,.int .i64 0,.int .i64 0,.int .i64 0,.int .i64 0,.string .empty,.slice none 0 0]⟩) .lf .lf)) (.nd 72 (⟨.struct [(0,1),(1,1),(2,1),(3,1)],4,[.int .i64 0,.int .i64 0,.int .i64 0,.slice none 0 0]⟩) (.nd 70 (⟨.slice 75 1 4 [.int .u32 0],1,[.slice none 0 0]⟩) .lf .lf) .lf)))) (.nd 145 (⟨.ptr,1,[.pointer none]⟩) (.nd 117 (⟨.struct [(0,1),(1,1)],2,[.int .u32 0,.int .i64 0]⟩) (.nd 80 (⟨.struct [(0,1),(1,1),(2,1),(3,1),(4,1),(5,1)],6,[.int .i64 0,.int .i64 0,.int .i64 0,.int .i64 0,.slice none 0 0,.slice none 0 0]⟩) (.nd 77 (⟨.struct [(0,1),(1,1),(2,1),(3,1),(4,1)],5,[.int .i64 0,.int .i64 0,.string .empty,.int .u64 0,.int .u32 0]⟩) (.nd 75 (⟨.int .u32,1,[.int .u32 0]⟩) .lf .lf) (.nd 78 (⟨.slice 4 1 1 [.bool false],1,[.slice none 0 0]⟩) .lf .lf)) (.nd 115 (⟨.struct [(0,1),(1,1),(2,1),(3,1),(4,1),(5,1),(6,1)],7,[.int .i64 0,.int .i64 0,.int .i64 0,.int .i64 0,.int .u32 0,.int .u32 0,.slice none 0 0]⟩) (.nd 110 (⟨.struct [(0,1),(1,1),(2,1),(3,1)],4,[.int .u64 0,.int .u64 0,.int .i64 0,.slice none 0 0]⟩) .lf .lf) .lf)) (.nd 128 (⟨.slice 263 3 40 [.int .i64 0,.int .i64 0,.slice none 0 0],1,[.slice none 0 0]⟩) (.nd 122 (⟨.func,1,[.nilFunc]⟩) (.nd 119 (⟨.struct [(0,1),(1,1),(2,1),(3,2)],5,[.int .i64 0,.int .i64 0,.int .i64 0,.int .u32 0,.int .i64 0]⟩) .lf .lf) (.nd 125 (⟨.ptr,1,[.pointer none]⟩) .lf .lf)) (.nd 135 (⟨.ptr,1,[.pointer none]⟩) (.nd 132 (⟨.slice 229 7 72 [.int .i64 0,.int .i64 0,.int .i64 0,.int .u64 0,.int .u64 0,.int .i64 0,.slice none 0 0],1,[.slice none 0 0]⟩) .lf .lf) .lf))) (.nd 167 (⟨.struct [(0,1),(1,1),(2,1)],3,[.int .i64 0,.int .i64 0,.int .i64 0]⟩) (.nd 160 (⟨.struct [(0,8)],8,[.slice none 0 0,.slice none 0 0,.slice none 0 0,.slice none 0 0,.slice none 0 0,.slice none 0 0,.slice none 0 0,.slice none 0 0]⟩) (.nd 153 (⟨.ptr,1,[.pointer none]⟩) (.nd 146 (⟨.func,1,[.nilFunc]⟩) .lf .lf) (.nd 155 (⟨.struct [(0,1)],1,[.int .u64 0]⟩) .lf .lf)) (.nd 164 (⟨.func,1,[.nilFunc]⟩) (.nd 162 (⟨.func,1,[.nilFunc]⟩) .lf .lf) .lf)) (.nd 175 (⟨.func,1,[.nilFunc]⟩) (.nd 171 (⟨.struct [(0,1),(1,1),(2,1),(3,1)],4,[.int .i64 0,.int .i64 0,.int .i64 0,.int .u64 0]⟩) (.nd 168 (⟨.func,1,[.nilFunc]⟩) .lf .lf) (.nd 172 (⟨.func,1,[.nilFunc]⟩) .lf .lf)) (.nd 179 (⟨.func,1,[.nilFunc]⟩) (.nd 177 (⟨.func,1,[.nilFunc]⟩) .lf .lf) .lf))))) (.nd 345 (⟨.struct [(0,8),(8,1),(9,1),(10,1),(11,1)],12,[.slice none 0 0,.slice none 0 0,.slice none 0 0,.slice none 0 0,.slice none 0 0,.slice none 0 0,.slice none 0 0,.slice none 0 0,.slice none 0 0,.slice none 0 0,.slice none 0 0,.slice none 0 0]⟩) (.nd 241 (⟨.struct [(0,8),(8,1),(9,1),(10,1),(11,1),(12,1),(13,64)],77,[.slice none 0 0,.slice none 0 0,.slice none 0 0,.slice none 0 0,.slice none 0 0,.slice none 0 0,.slice none 0 0,.slice none 0 0,.slice none 0 0,.slice none 0 0,.slice none 0 0,.int .i64 0,.int .i64 0,.int .i64 0,.int .i64 0,.int .i64 0,.int .i64 0,.int .i64 0,.int .i64 0,.int .i64 0,.int .i64 0,.int .i64 0,.int .i64 0,.int .i64 0,.int .i64 0,.int .i64 0,.int .i64 0,.int .i64 0,.int .i64 0,.int .i64 0,.int .i64 0,.int .i64 0,.int .i64 0,.int .i64 0,.int .i64 0,.int .i64 0,.int .i64 0,.int .i64 0,.int .i64 0,.int .i64 0,.int .i64 0,.int .i64 0,.int .i64 0,.int .i64 0,.int .i64 0,.int .i64 0,.int .i64 0,.int .i64 0,.int .i64 0,.int .i64 0,.int .i64 0,.int .i64 0,.int .i64 0,.int .i64 0,.int .i64 0,.int .i64 0,.int .i64 0,.int .i64 0,.int .i64 0,.int .i64 0,.int .i64 0,.int .i64 0,.int .i64 0,.int .i64 0,.int .i64 0,.int .i64 0,.int .i64 0,.int .i64 0,.int .i64 0,.int .i64 0,.int .i64 0,.int .i64 0,.int .i64 0,.int .i64 0,.int .i64 0,.int .i64 0,.int .i64 0]⟩) (.nd 219 (⟨.slice 132 1 24 [.slice none 0 0],1,[.slice none 0 0]⟩) (.nd 215 (⟨.struct [(0,0),(0,1),(1,2)],3,[.int .u32 0,.int .i32 0,.int .u32 0]⟩) (.nd 209 (⟨.struct [(0,0),(0,1)],1,[.int .u32 0]⟩) (.nd 204 (⟨.ptr,1,[.pointer none]⟩) .lf .lf) (.nd 213 (⟨.struct [(0,0),(0,2)],2,[.int .i32 0,.int .u32 0]⟩) .lf .lf)) (.nd 218 (⟨.slice 251 1 24 [.slice none 0 0],1,[.slice none 0 0]⟩) (.nd 217 (⟨.struct [(0,1),(1,3),(4,1)],5,[.slice none 0 0,.int .u32 0,.int .i32 0,.int .u32 0,.slice none 0 0]⟩) .lf .lf) .lf)) (.nd 229 (⟨.struct [(0,1),(1,1),(2,1),(3,4)],7,[.int .i64 0,.int .i64 0,.int .i64 0,.int .u64 0,.int .u64 0,.int .i64 0,.slice none 0 0]⟩) (.nd 223 (⟨.array 222 64 1,64,[.int .i64 0,.int .i64 0,.int .i64 0,.int .i64 0,.int .i64 0,.int .i64 0,.int .i64 0,.int .i64 0,.int .i64 0,.int .i64 0,.int .i64 0,.int .i64 0,.int .i64 0,.int .i64 0,.int .i64 0,.int .i64 0,.int .i64 0,.int .i64 0,.int .i64 0,.int .i64 0,.int .i64 0,.int .i64 0,.int .i64 0,.int .i64 0,.int .i64 0,.int .i64 0,.int .i64 0,.int .i64 0,.int .i64 0,.int .i64 0,.int .i64 0,.int .i64 0,.int .i64 0,.int .i64 0,.int .i64 0,.int .i64 0,.int .i64 0,.int .i64 0,.int .i64 0,.int .i64 0,.int .i64 0,.int .i64 0,.int .i64 0,.int .i64 0,.int .i64 0,.int .i64 0,.int .i64 0,.int .i64 0,.int .i64 0,.int .i64 0,.int .i64 0,.int .i64 0,.int .i64 0,.int .i64 0,.int .i64 0,.int .i64 0,.int .i64 0,.int .i64 0,.int .i64 0,.int .i64 0,.int .i64 0,.int .i64 0,.int .i64 0,.int .i64 0]⟩) (.nd 222 (⟨.struct [(0,0),(0,0),(0,1)],1,[.int .i64 0]⟩) .lf .lf) (.nd 225 (⟨.struct [(0,8),(8,1),(9,1),(10,1),(11,1),(12,1),(13,64)],77,[.slice none 0 0,.slice none 0 0,.slice none 0 0,.slice none 0 0,.slice none 0 0,.slice none 0 0,.slice none 0 0,.slice none 0 0,.pointer none,.slice none 0 0,.slice none 0 0,.int .i64 0,.int .i64 0,.int .i64 0,.int .i64 0,.int .i64 0,.int .i64 0,.int .i64 0,.int .i64 0,.int .i64 0,.int .i64 0,.int .i64 0,.int .i64 0,.int .i64 0,.int .i64 0,.int .i64 0,.int .i64 0,.int .i64 0,.int .i64 0,.int .i64 0,.int .i64 0,.int .i64 0,.int .i64 0,.int .i64 0,.int .i64 0,.int .i64 0,.int .i64 0,.int .i64 0,.int .i64 0,.int .i64 0,.int .i64 0,.int .i64 0,.int .i64 0,.int .i64 0,.int .i64 0,.int .i64 0,.int .i64 0,.int .i64 0,.int .i64 0,.int .i64 0,.int .i64 0,.int .i64 0,.int .i64 0,.int .i64 0,.int .i64 0,.int .i64 0,.int .i64 0,.int .i64 0,.int .i64 0,.int .i64 0,.int .i64 0,.int .i64 0,.int .i64 0,.int .i64 0,.int .i64 0,.int .i64 0,.int .i64 0,.int .i64 0,.int .i64 0,.int .i64 0,.int .i64 0,.int .i64 0,.int .i64 0,.int .i64 0,.int .i64 0,.int .i64 0,.int .i64 0]⟩) .lf .lf)) (.nd 239 (⟨.array 3 64 1,64,[.int .i64 0,.int .i64 0,.int .i64 0,.int .i64 0,.int .i64 0,.int .i64 0,.int .i64 0,.int .i64 0,.int .i64 0,.int .i64 0,.int .i64 0,.int .i64 0,.int .i64 0,.int .i64 0,.int .i64 0,.int .i64 0,.int .i64 0,.int .i64 0,.int .i64 0,.int .i64 0,.int .i64 0,.int .i64 0,.int .i64 0,.int .i64 0,.int .i64 0,.int .i64 0,.int .i64 0,.int .i64 0,.int .i64 0,.int .i64 0,.int .i64 0,.int .i64 0,.int .i64 0,.int .i64 0,.int .i64 0,.int .i64 0,.int .i64 0,.int .i64 0,.int .i64 0,.int .i64 0,.int .i64 0,.int .i64 0,.int .i64 0,.int .i64 0,.int .i64 0,.int .i64 0,.int .i64 0,.int .i64 0,.int .i64 0,.int .i64 0,.int .i64 0,.int .i64 0,.int .i64 0,.int .i64 0,.int .i64 0,.int .i64 0,.int .i64 0,.int .i64 0,.int .i64 0,.int .i64 0,.int .i64 0,.int .i64 0,.int .i64 0,.int .i64 0]⟩) (.nd 233 (⟨.func,1,[.nilFunc]⟩) .lf .lf) .lf))) (.nd 273 (⟨.func,1,[.nilFunc]⟩) (.nd 258 (⟨.struct [(0,8),(8,1),(9,1)],10,[.slice none 0 0,.slice none 0 0,.slice none 0 0,.slice none 0 0,.slice none 0 0,.slice none 0 0,.slice none 0 0,.slice none 0 0,.slice none 0 0,.slice none 0 0]⟩) (.nd 253 (⟨.func,1,[.nilFunc]⟩) (.nd 251 (⟨.slice 327 3 24 [.int .u64 0,.int .i64 0,.int .i64 0],1,[.slice none 0 0]⟩) .lf .lf) (.nd 255 (⟨.struct [(0,8),(8,1),(9,1)],10,[.slice none 0 0,.slice none 0 0,.slice none 0 0,.slice none 0 0,.slice none 0 0,.slice none 0 0,.slice none 0 0,.slice none 0 0,.slice none 0 0,.nilFunc]⟩) .lf .lf)) (.nd 265 (⟨.func,1,[.nilFunc]⟩) (.nd 263 (⟨.struct [(0,1),(1,1),(2,1)],3,[.int .i64 0,.int .i64 0,.slice none 0 0]⟩) .lf .lf) .lf)) (.nd 319 (⟨.slice 324 9 104 [.int .i64 0,.int .i64 0,.int .i64 0,.slice none 0 0,.int .u64 0,.int .u64 0,.int .i64 0,.slice none 0 0,.int .i64 0],1,[.slice none 0 0]⟩) (.nd 298 (⟨.slice 304 9 104 [.int .i64 0,.int .i64 0,.int .i64 0,.slice none 0 0,.int .u64 0,.int .u64 0,.int .i64 0,.slice none 0 0,.int .i64 0],1,[.slice none 0 0]⟩) (.nd 280 (⟨.ptr,1,[.pointer none]⟩) .lf .lf) (.nd 304 (⟨.struct [(0,1),(1,1),(2,1),(3,1),(4,4),(8,1)],9,[.int .i64 0,.int .i64 0,.int .i64 0,.slice none 0 0,.int .u64 0,.int .u64 0,.int .i64 0,.slice none 0 0,.int .i64 0]⟩) .lf .lf)) (.nd 327 (⟨.struct [(0,1),(1,1),(2,1)],3,[.int .u64 0,.int .i64 0,.int .i64 0]⟩) (.nd 324 (⟨.struct [(0,1),(1,1),(2,1),(3,1),(4,4),(8,1)],9,[.int .i64 0,.int .i64 0,.int .i64 0,.slice none 0 0,.int .u64 0,.int .u64 0,.int .i64 0,.slice none 0 0,.int .i64 0]⟩) .lf .lf) .lf)))) (.nd 423 (⟨.struct [(0,8)],8,[.slice none 0 0,.slice none 0 0,.slice none 0 0,.slice none 0 0,.slice none 0 0,.slice none 0 0,.slice none 0 0,.slice none 0 0]⟩) (.nd 397 (⟨.ptr,1,[.pointer none]⟩) (.nd 371 (⟨.slice 370 5 40 [.int .i64 0,.int .i64 0,.int .i64 0,.int .i64 0,.int .i64 0],1,[.slice none 0 0]⟩) (.nd 366 (⟨.ptr,1,[.pointer none]⟩) (.nd 363 (⟨.func,1,[.nilFunc]⟩) .lf .lf) (.nd 370 (⟨.struct [(0,1),(1,1),(2,1),(3,1),(4,1)],5,[.int .i64 0,.int .i64 0,.int .i64 0,.int .i64 0,.int .i64 0]⟩) .lf .lf)) (.nd 393 (⟨.func,1,[.nilFunc]⟩) (.nd 373 (⟨.struct [(0,8),(8,1),(9,1),(10,1)],11,[.slice none 0 0,.slice none 0 0,.slice none 0 0,.slice none 0 0,.slice none 0 0,.slice none 0 0,.slice none 0 0,.slice none 0 0,.slice none 0 0,.slice none 0 0,.slice none 0 0]⟩) .lf .lf) .lf)) (.nd 406 (⟨.struct [(0,1),(1,1),(2,1),(3,1),(4,1)],5,[.int .i64 0,.int .i64 0,.int .i64 0,.int .i64 0,.int .i64 0]⟩) (.nd 402 (⟨.struct [(0,1),(1,1),(2,1)],3,[.int .i64 0,.int .i64 0,.int .i64 0]⟩) (.nd 399 (⟨.slice 402 3 24 [.int .i64 0,.int .i64 0,.int .i64 0],1,[.slice none 0 0]⟩) .lf .lf) (.nd 405 (⟨.slice 406 5 40 [.int .i64 0,.int .i64 0,.int .i64 0,.int .i64 0,.int .i64 0],1,[.slice none 0 0]⟩) .lf .lf)) (.nd 415 (⟨.struct [(0,8),(8,1),(9,1),(10,1),(11,1)],12,[.slice none 0 0,.slice none 0 0,.slice none 0 0,.slice none 0 0,.slice none 0 0,.slice none 0 0,.slice none 0 0,.slice none 0 0,.slice none 0 0,.int .i64 0,.int .i64 0,.slice none 0 0]⟩) (.nd 410 (⟨.ptr,1,[.pointer none]⟩) .lf .lf) .lf))) (.nd 474 (⟨.ptr,1,[.pointer none]⟩) (.nd 455 (⟨.iface,1,[.nilIface]⟩) (.nd 428 (⟨.ptr,1,[.pointer none]⟩) (.nd 427 (⟨.ptr,1,[.pointer none]⟩) .lf .lf) (.nd 430 (⟨.ptr,1,[.pointer none]⟩) .lf .lf)) (.nd 472 (⟨.ptr,1,[.pointer none]⟩) (.nd 470 (⟨.ptr,1,[.pointer none]⟩) .lf .lf) .lf)) (.nd 481 (⟨.func,1,[.nilFunc]⟩) (.nd 478 (⟨.struct [(0,8),(8,1)],9,[.int .i64 0,.int .i64 0,.int .i64 0,.int .i64 0,.int .u32 0,.int .u32 0,.slice none 0 0,.int .i64 0,.int .i64 0]⟩) (.nd 476 (⟨.struct [(0,7),(7,1)],8,[.int .i64 0,.int .i64 0,.int .i64 0,.int .i64 0,.int .u32 0,.int .u32 0,.slice none 0 0,.int .i64 0]⟩) .lf .lf) .lf) (.nd 502 (⟨.func,1,[.nilFunc]⟩) (.nd 491 (⟨.array 3 4 1,4,[.int .i64 0,.int .i64 0,.int .i64 0,.int .i64 0]⟩) .lf .lf) .lf))))))
def etab:Tr (List EK):=(.nd 171 ([.int .i64,.int .i64,.int .i64,.int .u64]) (.nd 155 ([.int .u64]) (.nd 117 ([.int .u32,.int .i64]) (.nd 77 ([.int .i64,.int .i64,.string,.int .u64,.int .u32]) .lf .lf) .lf) (.nd 167 ([.int .i64,.int .i64,.int .i64]) .lf .lf)) (.nd 402 ([.int .i64,.int .i64,.int .i64]) (.nd 370 ([.int .i64,.int .i64,.int .i64,.int .i64,.int .i64]) (.nd 327 ([.int .u64,.int .i64,.int .i64]) .lf .lf) .lf) (.nd 406 ([.int .i64,.int .i64,.int .i64,.int .i64,.int .i64]) .lf .lf)))
theorem tab_ok:tab.all (fun t i=>Bj Tryz.prog t=some i):=⟨ty195,⟨ty74,⟨ty28,⟨ty20,⟨ty4,⟨ty2,⟨ty1,trivial,trivial⟩,⟨ty3,trivial,trivial⟩⟩,⟨ty9,⟨ty5,trivial,trivial⟩,trivial⟩⟩,⟨ty25,⟨ty23,⟨ty22,trivial,trivial⟩,⟨ty24,trivial,trivial⟩⟩,⟨ty27,⟨ty26,trivial,trivial⟩,trivial⟩⟩⟩,⟨ty57,⟨ty44,⟨ty31,⟨ty29,trivial,trivial⟩,⟨ty43,trivial,trivial⟩⟩,⟨ty56,⟨ty50,trivial,trivial⟩,trivial⟩⟩,⟨ty69,⟨ty62,⟨ty59,trivial,trivial⟩,⟨ty67,trivial,trivial⟩⟩,⟨ty72,⟨ty70,trivial,trivial⟩,trivial⟩⟩⟩⟩,⟨ty145,⟨ty117,⟨ty80,⟨ty77,⟨ty75,trivial,trivial⟩,⟨ty78,trivial,trivial⟩⟩,⟨ty115,⟨ty110,trivial,trivial⟩,trivial⟩⟩,⟨ty128,⟨ty122,⟨ty119,trivial,trivial⟩,⟨ty125,trivial,trivial⟩⟩,⟨ty135,⟨ty132,trivial,trivial⟩,trivial⟩⟩⟩,⟨ty167,⟨ty160,⟨ty153,⟨ty146,trivial,trivial⟩,⟨ty155,trivial,trivial⟩⟩,⟨ty164,⟨ty162,trivial,trivial⟩,trivial⟩⟩,⟨ty175,⟨ty171,⟨ty168,trivial,trivial⟩,⟨ty172,trivial,trivial⟩⟩,⟨ty179,⟨ty177,trivial,trivial⟩,trivial⟩⟩⟩⟩⟩,⟨ty345,⟨ty241,⟨ty219,⟨ty215,⟨ty209,⟨ty204,trivial,trivial⟩,⟨ty213,trivial,trivial⟩⟩,⟨ty218,⟨ty217,trivial,trivial⟩,trivial⟩⟩,⟨ty229,⟨ty223,⟨ty222,trivial,trivial⟩,⟨ty225,trivial,trivial⟩⟩,⟨ty239,⟨ty233,trivial,trivial⟩,trivial⟩⟩⟩,⟨ty273,⟨ty258,⟨ty253,⟨ty251,trivial,trivial⟩,⟨ty255,trivial,trivial⟩⟩,⟨ty265,⟨ty263,trivial,trivial⟩,trivial⟩⟩,⟨ty319,⟨ty298,⟨ty280,trivial,trivial⟩,⟨ty304,trivial,trivial⟩⟩,⟨ty327,⟨ty324,trivial,trivial⟩,trivial⟩⟩⟩⟩,⟨ty423,⟨ty397,⟨ty371,⟨ty366,⟨ty363,trivial,trivial⟩,⟨ty370,trivial,trivial⟩⟩,⟨ty393,⟨ty373,trivial,trivial⟩,trivial⟩⟩,⟨ty406,⟨ty402,⟨ty399,trivial,trivial⟩,⟨ty405,trivial,trivial⟩⟩,⟨ty415,⟨ty410,trivial,trivial⟩,trivial⟩⟩⟩,⟨ty474,⟨ty455,⟨ty428,⟨ty427,trivial,trivial⟩,⟨ty430,trivial,trivial⟩⟩,⟨ty472,⟨ty470,trivial,trivial⟩,trivial⟩⟩,⟨ty481,⟨ty478,⟨ty476,trivial,trivial⟩,trivial⟩,⟨ty502,⟨ty491,trivial,trivial⟩,trivial⟩⟩⟩⟩⟩⟩
theorem Ath:etab.all (fun t i=>Oq Tryz.prog t=some i):=⟨tq171,⟨tq155,⟨tq117,⟨tq77,trivial,trivial⟩,trivial⟩,⟨tq167,trivial,trivial⟩⟩,⟨tq402,⟨tq370,⟨tq327,trivial,trivial⟩,trivial⟩,⟨tq406,trivial,trivial⟩⟩⟩
def Γ:TyE Tryz.prog:=⟨⟨fun t=>tab.look t,fun _ _ h=>Ask (Tr.look_ok tab_ok h)⟩,fun t=>etab.look t,fun _ _ h=>Arh (Tr.look_ok Ath h)⟩
theorem hm:Tryz.prog.follows .mixedOrders=true:=by kernel_rfl
abbrev fT (i:Nat) (fn:Func):Prop:=Fun Tryz.prog i fn (Ak2 fn)
theorem fN {P : Program} {f : FuncId} {fn : Func} (h : P.funcs[f]? = some fn) (hb : fn.body = some (Ak2 fn) := by exact rfl) (hn : (fn.name == "runtime.NumGoroutine") = false := by kernel_rfl) : Fun P f fn (Ak2 fn) := ⟨h, hb, hn⟩
theorem cT {f:FuncId} {fn:Func} {c:Code} {A:List SV} {H:Obs} {R:SV} {H':Obs} (hF:Fun Tryz.prog f fn c) {n:Nat} (hn':fn.ntmps=n)
  (h:∀ (F:Fr) (hF:∀ k,F.k0 k≠.new→k∈H.keys),L1 ⟨Tryz.prog,Γ.toTy,F,n,Ud Tryz.prog fn F R H',H.keys,hF⟩ Γ 100 [.code c] ⟨argσ A,mkh H⟩) (hn:Alv A n=true:=by exact rfl):Sy.Spec Tryz.prog f A H R H':=B9 Γ hm 100 hF hn' hn h
theorem F6:fT 6 Tryz.f6:=fN Tryz.func6
theorem F7:fT 7 Tryz.f7:=fN Tryz.func7
theorem F10:fT 10 Tryz.f10:=fN Tryz.func10
theorem F18:fT 18 Tryz.f18:=fN Tryz.func18
theorem F19:fT 19 Tryz.f19:=fN Tryz.func19
theorem F20:fT 20 Tryz.f20:=fN Tryz.func20
theorem F21:fT 21 Tryz.f21:=fN Tryz.func21
theorem F23:fT 23 Tryz.f23:=fN Tryz.func23
theorem F25:fT 25 Tryz.f25:=fN Tryz.func25
theorem F26:fT 26 Tryz.f26:=fN Tryz.func26
theorem F29:fT 29 Tryz.f29:=fN Tryz.func29
theorem F30:fT 30 Tryz.f30:=fN Tryz.func30
theorem F31:fT 31 Tryz.f31:=fN Tryz.func31
theorem F32:fT 32 Tryz.f32:=fN Tryz.func32
theorem F35:fT 35 Tryz.f35:=fN Tryz.func35
theorem F36:fT 36 Tryz.f36:=fN Tryz.func36
theorem F37:fT 37 Tryz.f37:=fN Tryz.func37
theorem F43:fT 43 Tryz.f43:=fN Tryz.func43
theorem F44:fT 44 Tryz.f44:=fN Tryz.func44
theorem F45:fT 45 Tryz.f45:=fN Tryz.func45
theorem F46:fT 46 Tryz.f46:=fN Tryz.func46
theorem F47:fT 47 Tryz.f47:=fN Tryz.func47
theorem F48:fT 48 Tryz.f48:=fN Tryz.func48
theorem F49:fT 49 Tryz.f49:=fN Tryz.func49
theorem F50:fT 50 Tryz.f50:=fN Tryz.func50
theorem F52:fT 52 Tryz.f52:=fN Tryz.func52
theorem F56:fT 56 Tryz.f56:=fN Tryz.func56
theorem F58:fT 58 Tryz.f58:=fN Tryz.func58
theorem F60:fT 60 Tryz.f60:=fN Tryz.func60
theorem F61:fT 61 Tryz.f61:=fN Tryz.func61
theorem F62:fT 62 Tryz.f62:=fN Tryz.func62
theorem F63:fT 63 Tryz.f63:=fN Tryz.func63
theorem F64:fT 64 Tryz.f64:=fN Tryz.func64
theorem F65:fT 65 Tryz.f65:=fN Tryz.func65
theorem F66:fT 66 Tryz.f66:=fN Tryz.func66
theorem F67:fT 67 Tryz.f67:=fN Tryz.func67
theorem F68:fT 68 Tryz.f68:=fN Tryz.func68
theorem F69:fT 69 Tryz.f69:=fN Tryz.func69
theorem F70:fT 70 Tryz.f70:=fN Tryz.func70
theorem F71:fT 71 Tryz.f71:=fN Tryz.func71
theorem F72:fT 72 Tryz.f72:=fN Tryz.func72
theorem F73:fT 73 Tryz.f73:=fN Tryz.func73
theorem F74:fT 74 Tryz.f74:=fN Tryz.func74
theorem F75:fT 75 Tryz.f75:=fN Tryz.func75
theorem F76:fT 76 Tryz.f76:=fN Tryz.func76
theorem F77:fT 77 Tryz.f77:=fN Tryz.func77
theorem F78:fT 78 Tryz.f78:=fN Tryz.func78
theorem F79:fT 79 Tryz.f79:=fN Tryz.func79
theorem F80:fT 80 Tryz.f80:=fN Tryz.func80
theorem F81:fT 81 Tryz.f81:=fN Tryz.func81
theorem F82:fT 82 Tryz.f82:=fN Tryz.func82
theorem F83:fT 83 Tryz.f83:=fN Tryz.func83
theorem F84:fT 84 Tryz.f84:=fN Tryz.func84
theorem F85:fT 85 Tryz.f85:=fN Tryz.func85
theorem F86:fT 86 Tryz.f86:=fN Tryz.func86
theorem F87:fT 87 Tryz.f87:=fN Tryz.func87
theorem F88:fT 88 Tryz.f88:=fN Tryz.func88
theorem F89:fT 89 Tryz.f89:=fN Tryz.func89
theorem F91:fT 91 Tryz.f91:=fN Tryz.func91
theorem F92:fT 92 Tryz.f92:=fN Tryz.func92
theorem F93:fT 93 Tryz.f93:=fN Tryz.func93
theorem F97:fT 97 Tryz.f97:=fN Tryz.func97
theorem F98:fT 98 Tryz.f98:=fN Tryz.func98
theorem F99:fT 99 Tryz.f99:=fN Tryz.func99
theorem F103:fT 103 Tryz.f103:=fN Tryz.func103
theorem F104:fT 104 Tryz.f104:=fN Tryz.func104
theorem F105:fT 105 Tryz.f105:=fN Tryz.func105
theorem F106:fT 106 Tryz.f106:=fN Tryz.func106
theorem F107:fT 107 Tryz.f107:=fN Tryz.func107
theorem F108:fT 108 Tryz.f108:=fN Tryz.func108
theorem F109:fT 109 Tryz.f109:=fN Tryz.func109
theorem F110:fT 110 Tryz.f110:=fN Tryz.func110
theorem F111:fT 111 Tryz.f111:=fN Tryz.func111
theorem F112:fT 112 Tryz.f112:=fN Tryz.func112
theorem F113:fT 113 Tryz.f113:=fN Tryz.func113
theorem F114:fT 114 Tryz.f114:=fN Tryz.func114
theorem F115:fT 115 Tryz.f115:=fN Tryz.func115
theorem F116:fT 116 Tryz.f116:=fN Tryz.func116
theorem F117:fT 117 Tryz.f117:=fN Tryz.func117
theorem F118:fT 118 Tryz.f118:=fN Tryz.func118
theorem F119:fT 119 Tryz.f119:=fN Tryz.func119
theorem F120:fT 120 Tryz.f120:=fN Tryz.func120
theorem F121:fT 121 Tryz.f121:=fN Tryz.func121
theorem F122:fT 122 Tryz.f122:=fN Tryz.func122
theorem F123:fT 123 Tryz.f123:=fN Tryz.func123
theorem F124:fT 124 Tryz.f124:=fN Tryz.func124
theorem F125:fT 125 Tryz.f125:=fN Tryz.func125
theorem F126:fT 126 Tryz.f126:=fN Tryz.func126
theorem F127:fT 127 Tryz.f127:=fN Tryz.func127
theorem F128:fT 128 Tryz.f128:=fN Tryz.func128
theorem F129:fT 129 Tryz.f129:=fN Tryz.func129
theorem F130:fT 130 Tryz.f130:=fN Tryz.func130
theorem F131:fT 131 Tryz.f131:=fN Tryz.func131
theorem F132:fT 132 Tryz.f132:=fN Tryz.func132
theorem F133:fT 133 Tryz.f133:=fN Tryz.func133
theorem F134:fT 134 Tryz.f134:=fN Tryz.func134
theorem F135:fT 135 Tryz.f135:=fN Tryz.func135
theorem F136:fT 136 Tryz.f136:=fN Tryz.func136
theorem F137:fT 137 Tryz.f137:=fN Tryz.func137
theorem F138:fT 138 Tryz.f138:=fN Tryz.func138
theorem F139:fT 139 Tryz.f139:=fN Tryz.func139
theorem F140:fT 140 Tryz.f140:=fN Tryz.func140
theorem F141:fT 141 Tryz.f141:=fN Tryz.func141
theorem F142:fT 142 Tryz.f142:=fN Tryz.func142
theorem F143:fT 143 Tryz.f143:=fN Tryz.func143
theorem F144:fT 144 Tryz.f144:=fN Tryz.func144
theorem F145:fT 145 Tryz.f145:=fN Tryz.func145
theorem F146:fT 146 Tryz.f146:=fN Tryz.func146
theorem F147:fT 147 Tryz.f147:=fN Tryz.func147
theorem F151:fT 151 Tryz.f151:=fN Tryz.func151
theorem F153:fT 153 Tryz.f153:=fN Tryz.func153
theorem F154:fT 154 Tryz.f154:=fN Tryz.func154
theorem F156:fT 156 Tryz.f156:=fN Tryz.func156
theorem F157:fT 157 Tryz.f157:=fN Tryz.func157
theorem F158:fT 158 Tryz.f158:=fN Tryz.func158
theorem F159:fT 159 Tryz.f159:=fN Tryz.func159
theorem F160:fT 160 Tryz.f160:=fN Tryz.func160
theorem F161:fT 161 Tryz.f161:=fN Tryz.func161
theorem F162:fT 162 Tryz.f162:=fN Tryz.func162
theorem F163:fT 163 Tryz.f163:=fN Tryz.func163
theorem F164:fT 164 Tryz.f164:=fN Tryz.func164
theorem F165:fT 165 Tryz.f165:=fN Tryz.func165
theorem F166:fT 166 Tryz.f166:=fN Tryz.func166
theorem F167:fT 167 Tryz.f167:=fN Tryz.func167
theorem F168:fT 168 Tryz.f168:=fN Tryz.func168
theorem F169:fT 169 Tryz.f169:=fN Tryz.func169
theorem F170:fT 170 Tryz.f170:=fN Tryz.func170
theorem F171:fT 171 Tryz.f171:=fN Tryz.func171
theorem F172:fT 172 Tryz.f172:=fN Tryz.func172
theorem F173:fT 173 Tryz.f173:=fN Tryz.func173
theorem F174:fT 174 Tryz.f174:=fN Tryz.func174
theorem F175:fT 175 Tryz.f175:=fN Tryz.func175
theorem F176:fT 176 Tryz.f176:=fN Tryz.func176
theorem F177:fT 177 Tryz.f177:=fN Tryz.func177
theorem F178:fT 178 Tryz.f178:=fN Tryz.func178
theorem F179:fT 179 Tryz.f179:=fN Tryz.func179
theorem F180:fT 180 Tryz.f180:=fN Tryz.func180
theorem F181:fT 181 Tryz.f181:=fN Tryz.func181
theorem F182:fT 182 Tryz.f182:=fN Tryz.func182
theorem F183:fT 183 Tryz.f183:=fN Tryz.func183
theorem F184:fT 184 Tryz.f184:=fN Tryz.func184
theorem F185:fT 185 Tryz.f185:=fN Tryz.func185
theorem F186:fT 186 Tryz.f186:=fN Tryz.func186
theorem F187:fT 187 Tryz.f187:=fN Tryz.func187
theorem F188:fT 188 Tryz.f188:=fN Tryz.func188
theorem F189:fT 189 Tryz.f189:=fN Tryz.func189
theorem F190:fT 190 Tryz.f190:=fN Tryz.func190
theorem F191:fT 191 Tryz.f191:=fN Tryz.func191
theorem F192:fT 192 Tryz.f192:=fN Tryz.func192
theorem F193:fT 193 Tryz.f193:=fN Tryz.func193
theorem F194:fT 194 Tryz.f194:=fN Tryz.func194
theorem F195:fT 195 Tryz.f195:=fN Tryz.func195
theorem F196:fT 196 Tryz.f196:=fN Tryz.func196
theorem F197:fT 197 Tryz.f197:=fN Tryz.func197
theorem F198:fT 198 Tryz.f198:=fN Tryz.func198
theorem F199:fT 199 Tryz.f199:=fN Tryz.func199
theorem F200:fT 200 Tryz.f200:=fN Tryz.func200
theorem F201:fT 201 Tryz.f201:=fN Tryz.func201
theorem F202:fT 202 Tryz.f202:=fN Tryz.func202
theorem F203:fT 203 Tryz.f203:=fN Tryz.func203
theorem F205:fT 205 Tryz.f205:=fN Tryz.func205
theorem F211:fT 211 Tryz.f211:=fN Tryz.func211
theorem F212:fT 212 Tryz.f212:=fN Tryz.func212
theorem F213:fT 213 Tryz.f213:=fN Tryz.func213
theorem F214:fT 214 Tryz.f214:=fN Tryz.func214
theorem F216:fT 216 Tryz.f216:=fN Tryz.func216
theorem F218:fT 218 Tryz.f218:=fN Tryz.func218
theorem F219:fT 219 Tryz.f219:=fN Tryz.func219
theorem F220:fT 220 Tryz.f220:=fN Tryz.func220
theorem F221:fT 221 Tryz.f221:=fN Tryz.func221
theorem F222:fT 222 Tryz.f222:=fN Tryz.func222
theorem F223:fT 223 Tryz.f223:=fN Tryz.func223
theorem F224:fT 224 Tryz.f224:=fN Tryz.func224
theorem F225:fT 225 Tryz.f225:=fN Tryz.func225
theorem F226:fT 226 Tryz.f226:=fN Tryz.func226
theorem F227:fT 227 Tryz.f227:=fN Tryz.func227
theorem F228:fT 228 Tryz.f228:=fN Tryz.func228
theorem F229:fT 229 Tryz.f229:=fN Tryz.func229
theorem F230:fT 230 Tryz.f230:=fN Tryz.func230
theorem F231:fT 231 Tryz.f231:=fN Tryz.func231
theorem F232:fT 232 Tryz.f232:=fN Tryz.func232
theorem F233:fT 233 Tryz.f233:=fN Tryz.func233
theorem F234:fT 234 Tryz.f234:=fN Tryz.func234
theorem F235:fT 235 Tryz.f235:=fN Tryz.func235
theorem F236:fT 236 Tryz.f236:=fN Tryz.func236
theorem F237:fT 237 Tryz.f237:=fN Tryz.func237
theorem F238:fT 238 Tryz.f238:=fN Tryz.func238
theorem F239:fT 239 Tryz.f239:=fN Tryz.func239
theorem F240:fT 240 Tryz.f240:=fN Tryz.func240
theorem F241:fT 241 Tryz.f241:=fN Tryz.func241
theorem F242:fT 242 Tryz.f242:=fN Tryz.func242
theorem F243:fT 243 Tryz.f243:=fN Tryz.func243
theorem F244:fT 244 Tryz.f244:=fN Tryz.func244
theorem F245:fT 245 Tryz.f245:=fN Tryz.func245
theorem F246:fT 246 Tryz.f246:=fN Tryz.func246
theorem F247:fT 247 Tryz.f247:=fN Tryz.func247
theorem F248:fT 248 Tryz.f248:=fN Tryz.func248
theorem F249:fT 249 Tryz.f249:=fN Tryz.func249
theorem F250:fT 250 Tryz.f250:=fN Tryz.func250
theorem F251:fT 251 Tryz.f251:=fN Tryz.func251
theorem F252:fT 252 Tryz.f252:=fN Tryz.func252
theorem F253:fT 253 Tryz.f253:=fN Tryz.func253
theorem F254:fT 254 Tryz.f254:=fN Tryz.func254
theorem F255:fT 255 Tryz.f255:=fN Tryz.func255
theorem F256:fT 256 Tryz.f256:=fN Tryz.func256
theorem F257:fT 257 Tryz.f257:=fN Tryz.func257
theorem F258:fT 258 Tryz.f258:=fN Tryz.func258
theorem F259:fT 259 Tryz.f259:=fN Tryz.func259
theorem F260:fT 260 Tryz.f260:=fN Tryz.func260
theorem F261:fT 261 Tryz.f261:=fN Tryz.func261
theorem F262:fT 262 Tryz.f262:=fN Tryz.func262
theorem F263:fT 263 Tryz.f263:=fN Tryz.func263
theorem F264:fT 264 Tryz.f264:=fN Tryz.func264
theorem F265:fT 265 Tryz.f265:=fN Tryz.func265
theorem F266:fT 266 Tryz.f266:=fN Tryz.func266
theorem F267:fT 267 Tryz.f267:=fN Tryz.func267
theorem F268:fT 268 Tryz.f268:=fN Tryz.func268
theorem F269:fT 269 Tryz.f269:=fN Tryz.func269
theorem F270:fT 270 Tryz.f270:=fN Tryz.func270
theorem F271:fT 271 Tryz.f271:=fN Tryz.func271
theorem F274:fT 274 Tryz.f274:=fN Tryz.func274
theorem F275:fT 275 Tryz.f275:=fN Tryz.func275
theorem F276:fT 276 Tryz.f276:=fN Tryz.func276
theorem F277:fT 277 Tryz.f277:=fN Tryz.func277
theorem F278:fT 278 Tryz.f278:=fN Tryz.func278
theorem F279:fT 279 Tryz.f279:=fN Tryz.func279
theorem F280:fT 280 Tryz.f280:=fN Tryz.func280
theorem F281:fT 281 Tryz.f281:=fN Tryz.func281
theorem F282:fT 282 Tryz.f282:=fN Tryz.func282
theorem F283:fT 283 Tryz.f283:=fN Tryz.func283
theorem F284:fT 284 Tryz.f284:=fN Tryz.func284
theorem F285:fT 285 Tryz.f285:=fN Tryz.func285
theorem F286:fT 286 Tryz.f286:=fN Tryz.func286
theorem F287:fT 287 Tryz.f287:=fN Tryz.func287
theorem F288:fT 288 Tryz.f288:=fN Tryz.func288
theorem F289:fT 289 Tryz.f289:=fN Tryz.func289
theorem F290:fT 290 Tryz.f290:=fN Tryz.func290
theorem F291:fT 291 Tryz.f291:=fN Tryz.func291
theorem F292:fT 292 Tryz.f292:=fN Tryz.func292
theorem F293:fT 293 Tryz.f293:=fN Tryz.func293
theorem F294:fT 294 Tryz.f294:=fN Tryz.func294
theorem F295:fT 295 Tryz.f295:=fN Tryz.func295
theorem F296:fT 296 Tryz.f296:=fN Tryz.func296
theorem F297:fT 297 Tryz.f297:=fN Tryz.func297
theorem F298:fT 298 Tryz.f298:=fN Tryz.func298
theorem F299:fT 299 Tryz.f299:=fN Tryz.func299
theorem F300:fT 300 Tryz.f300:=fN Tryz.func300
theorem F301:fT 301 Tryz.f301:=fN Tryz.func301
theorem F302:fT 302 Tryz.f302:=fN Tryz.func302
theorem F303:fT 303 Tryz.f303:=fN Tryz.func303
theorem F304:fT 304 Tryz.f304:=fN Tryz.func304
theorem F305:fT 305 Tryz.f305:=fN Tryz.func305
theorem F306:fT 306 Tryz.f306:=fN Tryz.func306
theorem F308:fT 308 Tryz.f308:=fN Tryz.func308
theorem F309:fT 309 Tryz.f309:=fN Tryz.func309
theorem F310:fT 310 Tryz.f310:=fN Tryz.func310
theorem F311:fT 311 Tryz.f311:=fN Tryz.func311
theorem F312:fT 312 Tryz.f312:=fN Tryz.func312
theorem F313:fT 313 Tryz.f313:=fN Tryz.func313
theorem F314:fT 314 Tryz.f314:=fN Tryz.func314
theorem F315:fT 315 Tryz.f315:=fN Tryz.func315
theorem F316:fT 316 Tryz.f316:=fN Tryz.func316
theorem F317:fT 317 Tryz.f317:=fN Tryz.func317
theorem F318:fT 318 Tryz.f318:=fN Tryz.func318
theorem F319:fT 319 Tryz.f319:=fN Tryz.func319
theorem F320:fT 320 Tryz.f320:=fN Tryz.func320
theorem F321:fT 321 Tryz.f321:=fN Tryz.func321
theorem F322:fT 322 Tryz.f322:=fN Tryz.func322
theorem F323:fT 323 Tryz.f323:=fN Tryz.func323
theorem F324:fT 324 Tryz.f324:=fN Tryz.func324
theorem F325:fT 325 Tryz.f325:=fN Tryz.func325
theorem F326:fT 326 Tryz.f326:=fN Tryz.func326
theorem F327:fT 327 Tryz.f327:=fN Tryz.func327
theorem F328:fT 328 Tryz.f328:=fN Tryz.func328
theorem F329:fT 329 Tryz.f329:=fN Tryz.func329
theorem F330:fT 330 Tryz.f330:=fN Tryz.func330
theorem F331:fT 331 Tryz.f331:=fN Tryz.func331
theorem F332:fT 332 Tryz.f332:=fN Tryz.func332
theorem F333:fT 333 Tryz.f333:=fN Tryz.func333
theorem F334:fT 334 Tryz.f334:=fN Tryz.func334
theorem F335:fT 335 Tryz.f335:=fN Tryz.func335
theorem F336:fT 336 Tryz.f336:=fN Tryz.func336
theorem F337:fT 337 Tryz.f337:=fN Tryz.func337
theorem F338:fT 338 Tryz.f338:=fN Tryz.func338
theorem F339:fT 339 Tryz.f339:=fN Tryz.func339
theorem F340:fT 340 Tryz.f340:=fN Tryz.func340
theorem F341:fT 341 Tryz.f341:=fN Tryz.func341
theorem F342:fT 342 Tryz.f342:=fN Tryz.func342
theorem F343:fT 343 Tryz.f343:=fN Tryz.func343
theorem F344:fT 344 Tryz.f344:=fN Tryz.func344
theorem F345:fT 345 Tryz.f345:=fN Tryz.func345
theorem F346:fT 346 Tryz.f346:=fN Tryz.func346
theorem F347:fT 347 Tryz.f347:=fN Tryz.func347
theorem F348:fT 348 Tryz.f348:=fN Tryz.func348
theorem F349:fT 349 Tryz.f349:=fN Tryz.func349
theorem F350:fT 350 Tryz.f350:=fN Tryz.func350
theorem F351:fT 351 Tryz.f351:=fN Tryz.func351
theorem F352:fT 352 Tryz.f352:=fN Tryz.func352
theorem F357:fT 357 Tryz.f357:=fN Tryz.func357
theorem F358:fT 358 Tryz.f358:=fN Tryz.func358
theorem F359:fT 359 Tryz.f359:=fN Tryz.func359
theorem F360:fT 360 Tryz.f360:=fN Tryz.func360
theorem F361:fT 361 Tryz.f361:=fN Tryz.func361
theorem F362:fT 362 Tryz.f362:=fN Tryz.func362
theorem F363:fT 363 Tryz.f363:=fN Tryz.func363
theorem F364:fT 364 Tryz.f364:=fN Tryz.func364
theorem F365:fT 365 Tryz.f365:=fN Tryz.func365
theorem F366:fT 366 Tryz.f366:=fN Tryz.func366
theorem F367:fT 367 Tryz.f367:=fN Tryz.func367
theorem F368:fT 368 Tryz.f368:=fN Tryz.func368
theorem F369:fT 369 Tryz.f369:=fN Tryz.func369
theorem F370:fT 370 Tryz.f370:=fN Tryz.func370
theorem F371:fT 371 Tryz.f371:=fN Tryz.func371
theorem F372:fT 372 Tryz.f372:=fN Tryz.func372
theorem F373:fT 373 Tryz.f373:=fN Tryz.func373
theorem F375:fT 375 Tryz.f375:=fN Tryz.func375
theorem F380:fT 380 Tryz.f380:=fN Tryz.func380
theorem F381:fT 381 Tryz.f381:=fN Tryz.func381
theorem F382:fT 382 Tryz.f382:=fN Tryz.func382
theorem F383:fT 383 Tryz.f383:=fN Tryz.func383
theorem F384:fT 384 Tryz.f384:=fN Tryz.func384
theorem F386:fT 386 Tryz.f386:=fN Tryz.func386
theorem F387:fT 387 Tryz.f387:=fN Tryz.func387
theorem F421:fT 421 Tryz.f421:=fN Tryz.func421
theorem F422:fT 422 Tryz.f422:=fN Tryz.func422
theorem F423:fT 423 Tryz.f423:=fN Tryz.func423
theorem F424:fT 424 Tryz.f424:=fN Tryz.func424
theorem rg {F:Fr} {n:Nat} {B:Exit→Act→World→Prop} {bn:List Nat} {hbn:∀ k,F.k0 k≠.new→k∈bn} {k:List KI} {s:SS} (h:L1 ⟨Tryz.prog,Γ.toTy,F,n,B,bn,hbn⟩ Γ 400 k s):G ⟨Tryz.prog,Γ.toTy,F,n,B,bn,hbn⟩ k s:=rG Γ hm h
theorem rd {F:Fr} {n:Nat} {B:Exit→Act→World→Prop} {bn:List Nat} {hbn:∀ k,F.k0 k≠.new→k∈bn} {k:List KI} {s:SS} {all:Array Oper} {done:List Stp} {rest:List Oper} (hs:all.toList=done.map (·.o)++rest) (h:Vl ⟨Tryz.prog,Γ.toTy,F,n,B,bn,hbn⟩ Γ 400 k all done rest s):DR ⟨Tryz.prog,Γ.toTy,F,n,B,bn,hbn⟩ k all done rest s:=rD Γ hm hs h
structure Bq (Q:Prop):Prop where out:Q
theorem oO {P Q:Prop} (h:Q) (e:Bq Q→P:=by intro hb;refine rg ?_;(conv=>whnf);exact hb.out):P:=e ⟨h⟩
theorem oF {P Q:Prop} (h:Q) (e:Bq Q→P:=by intro hb;refine rg ?_;(conv=>whnf);refine aF ?_;refine rg ?_;(conv=>whnf);exact hb.out):P:=e ⟨h⟩
theorem oT {P Q:Prop} (h:Q) (e:Bq Q→P:=by intro hb;refine rg ?_;(conv=>whnf);refine aT ?_;refine rg ?_;(conv=>whnf);exact hb.out):P:=e ⟨h⟩
theorem bF {P Q:Prop} (h:Q) (e:Bq Q→P:=by intro hb;refine aF ?_;refine rg ?_;(conv=>whnf);exact hb.out):P:=e ⟨h⟩
theorem bT {P Q:Prop} (h:Q) (e:Bq Q→P:=by intro hb;refine aT ?_;refine rg ?_;(conv=>whnf);exact hb.out):P:=e ⟨h⟩
theorem oD {P Q:Prop} (h:Q) (e:Bq Q→P:=by intro hb;refine rd qq ?_;(conv=>whnf);exact hb.out):P:=e ⟨h⟩
theorem dN {P:Prop} (h:P:=by
 apply Aq
 ·exact E
 ·(repeat (first | exact ResVs.nil | (apply ResVs.cons;(first | exact .tmp | exact .cell rfl rfl rfl rfl))))
 ·exact E
 ·exact E):P:=h
theorem iL {a:Int} {K:Prop} (h:K) (e:I64 a:=by unfold I64;omega):I64 a∧K:=⟨e,h⟩
theorem iW {a:Int} {K Q:Prop} (h:Q) (e:I64 a:=by unfold I64;omega) (e2:Bq Q→K:=by intro hb;(conv=>whnf);exact hb.out):I64 a∧K:=⟨e,e2 ⟨h⟩⟩
theorem kW {α:Sort _} {a b:α} {K Q:Prop} (h:Q) (e:a=b:=by kernel_rfl) (e2:Bq Q→K:=by intro hb;(conv=>whnf);exact hb.out):a=b∧K:=⟨e,e2 ⟨h⟩⟩
theorem c0 {C:Cx} {k:List KI} {s:SS} {all:Array Oper} {o:Oper} {rest:List Oper} {f:FuncId} {fn:Func} {c:Code} {xs:List Operand} {ts:Array TypeId} {A:List SV} {R:SV} (hs:Sy.Spec C.P f A [] R []) (hf:Fun C.P f fn c) (hg:G C (.ops all rest::k) (s.upd o.dst ⟨R,[],[]⟩)) (h:o.op=.call ⟨.value (.func f),xs.toArray,ts⟩:=by exact rfl)
  (hA:A=xs.map (ev s):=by exact rfl) (hok:(Ct [] A && R.inn [])=true:=by exact rfl) (hd:Qr C.n o=true:=by exact rfl) (hw:Es C.n all o s=some true:=by exact rfl):G C (.ops all (o::rest)::k) s:=Vx hs hf h hA hok hd hw hg
theorem cD {C:Cx} {k:List KI} {s:SS} {all:Array Oper} {done:List Stp} {o:Oper} {rest:List Oper} {f:FuncId} {fn:Func} {c:Code} {xs:List Operand} {ts:Array TypeId} {A:List SV} {R:SV} (hs:Sy.Spec C.P f A [] R []) (hf:Fun C.P f fn c) (hg:DR C k all (done++[⟨done.length,o,⟨R,[],[]⟩,true⟩]) rest (s.upd o.dst ⟨R,[],[]⟩)) (h:o.op=.call ⟨.value (.func f),xs.toArray,ts⟩:=by exact rfl)
  (hA:A=xs.map (ev s):=by exact rfl) (hok:(Ct [] A && R.inn [])=true:=by exact rfl) (hi:all[done.length]? = some o:=by kernel_rfl) (hw:Es C.n all o s=some true:=by exact rfl):DR C k all done (o::rest) s:=Arw hs hf h hA hok hi hw hg
theorem qA {p q:Prop} [Decidable p] (h:decide p=true) (e:p→q:=by intro _h;omega):q:=e (of_decide_eq_true h)
theorem qB {p q:Prop} [Decidable p] (h:decide p=false) (e:¬ p→q:=by intro _h;omega):q:=e (of_decide_eq_false h)
end Go.Sy.YteinjapglfkamaaGreat
namespace Go.Sy.YteinjapglfkamaaGreat
open Go.Proofs
structure Device where
 (row prio:Int) (name:ByteArray) (mac vtep:Int)
structure Port where
 (row dev native cost link:Int) (name:ByteArray) (tagged:List Int)
structure Link where
 (row a b:Int)
structure Domain where
 (dev vlan vni irb row:Int) (peers:List Int)
structure Static where
 (row domain port mac:Int)
structure Flood where
 (row dev vni:Int) (addrs:List Int)
structure Vrf where
 (row dev:Int) (name:ByteArray) (imports exports:List Int)
structure Irb where
 (row domain vrf addr bits:Int)
structure Net where
 (devices:List Device) (ports:List Port) (links:List Link) (domains:List Domain) (statics:List Static) (floods:List Flood) (vrfs:List Vrf) (irbs:List Irb)
def Bs (d:Device):SV:=.agg [Aa d.row,Aa d.prio,Ab8 d.name,As d.mac,B4 d.vtep]
def Bh (p:Port):SV:=.agg [Aa p.row,Aa p.dev,Aa p.native,Aa p.cost,Aa p.link,Ab8 p.name,.sl 1 Aa p.tagged]
def Cs (l:Link):SV:=.agg [Aa l.row,Aa l.a,Aa l.b]
def Aw (d:Domain):SV:=.agg [Aa d.dev,Aa d.vlan,Aa d.vni,Aa d.irb,Aa d.row,.sl 1 Aa d.peers]
def Bp (s:Static):SV:=.agg [Aa s.row,Aa s.domain,Aa s.port,As s.mac]
def B7 (f:Flood):SV:=.agg [Aa f.row,Aa f.dev,Aa f.vni,.sl 1 B4 f.addrs]
def C4 (v:Vrf):SV:=.agg [Aa v.row,Aa v.dev,Ab8 v.name,.sl 1 Aa v.imports,.sl 1 Aa v.exports]
def Dp (i:Irb):SV:=.agg [Aa i.row,Aa i.domain,Aa i.vrf,B4 i.addr,Aa i.bits]
def Abl (n:Net):List SV:=[.sl 5 Bs n.devices,.sl 7 Bh n.ports,.sl 3 Cs n.links,.sl 6 Aw n.domains,.sl 4 Bp n.statics,.sl 4 B7 n.floods,.sl 5 C4 n.vrfs,.sl 5 Dp n.irbs]
def Aj (n:Net):SV:=.agg [.sl 5 Bs n.devices,.sl 7 Bh n.ports,.sl 3 Cs n.links,.sl 6 Aw n.domains,.sl 4 Bp n.statics,.sl 4 B7 n.floods,.sl 5 C4 n.vrfs,.sl 5 Dp n.irbs]
instance:Inhabited Device:=⟨⟨0,0,.empty,0,0⟩⟩
instance:Inhabited Port:=⟨⟨0,0,0,0,0,.empty,[]⟩⟩
instance:Inhabited Link:=⟨⟨0,0,0⟩⟩
instance:Inhabited Domain:=⟨⟨0,0,0,0,0,[]⟩⟩
instance:Inhabited Static:=⟨⟨0,0,0,0⟩⟩
instance:Inhabited Flood:=⟨⟨0,0,0,[]⟩⟩
instance:Inhabited Vrf:=⟨⟨0,0,.empty,[],[]⟩⟩
instance:Inhabited Irb:=⟨⟨0,0,0,0,0⟩⟩
def Ai (i:Int) (n:Nat):Bool:=decide (0≤i) && decide (i<n)
def inB (l:List Int) (x:Int):Bool:=l.any (· == x)
def nth {α:Type} [Inhabited α] (l:List α) (i:Int):α:=(l[i.toNat]?).getD default
theorem Ak {α:Type} [Inhabited α] {l:List α} {i:Int} (h:i.toNat<l.length):nth l i=l[i.toNat]:=by
 simp[nth,h]
def Dq {α:Type} (p:α→Bool) (l:List α):Int:=match l.findIdx? p with | some i=>(i:Int) | none=>-1
theorem C3 {α:Type} {p:α→Bool} {l:List α} {j:Nat} (h:j<l.length) (h1:∀ i (hi:i<l.length),i<j→p l[i]=false) (h2:p l[j]=true):Dq p l=j:=by
 have:l.findIdx? p=some j:=by
  rw[List.findIdx?_eq_some_iff_getElem]
  exact⟨h,h2,fun i hi=>by simp[h1 i qn hi]⟩
 simp[Dq,this]
theorem Dk {α:Type} {p:α→Bool} {l:List α} (h1:∀ i (hi:i<l.length),p l[i]=false):Dq p l=-1:=by
 have:l.findIdx? p=none:=by
  rw[List.findIdx?_eq_none_iff]
  intro x hx
  obtain ⟨i,hi,rfl⟩:=List.mem_iff_getElem.1 hx
  exact h1 i hi
 simp[Dq,this]
theorem Ji {α:Type} (p:α→Bool) (l:List α):Dq p l<l.length:=by
 unfold Dq
 split
 ·rename_i i h
  rw[List.findIdx?_eq_some_iff_getElem]at h
  obtain ⟨h,_⟩:=h
  omega
 ·omega
theorem Aaf {α:Type} (p:α→Bool) (l:List α):decide (0≤Dq p l)=l.any p:=by
 unfold Dq
 split
 ·rename_i i h
  rw[List.findIdx?_eq_some_iff_getElem]at h
  obtain ⟨h,h2,_⟩:=h
  have:l.any p=true:=List.any_eq_true.2 ⟨_,List.getElem_mem h,h2⟩
  rw[this]
  simp
 ·rename_i h
  rw[List.findIdx?_eq_none_iff]at h
  have:l.any p=false:=by
   rw[List.any_eq_false]
   intro x hx
   simp[h x hx]
  rw[this]
  simp
def Dg {α:Type} (p:Nat→α→Bool) (l:List α):Bool:=l.zipIdx.all fun q=>p q.2 q.1
theorem allB_iff {α:Type} {p:Nat→α→Bool} {l:List α}:Dg p l=true↔∀ i (h:i<l.length),p i l[i]=true:=by
 simp only[Dg,List.all_eq_true]
 constructor
 ·intro h i hi
  exact h (l[i],i) (by rw[List.mk_mem_zipIdx_iff_getElem?];simp[hi])
 ·rintro h ⟨x,i⟩ hx
  rw[List.mk_mem_zipIdx_iff_getElem?]at hx
  obtain ⟨hi,rfl⟩:=List.getElem?_eq_some_iff.1 hx
  exact h i hi
theorem Aou {α:Type} {p:Nat→α→Bool} {l:List α} (h:∀ i (h:i<l.length),p i l[i]=true):Dg p l=true:=allB_iff.2 h
theorem Bf {α:Type} {p:Nat→α→Bool} {l:List α} {i:Nat} (h:i<l.length) (h1:p i l[i]=false):Dg p l=false:=by
 cases hh:Dg p l with
 | false=>rfl
 | true=>have:=allB_iff.1 hh i h;rw[h1]at this;cases this
def Dd {α:Type} (p:Nat→α→Bool) (l:List α) (j:Nat):Prop:=∀ i (h:i<l.length),i<j→p i l[i]=true
theorem A2 {α:Type} (p:Nat→α→Bool) (l:List α):Dd p l 0:=fun i h hj=>absurd hj qn
theorem A1 {α:Type} {p:Nat→α→Bool} {l:List α} {j:Nat} (hI:Dd p l j) (hj:j<l.length) (h:p j l[j]=true):Dd p l (j+1):=by
 intro i hi hij
 rcases Nat.lt_or_ge i j with h1 | h1
 ·exact hI i hi h1
 ·have:i=j:=by omega
  subst this
  exact h
theorem Cf {α:Type} {p:Nat→α→Bool} {l:List α} {j:Nat} (hI:Dd p l j) (hj:l.length≤j):Dg p l=true:=Aou fun i hi=>hI i hi qn
def Ap {α:Type} (l:List α):Prop:=l.length<2147483648
end Go.Sy.YteinjapglfkamaaGreat
namespace Go.Sy.YteinjapglfkamaaGreat
open Go.Proofs
attribute [local irreducible] Go.Sy.G Go.Sy.DR
set_option maxRecDepth 100000
set_option maxHeartbeats 4000000
theorem App (i:Int) (h0:0≤i) (h5:i≤5):Sy.Spec Tryz.prog 157 [Aa i] [] (As (8 * (5-i))) []:=cT F157 Tryz.ntmps157 fun F hF=>by
 conv=>whnf
 refine iW ?_
 refine iW ?_
 refine Aq E (.cons .tmp .nil) (congrArg (fun z=>SV.val (.int .u64 z)) ?_) E
 rw[IntKind.wrap_u64]
 omega
def be:Nat→Nat→List UInt8
 | 0,_=>[]
 | k+1,m=>UInt8.ofNat (m / 256 ^ k)::be k m
theorem Au (m:Nat):∀ k,(be k m).length=k
 | 0=>rfl
 | k+1=>by simp[be,Au m k]
theorem Yq (m:Nat):∀ (k j:Nat) (_h:j<k),(be k m).take (j+1)=(be k m).take j++[UInt8.ofNat (m / 256 ^ (k-1-j))]
 | 0,j,h=>by omega
 | k+1,0,h=>by simp[be]
 | k+1,j+1,h=>by
  have:=Yq m k j qn
  simp only[be,List.take_succ_cons,List.cons_append,this]
  rw[show k+1-1-(j+1)=k-1-j by omega]
theorem Afw (m k:Nat) (hk:k≤7):IntKind.u8.wrap ((m:Int).fdiv (2 ^ (min (8 * (k:Int)).toNat IntKind.u64.bits)))=((UInt8.ofNat (m / 256 ^ k)).toNat:Int):=by
 have h1:min (8 * (k:Int)).toNat IntKind.u64.bits=8 * k:=by simp[IntKind.bits];omega
 rw[h1,Int.fdiv_eq_ediv_of_nonneg _ (by exact Int.pow_nonneg qy),IntKind.wrap_u8]
 have h2:(2:Int) ^ (8 * k)=((256 ^ k:Nat):Int):=by rw[Int.pow_mul];simp
 rw[h2]
 simp
theorem put2 (l:List UInt8) (hl:l.length<1000000) (m:Nat):Sy.Spec Tryz.prog 106 [.osl 0,As m] [(0,.row 1 Ag l)] (.osl 1) [(0,.non),(1,.row 1 Ag (l++be 6 m))]:=cT F106 Tryz.ntmps106 fun F hF=>by
 conv=>whnf
 refine Alc 0 1 [0] E E qy (by simp;rfl) ?_
 refine At 6 (fun j=>[(0,.osl 1),(1,As m),(6,Aa j)]) (fun j=>[(0,.non),(1,.row 1 Ag (l++(be 6 m).take j))]) [(0,0),(1,1)] ⟨⟨E,E,E,E,E,E,Y⟩,⟨.inl E,E,.inl (congrArg (Ob.row 1 Ag) (List.append_nil l)),E,Y⟩,E,E⟩ ?_
 intro j hj
 refine oO ?_
 refine⟨fun h=>?_,fun h=>?_⟩
 ·have hlt:j<6:=qA h
  refine oO ?_
  refine c0 (App j qn qn) F157 ?_
  refine oO ?_
  refine⟨by omega,?_⟩
  conv=>whnf
  refine Ad (Ac Γ.toTy 16 E E E E E (.row E) (.lit (l:=[UInt8.ofNat (m / 256 ^ (5-j))]) E ?_) qz ?_ ?_) E E ?_
  ·have:=Afw m (5-j) qn
   rw[show ((5-j:Nat):Int)=5-(j:Int) by omega]at this
   simp only[List.map_cons,List.map_nil,Ag,← this]
  ·simp[Au];omega
  ·simp[Au];omega
  refine oO ?_
  refine iW ?_
  exact An [(0,0),(1,16)] hlt ⟨⟨E,E,E,E,E,E,Y⟩,⟨.inl E,E,.inl (congrArg (Ob.row 1 Ag) (by rw[Yq _ _ _ hlt,List.append_assoc])),E,Y⟩,E,E⟩
 ·have:j=6:=qB h
  subst this
  refine oO ?_
  exact done E (.cons .tmp .nil) [(0,0),(1,1)] _ (fun _ h=>h) E E ⟨Y,⟨.inl E,E,.inl E,E,Y⟩,E,E⟩
theorem put2n (m:Nat):Sy.Spec Tryz.prog 106 [.val (.slice none 0 0),As m] [] (.osl 0) [(0,.row 1 Ag (be 6 m))]:=cT F106 Tryz.ntmps106 fun F hF=>by
 conv=>whnf
 refine Bm 0 1000 1 Ag E E ?_
 refine At 6 (fun j=>[(0,.osl 1000),(1,As m),(6,Aa j)]) (fun j=>[(1000,.row 1 Ag ((be 6 m).take j))]) [] ⟨⟨E,E,E,E,E,E,Y⟩,⟨.inl E,E,Y⟩,E,E⟩ ?_
 intro j hj
 refine oO ?_
 refine⟨fun h=>?_,fun h=>?_⟩
 ·have hlt:j<6:=qA h
  refine oO ?_
  refine c0 (App j qn qn) F157 ?_
  refine oO ?_
  refine⟨by omega,?_⟩
  conv=>whnf
  refine Ad (Ac Γ.toTy 16 E E E E E (.row E) (.lit (l:=[UInt8.ofNat (m / 256 ^ (5-j))]) E ?_) qz ?_ ?_) E E ?_
  ·have:=Afw m (5-j) qn
   rw[show ((5-j:Nat):Int)=5-(j:Int) by omega]at this
   simp only[List.map_cons,List.map_nil,Ag,← this]
  ·simp[Au];omega
  ·simp[Au];omega
  refine oO ?_
  refine iW ?_
  exact An [(1000,16)] hlt ⟨⟨E,E,E,E,E,E,Y⟩,⟨.inl (congrArg (Ob.row 1 Ag) (Yq _ _ _ hlt)),E,Y⟩,E,E⟩
 ·have:j=6:=qB h
  subst this
  refine oO ?_
  exact done E (.cons .tmp .nil) [(0,1000)] _ (fun _ h=>h) E E ⟨Y,⟨.inl E,E,Y⟩,E,E⟩
theorem Amc (m k:Nat):m / 256 ^ k / 256=m / 256 ^ (k+1):=by rw[Nat.div_div_eq_div_mul,Nat.pow_succ]
theorem Ak0 (m:Nat) (hm64:m<18446744073709551616):Sy.Spec Tryz.prog 110 [As m] [] (.osl 0) [(0,.row 1 Ag (be 6 m))]:=cT F110 Tryz.ntmps110 fun F hF=>by
 conv=>whnf
 refine Bm 3 1000 1 Ag E E ?_
 refine At 6 (fun j=>[(0,As m),(3,.osl 1000),(4,Aa (5-(j:Int)))]) (fun j=>[(1000,.row 1 Ag ((be 6 m).take j))]) [] ⟨⟨E,E,E,E,E,E,Y⟩,⟨.inl E,E,Y⟩,E,E⟩ ?_
 intro j hj
 refine oO ?_
 refine⟨fun h=>?_,fun h=>?_⟩
 ·have hlt:j<6:=qA h
  refine oO ?_
  refine At (5-j) (fun k=>[(0,As m),(3,.osl 1000),(4,Aa (5-(j:Int))),(5,As (m / 256 ^ k:Nat)),(6,Aa k)]) (fun _=>[(1000,.row 1 Ag ((be 6 m).take j))]) [] ⟨⟨E,E,E,E,E,E,by simp;rfl,E,E,E,Y⟩,⟨.inl E,E,Y⟩,E,E⟩ ?_
  intro k hk
  refine oO ?_
  refine⟨fun h2=>?_,fun h2=>?_⟩
  ·have hlt2:k<5-j:=by have:=of_decide_eq_true h2;omega
   refine oO ?_
   refine⟨by decide,?_⟩
   conv=>whnf
   refine iW ?_
   refine An [] qn ⟨⟨E,E,E,E,E,E,congrArg (fun z=>SV.val (.int .u64 z)) ?_,E,E,E,Y⟩,⟨.inl E,E,Y⟩,E,E⟩
   have h5:m / 256 ^ k≤m:=Nat.div_le_self _ _
   rw[Int.tdiv_eq_ediv_of_nonneg (Int.natCast_nonneg _),IntKind.wrap_u64,← Amc]
   generalize m / 256 ^ k=q at *
   omega
  ·have:k=5-j:=by have:=of_decide_eq_false h2;omega
   subst this
   refine oO ?_
   refine⟨by decide,?_⟩
   conv=>whnf
   refine Ad (Ac Γ.toTy 24 E E E E E (.row E) (.lit (l:=[UInt8.ofNat (m / 256 ^ (5-j))]) E ?_) qz ?_ ?_) E E ?_
   ·simp only[List.map_cons,List.map_nil,Ag]
    congr 3
    rw[Int.tmod_eq_emod_of_nonneg (Int.natCast_nonneg _),IntKind.wrap_u8]
    simp
   ·simp[Au];omega
   ·simp[Au];omega
   refine oO ?_
   refine iW ?_
   exact An [(1000,24)] hlt ⟨⟨E,E,E,E,congrArg (fun z=>SV.val (.int .i64 z)) qn,E,Y⟩,⟨.inl (congrArg (Ob.row 1 Ag) (Yq _ _ _ hlt)),E,Y⟩,E,E⟩
 ·have:j=6:=qB h
  subst this
  refine oO ?_
  exact done E (.cons .tmp .nil) [(0,1000)] _ (fun _ h=>h) E E ⟨Y,⟨.inl E,E,Y⟩,E,E⟩
def Ahk (d s:Nat) (t:Int) (body:List UInt8):SV:=.agg [As d,As s,Aa t,.sl 1 Ag body]
def frame (d s t:Nat) (body:List UInt8):List UInt8:=be 6 d++be 6 s++[UInt8.ofNat (t / 256),UInt8.ofNat t]++body
theorem E2 (t:Nat):[UInt8.ofNat (t / 256),UInt8.ofNat t].map Ag=[SV.val (.int .u8 (IntKind.u8.wrap ((t:Int).fdiv (2 ^ (min (Int.toNat 8) IntKind.i64.bits))))),SV.val (.int .u8 (IntKind.u8.wrap (t:Int)))]:=by
 have h1:IntKind.u8.wrap ((t:Int).fdiv (2 ^ (min (Int.toNat 8) IntKind.i64.bits)))=((UInt8.ofNat (t / 256)).toNat:Int):=by
  show IntKind.u8.wrap ((t:Int).fdiv 256)=_
  rw[Int.fdiv_eq_ediv_of_nonneg _ qy,IntKind.wrap_u8]
  simp
 have h2:IntKind.u8.wrap (t:Int)=((UInt8.ofNat t).toNat:Int):=by
  rw[IntKind.wrap_u8]
  simp
 rw[h1,h2]
 rfl
theorem I2 (t:Nat) (ht:t≤65535):[UInt8.ofNat (t / 256),UInt8.ofNat t].map Ag=[SV.val (.int .u8 (IntKind.u8.wrap (IntKind.i64.wrap ((t:Int).tdiv 256)))),SV.val (.int .u8 (IntKind.u8.wrap ((t:Int).tmod 256)))]:=by
 have h1:IntKind.u8.wrap (IntKind.i64.wrap ((t:Int).tdiv 256))=((UInt8.ofNat (t / 256)).toNat:Int):=by
  rw[Int.tdiv_eq_ediv_of_nonneg qn,IntKind.wrap_u8,IntKind.wrap_i64]
  simp
  omega
 have h2:IntKind.u8.wrap ((t:Int).tmod 256)=((UInt8.ofNat t).toNat:Int):=by
  rw[Int.tmod_eq_emod_of_nonneg qn,IntKind.wrap_u8]
  simp
 rw[h1,h2]
 rfl
theorem Xq (d s t:Nat) (body:List UInt8) (hd:d<281474976710656) (hs:s<281474976710656) (ht:t≤65535) (hb:body.length≤1504):Sy.Spec Tryz.prog 45 [Ahk d s t body] [] (.tup [.osl 0,Aa 0]) [(0,.row 1 Ag (frame d s t body))]:=cT F45 Tryz.ntmps45 fun F hF=>by
 conv=>whnf
 refine⟨fun h=>absurd (of_decide_eq_true h) qn,fun _=>?_⟩
 refine oO ?_
 refine⟨fun h=>absurd (of_decide_eq_true h) qn,fun _=>?_⟩
 refine oF ?_
 refine⟨fun h=>absurd (of_decide_eq_true h) qn,fun _=>?_⟩
 refine oO ?_
 refine⟨fun h=>absurd (of_decide_eq_true h) qn,fun _=>?_⟩
 refine oO ?_
 refine Bd (Af [(0,31)] E F106 (put2n d) E Y E ⟨.inr E,Y⟩) qq E ?_
 refine oD ?_
 refine Bd (Af [(0,31),(1,34)] E F106 (put2 (be 6 d) (by simp[Au]) s) E ⟨E,Y⟩ E ⟨.inl E,.inr E,Y⟩) qq E ?_
 refine oD ?_
 refine kW ?_
 refine⟨by decide,?_⟩
 conv=>whnf
 refine Bd (Ac Γ.toTy 44 E E E E E (.row E) (.lit (l:=[UInt8.ofNat (t / 256),UInt8.ofNat t]) E (E2 t)) qy ?_ ?_) qq E ?_
 ·simp[Au]
 ·simp[Au]
 refine oD ?_
 refine Bd (Ac Γ.toTy 47 E E E E E (.row E) .sl qy ?_ ?_) qq E ?_
 ·simp[Au];omega
 ·simp[Au];omega
 refine oD ?_
 refine kW ?_
 exact done E (.cons .tmp (.cons .tmp .nil)) [(0,47)] _ (fun _ h=>h) E E ⟨Y,⟨.inl E,E,Y⟩,E,E⟩
theorem Acg (d s t:Nat) (body:List UInt8) (hd:d<281474976710656) (hs:s<281474976710656) (ht:t≤65535) (hb:body.length≤1504):Sy.Spec Tryz.prog 49 [Ahk d s t body] [] (.tup [.osl 0,Aa 0]) [(0,.row 1 Ag (frame d s t body))]:=cT F49 Tryz.ntmps49 fun F hF=>by
 conv=>whnf
 refine⟨fun h=>absurd (of_decide_eq_true h) qn,fun _=>?_⟩
 refine oO ?_
 refine⟨fun h=>absurd (of_decide_eq_true h) qn,fun _=>?_⟩
 refine oF ?_
 refine⟨fun h=>absurd (of_decide_eq_true h) qn,fun _=>?_⟩
 refine oO ?_
 refine⟨fun h=>absurd (of_decide_eq_true h) qn,fun _=>?_⟩
 refine oO ?_
 refine Bd (Af [(0,29)] E F110 (Ak0 d qn) E Y E ⟨.inr E,Y⟩) qq E ?_
 refine oD ?_
 refine Bd (Af [(0,32)] E F110 (Ak0 s qn) E Y E ⟨.inr E,Y⟩) qq E ?_
 refine oD ?_
 refine Bd (Ac Γ.toTy 33 E E E E E (.row E) (.row E) qy ?_ ?_) qq E ?_
 ·simp[Au]
 ·simp[Au]
 refine oD ?_
 refine kW ?_
 refine⟨by decide,?_⟩
 conv=>whnf
 refine⟨by decide,?_⟩
 conv=>whnf
 refine Ad (Ac Γ.toTy 44 E E E E E (.row E) (.lit (l:=[UInt8.ofNat (t / 256),UInt8.ofNat t]) E (I2 t ht)) qy ?_ ?_) E E ?_
 ·simp[Au]
 ·simp[Au]
 refine oO ?_
 refine Ad (Ac Γ.toTy 48 E E E E E (.row E) .sl qy ?_ ?_) E E ?_
 ·simp[Au];omega
 ·simp[Au];omega
 refine oO ?_
 exact done E (.cons .tmp (.cons .tmp .nil)) [(0,48)] _ (fun _ h=>h) E E ⟨Y,⟨.inl E,E,Y⟩,E,E⟩
end Go.Sy.YteinjapglfkamaaGreat
namespace Go.Sy.YteinjapglfkamaaGreat
def Ah (s:Int):Int:=IntKind.u64.wrap (IntKind.u64.wrap (6364136223846793005 * s)+1442695040888963407)
theorem Xe (s:Int):0≤Ah s∧Ah s<18446744073709551616:=by
 rw[Ah,IntKind.wrap_u64]
 omega
def Bt (s b:Int):Int:=if b<1 then 0 else (s / 8589934592) % b
theorem Bu {s b:Int} (h:0<b):0≤Bt s b∧Bt s b<b:=by
 rw[Bt,if_neg qn]
 exact⟨Int.emod_nonneg _ qn,Int.emod_lt_of_pos _ h⟩
structure FrameM where
 dst:Nat
 src:Nat
 typ:Nat
 body:List UInt8
def Bc (f:FrameM):SV:=Ahk f.dst f.src f.typ f.body
structure StepM where
 kind:Int
 port:Int
 domain:Int
 at_:Int
 bytes:List UInt8
 up:List Bool
def Bo (x:StepM):SV:=.agg [Aa x.kind,Aa x.port,Aa x.domain,Aa x.at_,.sl 1 Ag x.bytes,.sl 1 Ab x.up]
structure SeenM where
 port:Int
 origin:Int
 bytes:List UInt8
def Bk (x:SeenM):SV:=.agg [Aa x.port,Aa x.origin,.sl 1 Ag x.bytes]
def Jz (p:Port):List Int:=if p.native≠0 then p.native::p.tagged else p.tagged
def Sq (p:Port) (s:Int):Int × Int:=(nth (Jz p) (Bt (Ah s) (Jz p).length),Ah s)
def Ec (ip:Int):Nat:=2199023255552+ip.toNat
def Dr (a bits:Int):Int:=if 0≤bits∧bits≤32 then a-a % 2 ^ (32-bits).toNat else 0
def Df (n:Nat):Nat:=if n=0 then 0 else (n-1) % 65535+1
def ipL (to:Nat):List UInt8 :=
 let s:=65535-Df (0x4500+20+0x4011+1+to / 65536+to % 65536)
 be 2 0x4500++be 2 20++be 2 0++be 2 0++be 2 0x4011++be 2 s++be 4 1++be 4 to
def Eu (n:Net) (s:Int):FrameM × Int :=
 let src:=10995116277760+(Bt (Ah s) 8).toNat
 let s2:=Ah (Ah s)
 let kind:=Bt s2 4
 if kind=0∨(kind=1∧n.irbs.length=0) then (⟨281474976710655,src,34997,[]⟩,s2)
 else if kind=1 then
  let s3:=Ah s2
  let s4:=Ah s3
  let s5:=Ah s4
  let x:=nth n.irbs (Bt s3 n.irbs.length)
  let y:=nth n.irbs (Bt s4 n.irbs.length)
  (⟨Ec x.addr,src,2048,ipL (IntKind.u32.wrap (Dr y.addr y.bits+Bt s5 4)).toNat⟩,s5)
 else (⟨10995116277760+(Bt (Ah s2) 8).toNat,src,34997,[]⟩,Ah s2)
def Abc (f:FrameM) (vlan:Int):FrameM:=⟨f.dst,f.src,33024,[UInt8.ofNat (vlan.toNat / 256),UInt8.ofNat vlan.toNat,UInt8.ofNat (f.typ / 256),UInt8.ofNat f.typ]++f.body⟩
def Cc (n:Net) (j:Nat):List Int:=((List.range j).filter fun i=>decide ((n.ports.getD i default).link<0)).map fun (i:Nat)=>(i:Int)
def Ep (n:Net) (s:Int):StepM × Int :=
 let l:=Cc n n.ports.length
 let s1:=Ah s
 let port:=nth l (Bt s1 l.length)
 let v:=Sq (nth n.ports port) s1
 let f:=Eu n v.2
 let g:=if v.1≠(nth n.ports port).native then Abc f.1 v.1 else f.1
 (⟨1,port,0,0,frame g.dst g.src g.typ g.body,[]⟩,f.2)
def C6:Nat→Int→List Bool × Int
 | 0,s=>([],s)
 | j+1,s=>let r:=C6 j s;(r.1++[Bt (Ah r.2) 2 == 1],Ah r.2)
def Lb (n:Net) (s:Int):StepM × Int :=
 let s1:=Ah s
 let k:=Bt s1 10
 if k<3∧0<(Cc n n.ports.length).length then Ep n s1
 else if 3≤k∧k<8∧0<n.domains.length then (⟨2,0,Bt (Ah s1) n.domains.length,Bt (Ah (Ah s1)) 3,[],[]⟩,Ah (Ah s1))
 else if k=9∧0<n.links.length then let r:=C6 n.links.length s1;(⟨5,0,0,0,[],r.1⟩,r.2)
 else (⟨4,0,0,0,[],[]⟩,s1)
def Bb (n:Net):Nat→Int→List StepM × Int
 | 0,s=>([],s)
 | j+1,s=>let r:=Bb n j s;let x:=Lb n r.2;(r.1++[x.1],x.2)
theorem Dm (n:Net):∀ (j:Nat) (s:Int),(Bb n j s).1.length=j
 | 0,_=>rfl
 | j+1,s=>by simp[Bb,Dm n j s]
theorem Tv {α:Type} {l:List α} {i:Nat} {d:α} (h:i<l.length):l.getD i d=l[i]:=by simp[List.getD,h]
theorem Ahl {n:Nat} (h:n≤65535):Df n=n:=by
 unfold Df
 split<;>omega
theorem Akj {n:Nat} (h:65535<n):Df (n / 65536+n % 65536)=Df n∧n / 65536+n % 65536<n:=by
 unfold Df
 rw[if_neg qn,if_neg qn]
 omega
theorem Aob (a x:Nat) (hx:x≤65535):Df (a+x)=if 65535<Df a+x then Df a+x-65535 else Df a+x:=by
 unfold Df
 split<;>split<;>split<;>omega
theorem Aaq (n:Nat):Df n≤65535:=by
 unfold Df
 split<;>omega
def Hq (l:List UInt8):Nat→Nat
 | 0=>0
 | j+1=>Hq l j+((l.getD (2 * j) 0).toNat * 256+(l.getD (2 * j+1) 0).toNat)
theorem Ald (l:List UInt8):∀ j,Hq l j≤65535 * j
 | 0=>Nat.le_refl _
 | j+1=>by
  have ih:=Ald l j
  have h1:=(l.getD (2 * j) 0).toNat_lt
  have h2:=(l.getD (2 * j+1) 0).toNat_lt
  rw[Hq]
  omega
def Hj (l:List UInt8):Nat:=65535-Df (Hq l (l.length / 2))
def ip0 (to:Nat):List UInt8:=be 2 0x4500++be 2 20++be 2 0++be 2 0++be 2 0x4011++be 2 0++be 4 1++be 4 to
theorem Oa (to:Nat):(ip0 to).length=20:=by simp[ip0,Au]
theorem Ig (n:Nat):(UInt8.ofNat n).toNat=n % 256:=by simp
theorem Aeo (to:Nat) (h:to<4294967296):Hj (ip0 to)=65535-Df (0x4500+20+0x4011+1+to / 65536+to % 65536):=by
 have e:Hq (ip0 to) 10=0x4500+20+0x4011+1+to / 65536+to % 65536:=by
  simp only[Hq,ip0,be,List.cons_append,List.nil_append,List.getD_cons_zero,List.getD_cons_succ,Nat.reduceMul,Nat.reduceAdd,Nat.mul_zero,Nat.mul_one,Ig,Nat.reducePow,Nat.pow_zero,Nat.pow_one,Nat.div_one]
  omega
 rw[Hj,Oa,show 20 / 2=10 from rfl,e]
theorem Atb (to:Nat) (h:to<4294967296):((ip0 to).set 10 (UInt8.ofNat (Hj (ip0 to) / 256))).set 11 (UInt8.ofNat (Hj (ip0 to)))=ipL to:=by
 rw[Aeo to h]
 simp only[ipL,ip0,be,List.cons_append,List.nil_append,List.set_cons_succ,List.set_cons_zero,Nat.reducePow,Nat.pow_zero,Nat.pow_one,Nat.div_one]
end Go.Sy.YteinjapglfkamaaGreat
namespace Go.Sy.YteinjapglfkamaaGreat
open Go.Proofs
attribute [local irreducible] Go.Sy.G Go.Sy.DR
set_option maxRecDepth 100000
set_option maxHeartbeats 4000000
theorem Jc (a b:Nat) (ha:a<9223372036854775808) (hb:b<9223372036854775808):bits .and .i64 (a:Int) (b:Int)=((a &&& b:Nat):Int):=by
 have hx:a &&& b<2 ^ 63:=Nat.lt_of_le_of_lt Nat.and_le_left ha
 have h1:(BitVec.ofInt 64 (a:Int)).toNat=a:=by
  rw[BitVec.ofInt_natCast,BitVec.toNat_ofNat];exact Nat.mod_eq_of_lt qn
 have h2:(BitVec.ofInt 64 (b:Int)).toNat=b:=by
  rw[BitVec.ofInt_natCast,BitVec.toNat_ofNat];exact Nat.mod_eq_of_lt qn
 show IntKind.i64.wrap ((BitVec.ofInt 64 (a:Int) &&& BitVec.ofInt 64 (b:Int)).toNat:Int)=_
 rw[BitVec.toNat_and,h1,h2,IntKind.wrap_i64]
 omega
theorem Dx (a b:Nat) (ha:a<9223372036854775808) (hb:b<9223372036854775808):bits .or .i64 (a:Int) (b:Int)=((a ||| b:Nat):Int):=by
 have hx:a ||| b<2 ^ 63:=Nat.or_lt_two_pow qn qn
 have h1:(BitVec.ofInt 64 (a:Int)).toNat=a:=by
  rw[BitVec.ofInt_natCast,BitVec.toNat_ofNat];exact Nat.mod_eq_of_lt qn
 have h2:(BitVec.ofInt 64 (b:Int)).toNat=b:=by
  rw[BitVec.ofInt_natCast,BitVec.toNat_ofNat];exact Nat.mod_eq_of_lt qn
 show IntKind.i64.wrap ((BitVec.ofInt 64 (a:Int) ||| BitVec.ofInt 64 (b:Int)).toNat:Int)=_
 rw[BitVec.toNat_or,h1,h2,IntKind.wrap_i64]
 omega
theorem Alh (n k:Nat) (hk:k<64):(n:Int).fdiv (2 ^ (min (Int.toNat (k:Int)) IntKind.i64.bits))=((n / 2 ^ k:Nat):Int):=by
 have h1:min (Int.toNat (k:Int)) IntKind.i64.bits=k:=by simp[IntKind.bits];omega
 rw[h1,Int.fdiv_eq_ediv_of_nonneg _ (by exact Int.pow_nonneg qy)]
 simp
theorem Atp (n:Nat) (h:n<9223372036854775808):bits .and .i64 (n:Int) 65535=((n % 65536:Nat):Int):=by
 have:=Jc n 65535 h qy
 rw[show ((65535:Nat):Int)=65535 from rfl]at this
 rw[this]
 have h2:=Nat.and_two_pow_sub_one_eq_mod n 16
 rw[show 2 ^ 16-1=65535 from rfl,show 2 ^ 16=65536 from rfl]at h2
 rw[h2]
theorem Aog (n:Nat) (h:n<9223372036854775808):Sy.Spec Tryz.prog 278 [.ptr 0 0] [(0,.box [Aa n])] (.tup []) [(0,.box [Aa (n / 65536+n % 65536:Nat)])]:=cT F278 Tryz.ntmps278 fun F hF=>by
 have e1:(n:Int).fdiv (2 ^ (min (Int.toNat 16) IntKind.i64.bits))=((n / 65536:Nat):Int):=Alh n 16 qy
 have e2:=Atp n h
 conv=>whnf
 first | (refine⟨by omega,?_⟩;(conv=>whnf)) | skip
 rw[e1,e2]
 refine iW ?_
 exact B3 E .nil [] [(0,.box [Aa (n / 65536+n % 65536:Nat)])] (fun _ h=>h) E E ⟨Y,⟨.inl E,E,Y⟩,E,E⟩
theorem Apd (n:Nat) (h:n<9223372036854775808):Sy.Spec Tryz.prog 216 [Aa n] [] (Aa (Df n)) []:=cT F216 Tryz.ntmps216 fun F hF=>by
 conv=>whnf
 refine Q2 (α:={m:Nat // Df m=Df n∧m≤n}) (fun m=>[(3,.clo (.func 278) [] [.ptr 1 0]),(1,.ptr 1 0)]) (fun m=>[(1,.box [Aa m.1])]) (fun m=>m.1) ⟨n,E,Nat.le_refl _⟩ []
  ⟨⟨rfl,rfl,rfl,rfl,trivial⟩,⟨.inl rfl,rfl,trivial⟩,rfl,rfl⟩ ?_
 rintro ⟨m,h1,h2⟩
 dsimp only
 refine oO ?_
 refine⟨fun h3=>?_,fun h3=>?_⟩
 ·have hmm:65535<m:=by have:=of_decide_eq_true h3;omega
  obtain ⟨g1,g2⟩:=Akj hmm
  refine oO ?_
  refine Ad (A5 [(0,1)] (Bi E E F278) (Aog m qn) E ⟨E,Y⟩ E ⟨.inl E,Y⟩) E E ?_
  refine oO ?_
  exact S9 (α:={m:Nat // Df m=Df n∧m≤n}) (x:=⟨m,h1,h2⟩) ⟨m / 65536+m % 65536,by rw[g1,h1],by omega⟩ [] g2 ⟨⟨E,E,E,E,Y⟩,⟨.inl E,E,Y⟩,E,E⟩
 ·have hmm:m≤65535:=by have:=of_decide_eq_false h3;omega
  have e:Df n=m:=by rw[← h1,Ahl hmm]
  refine oO ?_
  refine Aq E (.cons .tmp .nil) ?_ E
  exact congrArg (fun z:Nat=>Aa z) e
theorem Hg (a b:UInt8):bits .or .i64 (IntKind.i64.wrap ((IntKind.i64.wrap (a.toNat:Int)) * 2 ^ min (Int.toNat 8) IntKind.i64.bits)) (IntKind.i64.wrap (b.toNat:Int))=((a.toNat * 256+b.toNat:Nat):Int):=by
 have h1:=a.toNat_lt
 have h2:=b.toNat_lt
 have e1:IntKind.i64.wrap (a.toNat:Int)=(a.toNat:Int):=by rw[IntKind.wrap_i64];omega
 have e2:IntKind.i64.wrap (b.toNat:Int)=(b.toNat:Int):=by rw[IntKind.wrap_i64];omega
 rw[e1,e2]
 have h3:IntKind.i64.wrap ((a.toNat:Int) * 2 ^ min (Int.toNat 8) IntKind.i64.bits)=((a.toNat * 256:Nat):Int):=by
  show IntKind.i64.wrap ((a.toNat:Int) * 256)=_
  rw[IntKind.wrap_i64]
  omega
 rw[h3,Dx _ _ qn qn]
 congr 1
 have h:=Nat.two_pow_add_eq_or_of_lt (i:=8) (b:=b.toNat) qn a.toNat
 rw[Nat.mul_comm a.toNat 256]
 exact h.symm
theorem Alf (l:List UInt8) (hl:l.length<100000) (h2:l.length % 2=0):Sy.Spec Tryz.prog 156 [.sl 1 Ag l] [] (Aa (Df (Hq l (l.length / 2)))) []:=cT F156 Tryz.ntmps156 fun F hF=>by
 conv=>whnf
 refine At (l.length / 2) (fun j=>[(0,.sl 1 Ag l),(3,Aa (Hq l j)),(4,Aa (2 * (j:Int)))]) (fun _=>[]) [] ⟨⟨E,E,E,E,E,E,Y⟩,Y,E,E⟩ ?_
 intro j hj
 have hw:=Ald l j
 refine oO ?_
 refine iW ?_
 refine⟨fun h=>?_,fun h=>?_⟩
 ·have hlt:2 * j+1<l.length:=qA h
  have hs:Hq l (j+1)=Hq l j+((l[2 * j]'qn).toNat * 256+(l[2 * j+1]'hlt).toNat):=by
   rw[Hq,Tv (show 2 * j<l.length by omega),Tv hlt]
  have e1:l[(2 * (j:Int)).toNat]'qn=l[2 * j]'qn:=by congr 1
  have e2:l[(2 * (j:Int)+1).toNat]'qn=l[2 * j+1]'hlt:=by congr 1
  have hp:=Hg (l[2 * j]'qn) (l[2 * j+1]'hlt)
  have hb1:=(l[2 * j]'qn).toNat_lt
  have hb2:=(l[2 * j+1]'hlt).toNat_lt
  rw[← e1,← e2]at hp hs
  rw[← e1]at hb1
  rw[← e2]at hb2
  refine oO ?_
  refine⟨E,by omega,by omega,?_⟩
  conv=>whnf
  refine⟨by omega,?_⟩
  conv=>whnf
  refine iW ?_
  refine⟨E,by omega,by omega,?_⟩
  conv=>whnf
  refine⟨(by rw[hp];unfold I64;omega),?_⟩
  conv=>whnf
  refine kW ?_
  refine iW ?_
  refine An [] qn ⟨⟨E,E,congrArg (fun z=>SV.val (.int .i64 z)) ?_,E,congrArg (fun z=>SV.val (.int .i64 z)) ?_,E,Y⟩,Y,E,E⟩
  ·rw[hp,hs];omega
  ·omega
 have hjl:j=l.length / 2:=by
  have:=of_decide_eq_false h
  omega
 have hpar:¬ bits .and .i64 (l.length:Int) 1=1:=by
  have:=Jc l.length 1 qn qy
  rw[show ((1:Nat):Int)=1 from rfl]at this
  rw[this,Nat.and_one_is_mod,h2]
  decide
 have hd:=Apd (Hq l j) qn
 rw[hjl]at hd ⊢
 clear hjl
 refine oO ?_
 refine⟨fun h=>absurd (of_decide_eq_true h) hpar,fun _=>?_⟩
 refine oO ?_
 refine c0 hd F216 ?_
 refine oO ?_
 exact dN
theorem Apc (l:List UInt8) (hl:l.length<100000) (h2:l.length % 2=0):Sy.Spec Tryz.prog 105 [.sl 1 Ag l] [] (Aa (Hj l)) []:=cT F105 Tryz.ntmps105 fun F hF=>by
 have ha:=Alf l hl h2
 have hle:=Aaq (Hq l (l.length / 2))
 conv=>whnf
 refine c0 ha F156 ?_
 refine oO ?_
 refine iW ?_
 refine Aq E (.cons .tmp .nil) ?_ E
 refine congrArg Aa ?_
 rw[Hj]
 omega
theorem Alm (l:List UInt8) (hl:l.length<100000) (h2:l.length % 2=0):Sy.Spec Tryz.prog 158 [.sl 1 Ag l] [] (Aa (Df (Hq l (l.length / 2)))) []:=cT F158 Tryz.ntmps158 fun F hF=>by
 conv=>whnf
 refine At (l.length / 2) (fun j=>[(0,.sl 1 Ag l),(3,Aa (Df (Hq l j))),(4,Aa (2 * (j:Int)))]) (fun _=>[]) [] ⟨⟨E,E,E,E,E,E,Y⟩,Y,E,E⟩ ?_
 intro j hj
 have hw:=Aaq (Hq l j)
 refine oO ?_
 refine⟨fun h=>?_,fun h=>?_⟩
 ·have hlt0:2 * j<l.length:=qA h
  have hlt:2 * j+1<l.length:=by omega
  have hb1:=(l[2 * j]'qn).toNat_lt
  have hb2:=(l[2 * j+1]'hlt).toNat_lt
  have hs:Df (Hq l (j+1))=if 65535<Df (Hq l j)+((l[2 * j]'qn).toNat * 256+(l[2 * j+1]'hlt).toNat) then Df (Hq l j)+((l[2 * j]'qn).toNat * 256+(l[2 * j+1]'hlt).toNat)-65535 else Df (Hq l j)+((l[2 * j]'qn).toNat * 256+(l[2 * j+1]'hlt).toNat):=by
   rw[Hq,Tv (show 2 * j<l.length by omega),Tv hlt,Aob _ _ qn]
  have e1:l[(2 * (j:Int)).toNat]'qn=l[2 * j]'qn:=by congr 1
  have e2:l[(2 * (j:Int)+1).toNat]'qn=l[2 * j+1]'hlt:=by congr 1
  obtain ⟨x,hx⟩:∃ x,l[2 * j]'qn=x:=⟨_,rfl⟩
  obtain ⟨y,hy⟩:∃ y,l[2 * j+1]'hlt=y:=⟨_,rfl⟩
  rw[hx]at e1 hs hb1
  rw[hy]at e2 hs hb2
  have w1:IntKind.i64.wrap (x.toNat:Int)=(x.toNat:Int):=by rw[IntKind.wrap_i64];omega
  have w2:IntKind.i64.wrap (y.toNat:Int)=(y.toNat:Int):=by rw[IntKind.wrap_i64];omega
  refine oO ?_
  refine⟨E,by omega,by omega,?_⟩
  rw[e1]
  conv=>whnf
  rw[w1]
  refine iW ?_
  refine iW ?_
  refine⟨fun h4=>?_,fun h4=>absurd (of_decide_eq_false h4) qn⟩
  refine oO ?_
  refine iW ?_
  refine⟨E,by omega,by omega,?_⟩
  rw[e2]
  conv=>whnf
  rw[w2]
  refine iW ?_
  refine iW ?_
  refine⟨fun h5=>?_,fun h5=>?_⟩
  ·have h5:=of_decide_eq_true h5
   rw[if_pos qn]at hs
   refine oO ?_
   refine iW ?_
   refine iW ?_
   refine An [] qn ⟨⟨E,E,congrArg (fun z=>SV.val (.int .i64 z)) ?_,E,congrArg (fun z=>SV.val (.int .i64 z)) ?_,E,Y⟩,Y,E,E⟩
   ·rw[hs];omega
   ·omega
  ·have h5:=of_decide_eq_false h5
   rw[if_neg qn]at hs
   refine oO ?_
   refine iW ?_
   refine An [] qn ⟨⟨E,E,congrArg (fun z=>SV.val (.int .i64 z)) ?_,E,congrArg (fun z=>SV.val (.int .i64 z)) ?_,E,Y⟩,Y,E,E⟩
   ·rw[hs];omega
   ·omega
 ·have hjl:j=l.length / 2:=by
   have:=of_decide_eq_false h
   omega
  subst hjl
  refine oO ?_
  exact dN
theorem Acf (l:List UInt8) (hl:l.length<100000) (h2:l.length % 2=0):Sy.Spec Tryz.prog 109 [.sl 1 Ag l] [] (Aa (Hj l)) []:=cT F109 Tryz.ntmps109 fun F hF=>by
 have ha:=Alm l hl h2
 have hle:=Aaq (Hq l (l.length / 2))
 conv=>whnf
 refine c0 ha F158 ?_
 refine oO ?_
 refine iW ?_
 refine Aq E (.cons .tmp .nil) ?_ E
 refine congrArg Aa ?_
 rw[Hj]
 omega
def Alt (n:Nat):SV:=Aa n
def I4 (l:List Nat):List UInt8:=l.flatMap fun n=>[UInt8.ofNat (n / 256),UInt8.ofNat n]
theorem Abi (l:List Nat):(I4 l).length=2 * l.length:=by
 induction l with
 | nil=>rfl
 | cons a l ih=>simp only[I4,List.flatMap_cons,List.length_append,List.length_cons,List.length_nil]at ih ⊢;omega
theorem Agn (l:List Nat) (n:Nat):I4 (l++[n])=I4 l++[UInt8.ofNat (n / 256),UInt8.ofNat n]:=by simp[I4]
theorem O1 (a b:Int) (h:0≤a∧a≤b):Sy.Spec Tryz.prog 103 [Aa a,Aa b] [] (Ab true) []:=cT F103 Tryz.ntmps103 fun F hF=>by
 conv=>whnf
 refine⟨fun _=>?_,fun h2=>absurd (of_decide_eq_false h2) qn⟩
 refine oO ?_
 refine Aq E (.cons .tmp .nil) ?_ E
 exact congrArg Ab (decide_eq_true h.2).symm
theorem Agp (a b:Int) (h:0≤a∧a≤b):Sy.Spec Tryz.prog 107 [Aa a,Aa b] [] (Ab false) []:=cT F107 Tryz.ntmps107 fun F hF=>by
 conv=>whnf
 refine⟨fun h2=>absurd (of_decide_eq_true h2) qn,fun _=>?_⟩
 refine oO ?_
 refine Aq E (.cons .tmp .nil) ?_ E
 exact congrArg Ab (decide_eq_false qn).symm
theorem Ag9 (l:List Nat) (hl:l.length<100000):Sy.Spec Tryz.prog 104 [.val (.slice none 0 0),.sl 1 Alt l] [] (.osl 0) [(0,.row 1 Ag (I4 l))]:=cT F104 Tryz.ntmps104 fun F hF=>by
 conv=>whnf
 refine Bm 0 1000 1 Ag E E ?_
 refine At l.length (fun j=>[(0,.osl 1000),(7,.sl 1 Alt l),(8,Aa l.length),(9,Aa j)]) (fun j=>[(1000,.row 1 Ag (I4 (l.take j)))]) [] ⟨⟨E,E,E,E,E,E,E,E,Y⟩,⟨.inl E,E,Y⟩,E,E⟩ ?_
 intro j hj
 have hpl:=Abi (l.take j)
 refine oO ?_
 refine⟨fun h=>?_,fun h=>?_⟩
 ·have hlt:j<l.length:=by simpa using h
  have e1:l[(j:Int).toNat]'qn=l[j]:=rfl
  have hsucc:I4 (l.take (j+1))=I4 (l.take j)++[UInt8.ofNat (l[j] / 256),UInt8.ofNat l[j]]:=by
   rw[List.take_succ_eq_append_getElem hlt,Agn]
  obtain ⟨n,hn⟩:∃ n,l[j]=n:=⟨_,rfl⟩
  rw[hn]at e1 hsucc
  have htb:=E2 n
  refine oO ?_
  refine⟨E,by omega,by omega,?_⟩
  rw[e1]
  conv=>whnf
  refine⟨by omega,?_⟩
  conv=>whnf
  refine Ad (Ac Γ.toTy 20 E E E E E (.row E) (.lit (e:=Ag) (l:=[UInt8.ofNat (n / 256),UInt8.ofNat n]) E htb) qz (by simp[hpl];omega) (by simp[hpl];omega)) E E ?_
  refine oO ?_
  refine iW ?_
  exact An [(1000,20)] hlt ⟨⟨E,E,E,E,E,E,E,E,Y⟩,⟨.inl (congrArg (Ob.row 1 Ag) hsucc),E,Y⟩,E,E⟩
 ·have hjl:j=l.length:=by
   have:¬ j<l.length:=by simpa using h
   omega
  subst hjl
  rw[List.take_length]
  refine oO ?_
  exact done E (.cons .tmp .nil) [(0,1000)] [(0,.row 1 Ag (I4 l))] (fun _ h=>h) E E ⟨Y,⟨.inl E,E,Y⟩,E,E⟩
theorem An2 (to:Nat):I4 [17664,20,0,0,16401,0,0,1,to / 65536,to]=ip0 to:=by
 simp only[I4,ip0,be,List.flatMap_cons,List.flatMap_nil,List.cons_append,List.nil_append,Nat.reducePow,Nat.pow_zero,Nat.pow_one,Nat.div_one,Nat.div_div_eq_div_mul,Nat.reduceMul,Nat.reduceDiv]
def At7 (to:Nat):SV:=.agg [Aa 0,Aa 0,Aa 64,Aa 17,B4 1,B4 to,.val (.slice none 0 0)]
theorem ipPutS (to:Nat) (hto:to<4294967296):Sy.Spec Tryz.prog 43 [At7 to] [] (.tup [.osl 0,Aa 0]) [(0,.row 1 Ag (ipL to))]:=cT F43 Tryz.ntmps43 fun F hF=>by
 have hs:=Apc (ip0 to) (by rw[Oa];decide) (by rw[Oa])
 have hset:=Atb to hto
 have hil:=Oa to
 have hpp:=An2 to
 have hput:=Ag9 [17664,20,0,0,16401,0,0,1,to / 65536,to] qz
 have hsl:Hj (ip0 to)≤65535:=Nat.sub_le _ _
 have htb:=E2 (Hj (ip0 to))
 rw[hpp]at hput
 generalize ip0 to=b at *
 generalize Hj b=s at *
 conv=>whnf
 refine Ef ⟨⟨_,_,F103⟩,O1 0 255 qy⟩ E E E E E E ?_
 refine oF ?_
 refine Ef ⟨⟨_,_,F103⟩,O1 64 255 qy⟩ E E E E E E ?_
 refine oF ?_
 refine Ef ⟨⟨_,_,F103⟩,O1 17 255 qy⟩ E E E E E E ?_
 refine oF ?_
 refine Ef ⟨⟨_,_,F103⟩,O1 0 65535 qy⟩ E E E E E E ?_
 (refine oF ?_;refine bF ?_)
 refine⟨by unfold I64;decide,?_⟩
 conv=>whnf
 refine⟨by omega,?_⟩
 conv=>whnf
 refine⟨by omega,?_⟩
 conv=>whnf
 refine⟨by omega,?_⟩
 conv=>whnf
 have w1:IntKind.i64.wrap ((to:Int).fdiv (2 ^ (min (Int.toNat 16) IntKind.u32.bits)))=((to / 65536:Nat):Int):=by
  show IntKind.i64.wrap ((to:Int).fdiv 65536)=_
  rw[Int.fdiv_eq_ediv_of_nonneg _ qy,IntKind.wrap_i64]
  omega
 have w2:IntKind.i64.wrap (to:Int)=to:=by rw[IntKind.wrap_i64];omega
 refine Aa9 68 (e:=Alt) (l:=[17664,20,0,0,16401,0,0,1,to / 65536,to]) E ?_ ?_
 ·show _=[SV.val _,SV.val _,SV.val _,SV.val _,SV.val _,SV.val _,SV.val _,SV.val _,SV.val (.int .i64 (IntKind.i64.wrap ((to:Int).fdiv (2 ^ (min (Int.toNat 16) IntKind.u32.bits))))),SV.val (.int .i64 (IntKind.i64.wrap (to:Int)))]
  rw[w1,w2]
  rfl
 refine Ao 68 E ?_
 refine Ad (Af [(0,69)] E F104 hput E Y E ⟨.inr E,Y⟩) E E ?_
 refine oO ?_
 refine Aa4 [69] hs F105 E (.cons (.row E E) .nil) E E E ?_
 refine oO ?_
 have hb1:=(List.cons.inj htb).1
 have hb2:=(List.cons.inj (List.cons.inj htb).2).1
 refine⟨by omega,?_⟩
 conv=>whnf
 refine⟨by decide,by rw[hil];decide,?_⟩
 conv=>whnf
 refine⟨E,by rw[hil];decide,UInt8.ofNat (s / 256),congrArg (fun z=>[z]) hb1,E,?_⟩
 conv=>whnf
 refine⟨by decide,by simp[hil],?_⟩
 conv=>whnf
 refine⟨E,by simp[hil],UInt8.ofNat s,congrArg (fun z=>[z]) hb2,E,?_⟩
 conv=>whnf
 refine Ad (Ac Γ.toTy 84 E E E E E (.row E) .nil qy (by simp[hil]) (by simp[hil])) E E ?_
 refine oO ?_
 refine done E (.cons .tmp (.cons .tmp .nil)) [(0,84)] [(0,.row 1 Ag (ipL to))] (fun _ h=>h) E E ⟨Y,⟨.inl (congrArg (Ob.row 1 Ag) ?_),E,Y⟩,E,E⟩
 rw[← hset,List.append_nil]
 rfl
theorem At3 (n:Nat):IntKind.u8.wrap (n:Int)=((UInt8.ofNat n).toNat:Int):=by
 rw[IntKind.wrap_u8]
 simp
def beU (k n j:Nat):List UInt8:=List.replicate (k-j) 0++be j n
theorem Ak5 (k n j:Nat) (h:j≤k):(beU k n j).length=k:=by simp[beU,Au];omega
theorem Arz (k n j:Nat) (h:j<k):beU k n (j+1)=(beU k n j).set (k-1-j) (UInt8.ofNat (n / 256 ^ j)):=by
 have e:k-j=(k-(j+1))+1:=by omega
 rw[beU,beU,e,List.replicate_succ',List.append_assoc,List.set_append_right _ _ (by simp;omega),List.length_replicate,show k-1-j-(k-(j+1))=0 by omega]
 rfl
theorem E3 (n k:Nat) (hn:n<9223372036854775808) (hk:k≤8):Sy.Spec Tryz.prog 108 [Aa n,Aa k] [] (.osl 0) [(0,.row 1 Ag (be k n))]:=cT F108 Tryz.ntmps108 fun F hF=>by
 conv=>whnf
 refine Ad (B5 Γ.toTy (d:=8) (n:=k) Ag 0 E E E E E E E E qn qn E E E) E E ?_
 refine oO ?_
 refine At k (fun j=>[(0,Aa (n / 256 ^ j:Nat)),(1,Aa k),(5,.osl 8),(6,Aa j)]) (fun j=>[(8,.row 1 Ag (beU k n j))]) [] ⟨⟨congrArg (fun z:Nat=>Aa z) qz,E,E,E,E,E,E,E,Y⟩,⟨.inl (congrArg (Ob.row 1 Ag) (by simp[beU,be])),E,Y⟩,E,E⟩ ?_
 intro j hj
 have hlen:=Ak5 k n j hj
 refine oO ?_
 refine⟨fun h=>?_,fun h=>?_⟩
 ·have hlt:j<k:=qA h
  have hsucc:=Arz k n j hlt
  have hle:=Nat.div_le_self n (256 ^ j)
  have hdiv:=Amc n j
  generalize n / 256 ^ j=q at *
  generalize beU k n j=u at *
  have e3:IntKind.u8.wrap ((q:Int).tmod 256)=((UInt8.ofNat q).toNat:Int):=by
   rw[Int.tmod_eq_emod_of_nonneg qn,IntKind.wrap_u8]
   simp
  refine oO ?_
  refine iW ?_
  refine iW ?_
  refine⟨by decide,?_⟩
  conv=>whnf
  refine⟨by omega,by omega,?_⟩
  conv=>whnf
  refine⟨E,by omega,UInt8.ofNat q,congrArg (fun z=>[SV.val (.int .u8 z)]) e3.symm,E,?_⟩
  conv=>whnf
  refine⟨by decide,?_⟩
  conv=>whnf
  refine iW ?_
  refine An [] hlt ⟨⟨congrArg (fun z=>SV.val (.int .i64 z)) ?_,E,E,E,E,E,E,E,Y⟩,⟨.inl (congrArg (Ob.row 1 Ag) ?_),E,Y⟩,E,E⟩
  ·rw[← hdiv,Int.tdiv_eq_ediv_of_nonneg qn,IntKind.wrap_i64];omega
  ·rw[hsucc];congr 1;omega
 ·have hjk:j=k:=qB h
  subst hjk
  refine oO ?_
  refine done E (.cons .tmp .nil) [(0,8)] [(0,.row 1 Ag (be j n))] (fun _ h=>h) E E ⟨Y,⟨.inl (congrArg (Ob.row 1 Ag) ?_),E,Y⟩,E,E⟩
  simp[beU]
def Ir (a bits:Int):SV:=.agg [B4 a,Aa bits]
theorem Ak9 (a bits:Int):Sy.Spec Tryz.prog 269 [Ir a bits] [] (Ab (decide (0≤bits∧bits≤32))) []:=cT F269 Tryz.ntmps269 fun F hF=>by
 conv=>whnf
 (repeat' (first | (refine⟨fun h=>?_,fun h=>?_⟩<;>(repeat (first | simp only[decide_eq_true_eq]at h | simp only[decide_eq_false_iff_not]at h))<;>((refine oO ?_))) | (refine Aq rfl (.cons .tmp .nil) ?_ rfl)))
 all_goals (refine congrArg Ab ?_;clear hF;grind)
theorem Aov (a bits:Int) (h:0≤bits∧bits≤32):Sy.Spec Tryz.prog 270 [Ir a bits] [] (B4 (2 ^ (32-bits).toNat-1)) []:=cT F270 Tryz.ntmps270 fun F hF=>by
 conv=>whnf
 refine iW ?_
 refine⟨by omega,?_⟩
 conv=>whnf
 refine Aq E (.cons .tmp .nil) ?_ E
 refine congrArg (fun z=>SV.val (.int .u32 z)) ?_
 obtain ⟨k,hk,hk2⟩:∃ k:Nat,(32-bits).toNat=k∧k≤32:=⟨_,rfl,by omega⟩
 have h1:min (32-bits).toNat IntKind.u32.bits=k:=by show min (32-bits).toNat 32=k;omega
 rw[h1,hk,IntKind.wrap_u32,IntKind.wrap_u32]
 have h2:(2:Int) ^ k≤4294967296:=by
  have:=Nat.pow_le_pow_right (n:=2) qy hk2
  rw[show (2:Int) ^ k=((2 ^ k:Nat):Int) by rw[Int.natCast_pow];rfl]
  have e:(2:Nat) ^ 32=4294967296:=rfl
  rw[e]at this
  omega
 have h0:(1:Int)≤2 ^ k:=by
  have:=Nat.one_le_two_pow (n:=k)
  rw[show (2:Int) ^ k=((2 ^ k:Nat):Int) by rw[Int.natCast_pow];rfl]
  omega
 generalize (2:Int) ^ k=q at *
 omega
theorem Aa7 (a k:Nat) (ha:a<4294967296) (hk:k≤32):bits .andNot .u32 (a:Int) ((2 ^ k-1:Nat):Int)=((a-a % 2 ^ k:Nat):Int):=by
 have hp:=Nat.pow_le_pow_right (n:=2) qy hk
 have e32:(2:Nat) ^ 32=4294967296:=rfl
 rw[e32]at hp
 have h1:=Nat.one_le_two_pow (n:=k)
 have x1:(BitVec.ofInt 32 (a:Int)).toNat=a:=by rw[BitVec.ofInt_natCast,BitVec.toNat_ofNat];exact Nat.mod_eq_of_lt qn
 have x2:(BitVec.ofInt 32 ((2 ^ k-1:Nat):Int)).toNat=2 ^ k-1:=by rw[BitVec.ofInt_natCast,BitVec.toNat_ofNat];exact Nat.mod_eq_of_lt qn
 have key:(BitVec.ofInt 32 (a:Int) &&& ~~~ BitVec.ofInt 32 ((2 ^ k-1:Nat):Int)).toNat=a-a % 2 ^ k:=by
  have hd:a-a % 2 ^ k=2 ^ k * (a / 2 ^ k):=by have:=Nat.div_add_mod a (2 ^ k);omega
  rw[hd]
  refine Nat.eq_of_testBit_eq fun i=>?_
  rw[BitVec.testBit_toNat,BitVec.getLsbD_and,BitVec.getLsbD_not,← BitVec.testBit_toNat,← BitVec.testBit_toNat,x1,x2,Nat.testBit_two_pow_sub_one,Nat.testBit_two_pow_mul,Nat.testBit_div_two_pow]
  by_cases hi:i<k
  ·have:¬ i≥k:=by omega
   simp[hi,this]
  ·have h2:i≥k:=by omega
   have h3:i-k+k=i:=by omega
   by_cases h4:i<32
   ·simp[hi,h2,h4,h3]
   ·have h5:a.testBit i=false:=Nat.testBit_lt_two_pow (Nat.lt_of_lt_of_le (by rw[← e32]at ha;exact ha) (Nat.pow_le_pow_right qy qn))
    rw[h3,h5]
    simp
 show IntKind.u32.wrap (((BitVec.ofInt 32 (a:Int) &&& ~~~ BitVec.ofInt 32 ((2 ^ k-1:Nat):Int)).toNat:Nat):Int)=_
 rw[key,IntKind.wrap_u32]
 omega
theorem K5 (a k:Nat) (bits:Int) (h:0≤bits∧bits≤32) (hk:(32-bits).toNat=k):Dr a bits=((a-a % 2 ^ k:Nat):Int):=by
 rw[Dr,if_pos h,hk]
 have h1:=Nat.mod_le a (2 ^ k)
 rw[show (2:Int) ^ k=((2 ^ k:Nat):Int) by rw[Int.natCast_pow];rfl]
 omega
theorem Ala (a:Nat) (bits:Int) (ha:a<4294967296):Sy.Spec Tryz.prog 205 [Ir a bits] [] (B4 (Dr a bits)) []:=cT F205 Tryz.ntmps205 fun F hF=>by
 have hr:=Ak9 a bits
 by_cases hb:0≤bits∧bits≤32
 ·have hrest:=Aov a bits hb
  rw[decide_eq_true hb]at hr
  obtain ⟨k,hk,hk2⟩:∃ k:Nat,(32-bits).toNat=k∧k≤32:=⟨_,rfl,by omega⟩
  have hn:=Aa7 a k ha hk2
  have hf:=K5 a k bits hb hk
  have h1:=Nat.one_le_two_pow (n:=k)
  have e2:(2:Int) ^ k-1=((2 ^ k-1:Nat):Int):=by
   rw[show (2:Int) ^ k=((2 ^ k:Nat):Int) by rw[Int.natCast_pow];rfl]
   omega
  rw[hk,e2]at hrest
  rw[hf,← hn]
  ((conv=>whnf);repeat((first|refine aF ?_|refine aT ?_);(first|refine rG Γ hm ?_|refine rD Γ hm qq ?_);conv=>whnf))
  refine c0 hr F269 ?_
  ((first|refine rG Γ hm ?_|refine rD Γ hm qq ?_);(conv=>whnf);repeat((first|refine aF ?_|refine aT ?_);(first|refine rG Γ hm ?_|refine rD Γ hm qq ?_);conv=>whnf))
  first | refine cD hrest F270 ?_ | refine c0 hrest F270 ?_
  ((first|refine rG Γ hm ?_|refine rD Γ hm qq ?_);(conv=>whnf);repeat((first|refine aF ?_|refine aT ?_);(first|refine rG Γ hm ?_|refine rD Γ hm qq ?_);conv=>whnf))
  first | (refine⟨qq,?_⟩;((conv=>whnf);repeat((first|refine aF ?_|refine aT ?_);(first|refine rG Γ hm ?_|refine rD Γ hm qq ?_);conv=>whnf))) | skip
  exact dN
 ·rw[decide_eq_false hb]at hr
  have hf:Dr a bits=0:=by rw[Dr,if_neg hb]
  rw[hf]
  ((conv=>whnf);repeat((first|refine aF ?_|refine aT ?_);(first|refine rG Γ hm ?_|refine rD Γ hm qq ?_);conv=>whnf))
  refine c0 hr F269 ?_
  ((first|refine rG Γ hm ?_|refine rD Γ hm qq ?_);(conv=>whnf);repeat((first|refine aF ?_|refine aT ?_);(first|refine rG Γ hm ?_|refine rD Γ hm qq ?_);conv=>whnf))
  exact dN
def lastI (a bits:Int):Int:=if 0≤bits∧bits≤32 then Dr a bits+2 ^ (32-bits).toNat-1 else 0
theorem Acz (a k:Nat) (bits:Int) (h:0≤bits∧bits≤32) (hk:(32-bits).toNat=k):lastI a bits=((a-a % 2 ^ k+(2 ^ k-1):Nat):Int):=by
 rw[lastI,if_pos h,hk,K5 a k bits h hk]
 have h1:=Nat.one_le_two_pow (n:=k)
 rw[show (2:Int) ^ k=((2 ^ k:Nat):Int) by rw[Int.natCast_pow];rfl]
 omega
theorem Asc (a b:Nat) (ha:a<4294967296) (hb:b<4294967296):bits .xor .u32 (a:Int) (b:Int)=((a ^^^ b:Nat):Int):=by
 have x1:(BitVec.ofInt 32 (a:Int)).toNat=a:=by rw[BitVec.ofInt_natCast,BitVec.toNat_ofNat];exact Nat.mod_eq_of_lt qn
 have x2:(BitVec.ofInt 32 (b:Int)).toNat=b:=by rw[BitVec.ofInt_natCast,BitVec.toNat_ofNat];exact Nat.mod_eq_of_lt qn
 show IntKind.u32.wrap (((BitVec.ofInt 32 (a:Int) ^^^ BitVec.ofInt 32 (b:Int)).toNat:Nat):Int)=_
 have hlt:(BitVec.ofInt 32 (a:Int) ^^^ BitVec.ofInt 32 (b:Int)).toNat<4294967296:=BitVec.isLt _
 rw[BitVec.toNat_xor,x1,x2]at hlt ⊢
 rw[IntKind.wrap_u32]
 omega
theorem masked (a x k:Nat) (ha:a<4294967296) (hx:x<4294967296) (hk:k≤32):(bits .andNot .u32 (bits .xor .u32 (a:Int) (x:Int)) ((2 ^ k-1:Nat):Int) == 0)=decide (a / 2 ^ k=x / 2 ^ k):=by
 have hxl:a ^^^ x<4294967296:=Nat.xor_lt_two_pow (n:=32) ha hx
 rw[Asc a x ha hx,Aa7 _ k hxl hk]
 have hd:(a ^^^ x)-(a ^^^ x) % 2 ^ k=2 ^ k * ((a ^^^ x) / 2 ^ k):=by have:=Nat.div_add_mod (a ^^^ x) (2 ^ k);omega
 rw[hd,Nat.xor_div_two_pow]
 have h1:=Nat.one_le_two_pow (n:=k)
 by_cases h:a / 2 ^ k=x / 2 ^ k
 ·rw[h,Nat.xor_self]
  simp
 ·rw[decide_eq_false h]
  have:a / 2 ^ k ^^^ x / 2 ^ k≠0:=fun e=>h (by
   have:=congrArg (fun z=>z ^^^ x / 2 ^ k) e
   simpa [Nat.xor_assoc] using this)
  rw[beq_eq_false_iff_ne]
  intro e
  have e:=Int.natCast_eq_zero.1 e
  rcases Nat.mul_eq_zero.1 e with e | e
  ·omega
  ·exact this e
theorem Amy (a x q:Nat) (hq:0<q):(a / q=x / q)↔(a-a % q≤x∧x≤a-a % q+(q-1)):=by
 have h1:=Nat.div_add_mod a q
 have hd:a-a % q=q * (a / q):=by omega
 rw[hd]
 constructor
 ·intro e
  have h2:=Nat.div_add_mod x q
  have h3:=Nat.mod_lt x hq
  rw[← e]at h2
  omega
 ·rintro ⟨h2,h3⟩
  symm
  rw[Nat.div_eq_iff hq]
  generalize a / q=m at *
  have:q * m=m * q:=Nat.mul_comm ..
  constructor<;>omega
def Addrs (n:Net):Prop:=∀ x∈n.irbs,0≤x.addr∧x.addr<4294967296
theorem Lx (a bits:Int):Sy.Spec Tryz.prog 212 [Ir a bits] [] (Ab (decide (0≤bits∧bits≤32))) []:=cT F212 Tryz.ntmps212 fun F hF=>by
 conv=>whnf
 (repeat' (first | (refine⟨fun h=>?_,fun h=>?_⟩<;>(repeat (first | simp only[decide_eq_true_eq]at h | simp only[decide_eq_false_iff_not]at h))<;>((refine oO ?_))) | (refine Aq rfl (.cons .tmp .nil) ?_ rfl)))
 all_goals (refine congrArg Ab ?_;clear hF;grind)
theorem Af9 (a bits:Int) (h:0≤bits∧bits≤32):Sy.Spec Tryz.prog 213 [Ir a bits] [] (Aa (2 ^ (32-bits).toNat:Nat)) []:=cT F213 Tryz.ntmps213 fun F hF=>by
 obtain ⟨k,hk,hk2⟩:∃ k:Nat,(32-bits).toNat=k∧k≤32:=⟨_,rfl,by omega⟩
 rw[hk]
 conv=>whnf
 refine At k (fun j=>[(1,.ptr 1 0),(3,Aa (2 ^ j:Nat)),(4,Aa (bits+j))]) (fun _=>[(1,.box [B4 a,Aa bits])]) [] ⟨⟨E,E,E,E,congrArg (fun z=>SV.val (.int .i64 z)) qz,E,Y⟩,⟨.inl E,E,Y⟩,E,E⟩ ?_
 intro j hj
 have hp:2 ^ j≤2 ^ 32:=Nat.pow_le_pow_right qy qn
 have e32:(2:Nat) ^ 32=4294967296:=rfl
 have hs:2 ^ (j+1)=2 ^ j * 2:=Nat.pow_succ ..
 rw[e32]at hp
 obtain ⟨q,hq⟩:∃ q:Nat,2 ^ j=q:=⟨_,rfl⟩
 rw[hq]at hp hs ⊢
 refine oO ?_
 refine⟨fun h2=>?_,fun h2=>?_⟩
 ·have hlt:j<k:=by have:=of_decide_eq_true h2;omega
  refine oO ?_
  refine iW ?_
  refine iW ?_
  refine An [] hlt ⟨⟨E,E,congrArg (fun z=>SV.val (.int .i64 z)) ?_,E,congrArg (fun z=>SV.val (.int .i64 z)) ?_,E,Y⟩,⟨.inl E,E,Y⟩,E,E⟩
  ·rw[hs];omega
  ·omega
 ·have hjk:j=k:=by have:=of_decide_eq_false h2;omega
  subst hjk
  rw[hq]
  refine oO ?_
  exact dN
theorem Wb (a:Nat) (bits:Int) (ha:a<4294967296):Sy.Spec Tryz.prog 153 [Ir a bits] [] (B4 (Dr a bits)) []:=cT F153 Tryz.ntmps153 fun F hF=>by
 have hr:=Lx a bits
 by_cases hb:0≤bits∧bits≤32
 ·have hsz:=Af9 a bits hb
  rw[decide_eq_true hb]at hr
  obtain ⟨k,hk,hk2⟩:∃ k:Nat,(32-bits).toNat=k∧k≤32:=⟨_,rfl,by omega⟩
  have hf:=K5 a k bits hb hk
  have h1:=Nat.one_le_two_pow (n:=k)
  have hp:2 ^ k≤2 ^ 32:=Nat.pow_le_pow_right qy hk2
  have e32:(2:Nat) ^ 32=4294967296:=rfl
  have hdm:=Nat.div_add_mod a (2 ^ k)
  have hml:=Nat.mod_le a (2 ^ k)
  have hdl:=Nat.div_le_self a (2 ^ k)
  rw[e32]at hp
  rw[hk]at hsz
  rw[hf]
  generalize 2 ^ k=q at *
  have w1:IntKind.i64.wrap (a:Int)=a:=by rw[IntKind.wrap_i64];omega
  have w2:IntKind.i64.wrap ((IntKind.i64.wrap (a:Int)).tdiv (q:Int))=((a / q:Nat):Int):=by
   rw[w1,Int.tdiv_eq_ediv_of_nonneg qn,IntKind.wrap_i64]
   have:((a:Int) / (q:Int))=((a / q:Nat):Int):=by simp
   rw[this]
   obtain ⟨d,hd⟩:∃ d:Nat,a / q=d:=⟨_,rfl⟩
   rw[hd]at hdl ⊢
   omega
  have hmul:((a / q:Nat):Int) * (q:Int)=((q * (a / q):Nat):Int):=by rw[Int.natCast_mul,Int.mul_comm]
  conv=>whnf
  refine c0 hr F212 ?_
  refine oF ?_
  refine cD hsz F213 ?_
  refine oD ?_
  refine⟨by omega,?_⟩
  conv=>whnf
  refine cD hsz F213 ?_
  refine oD ?_
  refine⟨(by rw[w2,hmul];unfold I64;omega),?_⟩
  conv=>whnf
  refine kW ?_
  refine Aq E (.cons .tmp .nil) ?_ E
  refine congrArg (fun z=>SV.val (.int .u32 z)) ?_
  rw[w2,hmul,IntKind.wrap_u32]
  omega
 ·rw[decide_eq_false hb]at hr
  have hf:Dr a bits=0:=by rw[Dr,if_neg hb]
  rw[hf]
  conv=>whnf
  refine c0 hr F212 ?_
  refine oT ?_
  exact dN
def ipA:List UInt8:=[69,0]++be 2 20++be 2 0++[0,0,64,17]
def ipB (to:Nat):List UInt8:=be 4 1++be 4 to
theorem Aqv (to:Nat) (h:to<4294967296):Hj (ipA++ipB to)=Hj (ip0 to):=by
 have e:Hq (ipA++ipB to) 9=0x4500+20+0x4011+1+to / 65536+to % 65536:=by
  simp only[Hq,ipA,ipB,be,List.cons_append,List.nil_append,List.getD_cons_zero,List.getD_cons_succ,Nat.reduceMul,Nat.reduceAdd,Nat.mul_zero,Nat.mul_one,Ig,Nat.reducePow,Nat.pow_zero,Nat.pow_one,Nat.div_one]
  simp
  omega
 have hl:(ipA++ipB to).length=18:=by simp[ipA,ipB,Au]
 rw[Aeo to h,Hj,hl,show 18 / 2=9 from rfl,e]
theorem Aqw (to:Nat) (h:to<4294967296):ipA++be 2 (Hj (ip0 to))++ipB to=ipL to:=by
 rw[Aeo to h]
 simp[ipA,ipB,ipL,be]
theorem Anb (to:Nat) (hto:to<4294967296):Sy.Spec Tryz.prog 48 [At7 to] [] (.tup [.osl 0,Aa 0]) [(0,.row 1 Ag (ipL to))]:=cT F48 Tryz.ntmps48 fun F hF=>by
 have hil:(ipA++ipB to).length=18:=by simp[ipA,ipB,Au]
 have hs:=Acf (ipA++ipB to) (by rw[hil];decide) (by rw[hil])
 have hall:=Aqw to hto
 have hsum:=Aqv to hto
 have hsl:Hj (ip0 to)≤65535:=Nat.sub_le _ _
 rw[hsum]at hs
 generalize Hj (ip0 to)=s at *
 have w2:IntKind.i64.wrap (to:Int)=to:=by rw[IntKind.wrap_i64];omega
 have hby:=E3 to 4 qn qy
 rw[← w2]at hby
 conv=>whnf
 refine c0 (Agp 0 255 qy) F107 ?_
 refine oF ?_
 refine c0 (Agp 64 255 qy) F107 ?_
 refine oF ?_
 refine c0 (Agp 17 255 qy) F107 ?_
 refine oF ?_
 refine c0 (Agp 0 65535 qy) F107 ?_
 (refine oF ?_;refine bF ?_)
 refine⟨by unfold I64;decide,?_⟩
 conv=>whnf
 refine Ad (Af [(0,39)] E F108 (E3 20 2 qy qy) E Y E ⟨.inr E,Y⟩) E E ?_
 refine oO ?_
 refine Ad (Ac Γ.toTy 40 E E E E E (.lit (e:=Ag) (l:=[69,0]) E E) (.row E) qy (by simp[Au]) (by simp[Au])) E E ?_
 refine oO ?_
 refine Ad (Af [(0,44)] E F108 (E3 0 2 qy qy) E Y E ⟨.inr E,Y⟩) E E ?_
 refine oO ?_
 refine Ad (Ac Γ.toTy 45 E E E E E (.row E) (.row E) qy (by simp[Au]) (by simp[Au])) E E ?_
 refine oO ?_
 refine Ad (Ac Γ.toTy 54 E E E E E (.row E) (.lit (e:=Ag) (l:=[0,0,64,17]) E E) qy (by simp[Au]) (by simp[Au])) E E ?_
 refine oO ?_
 refine Bd (Af [(0,58)] E F108 (E3 1 4 qy qy) E Y E ⟨.inr E,Y⟩) qq E ?_
 refine oD ?_
 refine Bd (Af [(0,62)] E F108 hby rfl Y E ⟨.inr E,Y⟩) qq E ?_
 refine oD ?_
 refine Bd (Ac Γ.toTy 63 E E E E E (.row E) (.row E) qy (by simp[Au]) (by simp[Au])) qq E ?_
 refine oD ?_
 refine kW ?_
 refine Ad (Ac Γ.toTy 66 E E E E E (.lit (e:=Ag) (l:=[]) E E) (.row E) qy (by simp[Au]) (by simp[Au])) E E ?_
 refine oO ?_
 refine Ad (Ac Γ.toTy 68 E E E E E (.row E) (.row E) qy (by simp[Au]) (by simp[Au])) E E ?_
 refine oO ?_
 refine Aa4 [68] hs F109 E (.cons (.row ?_ E) .nil) E E E ?_
 ·rfl
 refine oO ?_
 refine Ad (Af [(0,72)] E F108 (E3 s 2 qn qy) E Y E ⟨.inr E,Y⟩) E E ?_
 refine oO ?_
 refine Ad (Ac Γ.toTy 73 E E E E E (.row E) (.row E) qy (by simp[Au]) (by simp[Au])) E E ?_
 refine oO ?_
 refine Ad (Ac Γ.toTy 75 E E E E E (.row E) (.row E) qy (by simp[Au]) (by simp[Au])) E E ?_
 refine oO ?_
 refine Ad (Ac Γ.toTy 79 E E E E E (.row E) .nil qy (by simp[Au]) (by simp[Au])) E E ?_
 refine oO ?_
 refine done E (.cons .tmp (.cons .tmp .nil)) [(0,79)] [(0,.row 1 Ag (ipL to))] (fun _ h=>h) E E ⟨Y,⟨.inl (congrArg (Ob.row 1 Ag) ?_),E,Y⟩,E,E⟩
 rw[← hall,List.append_nil]
 rfl
theorem Kl {x:Int} (h0:0≤x) (h1:x<18446744073709551616):IntKind.u64.wrap x=x:=by rw[IntKind.wrap_u64];omega
theorem Ac6 (ip:Nat) (h:ip<4294967296):Sy.Spec Tryz.prog 44 [B4 ip] [] (As (Ec ip)) []:=cT F44 Tryz.ntmps44 fun F hF=>by
 conv=>whnf
 refine Aq E (.cons .tmp .nil) ?_ E
 refine congrArg (fun z=>SV.val (.int .u64 z)) ?_
 have e:IntKind.u64.wrap (ip:Int)=ip:=Kl qn qn
 rw[e]
 have hb:=bits_or_u64_nat 2199023255552 ip qy qn
 rw[show ((2199023255552:Nat):Int)=2199023255552 from rfl]at hb
 rw[hb,Ec,Int.toNat_natCast]
 have h2:=Nat.two_pow_add_eq_or_of_lt (i:=32) (b:=ip) qn 512
 rw[show 2 ^ 32 * 512=2199023255552 from rfl]at h2
 rw[← h2]
theorem Ma (ip:Nat) (h:ip<4294967296):Sy.Spec Tryz.prog 47 [B4 ip] [] (As (Ec ip)) []:=cT F47 Tryz.ntmps47 fun F hF=>by
 conv=>whnf
 refine Aq E (.cons .tmp .nil) ?_ E
 refine congrArg (fun z=>SV.val (.int .u64 z)) ?_
 have e:IntKind.u64.wrap (ip:Int)=ip:=Kl qn qn
 rw[e,Kl qn qn,Ec,Int.toNat_natCast]
 omega
theorem tagIsS (d s:Nat) (t:Int) (body:List UInt8) (ht:t≠33024):Sy.Spec Tryz.prog 182 [Ahk d s t body] [] (Ab false) []:=cT F182 Tryz.ntmps182 fun F hF=>by
 conv=>whnf
 refine Aq E (.cons .tmp .nil) ?_ E
 exact congrArg Ab (beq_eq_false_iff_ne.2 ht).symm
theorem Asu (v:Nat) (hv:v<9223372036854775808):bits .or .i64 (IntKind.i64.wrap (0 * 2 ^ min (Int.toNat 12) IntKind.i64.bits)) (v:Int)=v:=by
 have h:=Dx 0 v qy hv
 rw[Nat.zero_or]at h
 exact h
theorem Ale (d s t v:Nat) (body:List UInt8) (ht:t≠33024) (ht2:t≤65535) (hv:v≤4094) (hb:body.length≤1500) :
  Sy.Spec Tryz.prog 122 [Ahk d s t body,Aa v,Aa 0] [] (.tup [Ahk d s 33024 ([UInt8.ofNat (v / 256),UInt8.ofNat v,UInt8.ofNat (t / 256),UInt8.ofNat t]++body),Aa 0]) []:=cT F122 Tryz.ntmps122 fun F hF=>by
 have hor:=Asu v qn
 have tb1:=E2 v
 have tb2:=E2 t
 conv=>whnf
 refine c0 (tagIsS d s t body qn) F182 ?_
 (refine oF ?_;refine bF ?_)
 refine⟨fun h=>absurd (of_decide_eq_true h) qn,fun _=>?_⟩
 (refine oF ?_;refine bF ?_;refine bF ?_)
 refine⟨fun h=>absurd (of_decide_eq_true h) qn,fun _=>?_⟩
 refine oO ?_
 refine⟨fun h=>absurd (of_decide_eq_true h) qn,fun _=>?_⟩
 refine oO ?_
 refine⟨by omega,?_⟩
 conv=>whnf
 rw[hor]
 refine⟨by omega,?_⟩
 conv=>whnf
 refine⟨by omega,?_⟩
 conv=>whnf
 refine Bd (Ac Γ.toTy 70 E E E E E (.lit (e:=Ag) (l:=[UInt8.ofNat (v / 256),UInt8.ofNat v,UInt8.ofNat (t / 256),UInt8.ofNat t]) E ?_) .sl qz (by simp;omega) (by simp;omega)) qq E ?_
 ·have h1:=List.cons.inj tb1
  have h2:=List.cons.inj tb2
  have h3:=List.cons.inj h1.2
  have h4:=List.cons.inj h2.2
  simp only[List.map_cons,List.map_nil]
  rw[h1.1,h3.1,h2.1,h4.1]
 refine oD ?_
 refine kW ?_
 refine Ao 70 E ?_
 exact dN
theorem Ze (d s t v:Nat) (body:List UInt8) (ht:t≠33024) (ht2:t≤65535) (hv:v≤4094) (hb:body.length≤1500) :
  Sy.Spec Tryz.prog 125 [Ahk d s t body,Aa v,Aa 0] [] (.tup [Ahk d s 33024 ([UInt8.ofNat (v / 256),UInt8.ofNat v,UInt8.ofNat (t / 256),UInt8.ofNat t]++body),Aa 0]) []:=cT F125 Tryz.ntmps125 fun F hF=>by
 have tb1:=I2 v qn
 have tb2:=I2 t ht2
 conv=>whnf
 refine⟨fun h=>absurd (by simpa using h) (show ¬ (t:Int)=33024 by omega),fun _=>?_⟩
 refine oF ?_
 refine⟨fun h=>absurd (of_decide_eq_true h) qn,fun _=>?_⟩
 (refine oF ?_;refine bF ?_;refine bF ?_)
 refine⟨fun h=>absurd (of_decide_eq_true h) qn,fun _=>?_⟩
 refine oO ?_
 refine⟨fun h=>absurd (of_decide_eq_true h) qn,fun _=>?_⟩
 refine oO ?_
 refine⟨by unfold I64;decide,?_⟩
 conv=>whnf
 refine iW ?_
 rw[Int.zero_mul,Int.zero_add]
 refine⟨by decide,?_⟩
 conv=>whnf
 refine⟨by decide,?_⟩
 conv=>whnf
 refine⟨by decide,?_⟩
 conv=>whnf
 refine⟨by decide,?_⟩
 conv=>whnf
 refine Bd (Ac Γ.toTy 70 E E E E E (.lit (e:=Ag) (l:=[UInt8.ofNat (v / 256),UInt8.ofNat v,UInt8.ofNat (t / 256),UInt8.ofNat t]) E ?_) .sl qz (by simp;omega) (by simp;omega)) qq E ?_
 ·have h1:=List.cons.inj tb1
  have h2:=List.cons.inj tb2
  have h3:=List.cons.inj h1.2
  have h4:=List.cons.inj h2.2
  simp only[List.map_cons,List.map_nil]
  rw[h1.1,h3.1,h2.1,h4.1]
 refine oD ?_
 refine kW ?_
 refine Ao 70 E ?_
 exact dN
end Go.Sy.YteinjapglfkamaaGreat
namespace Go.Sy.YteinjapglfkamaaGreat
open Go.Proofs
def Hl (l:List UInt8):Nat:=l.foldl (fun n c=>n * 256+c.toNat) 0
theorem Ab6 (l:List UInt8) (c:UInt8):Hl (l++[c])=Hl l * 256+c.toNat:=by
 rw[Hl,List.foldl_append];rfl
theorem J6:∀ (k:Nat) (l:List UInt8),l.length=k→Hl l<256 ^ k
 | 0,l,h=>by rw[List.length_eq_zero_iff.1 h];decide
 | k+1,l,h=>by
  have hne:l≠[]:=fun e=>by rw[e]at h;cases h
  have e:=List.dropLast_concat_getLast hne
  have h1:=J6 k l.dropLast (by rw[List.length_dropLast];omega)
  have h2:=(l.getLast hne).toNat_lt
  rw[← e,Ab6,Nat.pow_succ]
  omega
theorem V3 (l:List UInt8) {j:Nat} (h:j<l.length):Hl (l.take (j+1))=Hl (l.take j) * 256+l[j].toNat:=by
 rw[List.take_succ_eq_append_getElem h,Ab6]
theorem Asi (m:Nat) (c:UInt8) (h:m<1099511627776) :
  bits .or .u64 (IntKind.u64.wrap ((m:Int) * 2 ^ min (Int.toNat 8) IntKind.u64.bits)) (IntKind.u64.wrap (c.toNat:Int))=((m * 256+c.toNat:Nat):Int):=by
 have hc:=c.toNat_lt
 have e1:IntKind.u64.wrap ((m:Int) * 2 ^ min (Int.toNat 8) IntKind.u64.bits)=((m * 256:Nat):Int):=by
  show IntKind.u64.wrap ((m:Int) * 256)=_
  rw[IntKind.wrap_u64];omega
 have e2:IntKind.u64.wrap (c.toNat:Int)=(c.toNat:Int):=by rw[IntKind.wrap_u64];omega
 rw[e1,e2,bits_or_u64_nat _ _ qn qn]
 congr 1
 have h:=Nat.two_pow_add_eq_or_of_lt (i:=8) (b:=c.toNat) qn m
 rw[Nat.mul_comm m 256]
 exact h.symm
def Ed (m:Nat):Bool:=decide (m / 1099511627776 % 2=1)
theorem Atq (m k:Nat):m &&& 2 ^ k=if m / 2 ^ k % 2=1 then 2 ^ k else 0:=by
 apply Nat.eq_of_testBit_eq
 intro i
 rw[Nat.testBit_and,Nat.testBit_two_pow]
 by_cases hi:k=i
 ·subst hi
  rw[decide_eq_true rfl,Bool.and_true,Nat.testBit_eq_decide_div_mod_eq]
  split
  ·rename_i h;rw[decide_eq_true h,Nat.testBit_two_pow_self]
  ·rename_i h;rw[decide_eq_false h,Nat.zero_testBit]
 ·rw[decide_eq_false hi,Bool.and_false]
  split
  ·rw[Nat.testBit_two_pow,decide_eq_false hi]
  ·rw[Nat.zero_testBit]
theorem An6 (m:Nat) (h:m<18446744073709551616):(bits .and .u64 (m:Int) 1099511627776 != 0)=Ed m:=by
 have e:=bits_and_u64_nat m 1099511627776 h qy
 rw[show ((1099511627776:Nat):Int)=1099511627776 from rfl]at e
 rw[e,show (1099511627776:Nat)=2 ^ 40 from rfl,Atq,Ed,show (1099511627776:Nat)=2 ^ 40 from rfl]
 split
 ·rename_i h;rw[decide_eq_true h];rfl
 ·rename_i h;rw[decide_eq_false h];rfl
theorem Aq7 (m:Nat):decide ((UInt8.ofNat (m / 256 ^ 5)).toNat % 2=1)=Ed m:=by
 rw[Ed]
 refine decide_eq_decide.2 ?_
 rw[show (256:Nat) ^ 5=1099511627776 from rfl,UInt8.toNat_ofNat']
 omega
end Go.Sy.YteinjapglfkamaaGreat
namespace Go.Sy
theorem Co {κ:Ka} {w:World} {sz:Nat} {α:Type} {e:α→SV} {v:Value} (h:Rd κ w (.val (.slice none 0 0)) v):Rd κ w (.sl sz e []) v:=by
 simp only[Rd]at h
 simp only[Rd,RdD]
 exact .inl ⟨Y,none,0,h⟩
theorem Spec.viewR {P:Program} {f:FuncId} {A:List SV} {H H':Obs} {R R':SV} (hs:Sy.Spec P f A H R H') (h:∀ κ w v,Rd κ w R v→Rd κ w R' v):Sy.Spec P f A H R' H' :=
 fun κ w vs hi hk hr ho=>(hs κ w vs hi hk hr ho).mono fun _ _ ⟨v,κ',e1,e2,e3,e4,e5⟩=>⟨v,κ',e1,e2,e3,h κ' _ v e4,e5⟩
theorem Oh {M:Nat→Prop} {w:World} {sz:Nat} {α:Type} {e:α→SV} {v:Value} (h:v=.slice none 0 0):RdD M w (.sl sz e []) v:=by
 simp only[RdD]
 exact .inl ⟨Y,none,0,h⟩
theorem V1 {C:Cx} {k:List KI} {s:SS} (d:Nat) {sz:Nat} {α β:Type} {e:α→SV} {l:List α} {e':β→SV} {l':List β} (h:s.h d=.row sz e l) (hl:l'.length=l.length)
  (hv:∀ (M:Nat→Prop) (w:World) (i:Nat) (h1:i<l.length) (h2:i<l'.length) (v:Value),RdD M w (e l[i]) v→RdD M w (e' l'[i]) v) (hg:G C k ⟨s.σ,upd s.h d (.row sz e' l')⟩):G C k s:=fun κ a w hs =>
 hg κ a w ⟨hs.defers,hs.size,hs.inv,hs.ctx,hs.slot,fun i=>by
  show ObOK κ w i (upd s.h d (.row sz e' l') i)
  by_cases hi:i=d
  ·subst hi
   rw[By]
   have:=hs.obj i
   rw[h]at this
   rcases this with ⟨h1,rfl⟩ | ⟨b,cap,cs,T,fr,e1,e2,e3,e4,e5,e6⟩
   ·exact .inl ⟨h1,List.eq_nil_of_length_eq_zero (by simpa using hl)⟩
   ·refine .inr ⟨b,cap,cs,T,fr,by rw[hl];exact e1,e2,e3,e4,by omega,fun i x hx=>?_⟩
    obtain ⟨hi2,rfl⟩:=hx
    obtain ⟨_,u,hu,hrest⟩:=e6 i (e (l[i]'qn)) ⟨by omega,rfl⟩
    exact⟨hi2,u,hv _ _ i qn hi2 u hu,hrest⟩
  ·rw[Ck _ _ hi];exact hs.obj i⟩
theorem Amh {κ:Ka} {w:World} {x:SV}:∀ {l:List SV} {cs:List Value} {i:Nat},RdL κ w l cs→(∀ y v,l[i]? = some y→Rd κ w y v→Rd κ w x v)→RdL κ w (l.set i x) cs
 | [],_,_,h,_=>h
 | y::l,cs,0,h,hx=>by
  simp only[RdL,List.set_cons_zero]at h ⊢
  obtain ⟨v,r,e1,e2,e3⟩:=h
  exact⟨v,r,e1,hx y v E e2,e3⟩
 | y::l,cs,i+1,h,hx=>by
  simp only[RdL,List.set_cons_succ]at h ⊢
  obtain ⟨v,r,e1,e2,e3⟩:=h
  exact⟨v,r,e1,e2,Amh e3 (fun z u hz hu=>hx z u hz hu)⟩
theorem K9 {C:Cx} {k:List KI} {s:SS} (b i d sz:Nat) {α:Type} (e:α→SV) {l:List SV} (hb:s.h b=.box l) (h:l[i]? = some (.val (.slice none 0 0))) (hd:s.h d=.fresh) (hbd:Nat.beq b d=false)
  (hg:G C k ⟨s.σ,upd (upd s.h b (.box (l.set i (.osl d)))) d (.row sz e [])⟩):G C k s:=fun κ a w hs=>by
 have hne:b≠d:=fun e=>by rw[e,Nat.beq_refl]at hbd;cases hbd
 have hnew:κ d=.new:=by have:=hs.obj d;rwa [hd]at this
 obtain ⟨st,inv⟩:=Jl hs.inv hnew (e:=.nil) (Grew.refl w) (fun b hb=>by cases hb)
 refine hg (Dl κ d .nil) a w ⟨hs.defers,hs.size,inv,hs.ctx.step inv st,fun j=>Rd.step st _ _ (hs.slot j),fun j=>?_⟩
 show ObOK _ w j (upd (upd s.h b (.box (l.set i (.osl d)))) d (.row sz e []) j)
 by_cases hj:j=d
 ·subst hj;rw[By];exact .inl ⟨Az _ _ _,rfl⟩
 ·rw[Ck _ _ hj]
  by_cases hjb:j=b
  ·subst hjb
   rw[By]
   have:=ObOK.step st hj _ (hs.obj j)
   rw[hb]at this
   obtain ⟨b',cs,T,fr,e1,e2,e3,e4,e5⟩:=this
   refine⟨b',cs,T,fr,e1,e2,e3,e4,Amh e5 fun y v hy hv=>?_⟩
   rw[h]at hy
   cases hy
   simp only[Rd]at hv
   simp only[Rd,Az]
   exact hv
  ·rw[Ck _ _ hjb];exact ObOK.step st hj _ (hs.obj j)
theorem Sl {P:Program} (w:World) {t e:TypeId} (h:P.underlying t=some (.slice e)) (ad:Option Addr) (n cap c1 c2:Nat):(Op.equal t (.slice ad n cap) (.slice none c1 c2)).run P w=.ok ad.isNone w:=by
 have key:∀ d,(Op.equalIn (d+1) t (.slice ad n cap) (.slice none c1 c2)).run P w=.ok ad.isNone w:=fun d=>by
  cases ad<;>simp[Op.equalIn,run_underlying h]
 exact key 9999
inductive NilT (s:SS):SV→List Nat→Nat→Prop
 | sl {sz:Nat} {α:Type} {e:α→SV} {l:List α}:NilT s (.sl sz e l) [] l.length
 | row {k sz:Nat} {α:Type} {e:α→SV} {l:List α} (h:s.h k=.row sz e l):NilT s (.osl k) [k] l.length
theorem NilT.at {C:Cx} {s:SS} {κ:Ka} {a:Act} {w:World} {x:Operand} {rd:List Nat} {n:Nat} (hs:St C.F C.n s κ a w) (hx:NilT s (ev s x) rd n):∃ (ad:Option Addr) (m cap:Nat),a.eval x=.slice ad m cap∧(ad.isNone=true→n=0):=by
 have h1:Rd κ w (ev s x) (a.eval x):=hs.ev x
 generalize ev s x=y at *
 cases hx with
 | @sl sz α e l =>
  simp only[Rd,RdD]at h1
  rcases h1 with ⟨rfl,a',cap,h1⟩ | ⟨b,off,cap,h1,_⟩
  ·exact⟨_,_,_,h1,fun _=>rfl⟩
  ·exact⟨_,_,_,h1,fun h=>by cases h⟩
 | @row k' sz α e l hr =>
  have hob:=hs.obj k'
  rw[hr]at hob
  simp only[Rd]at h1
  rcases hob with ⟨hκ,hl⟩ | ⟨b,cap,_,_,_,hκ,_⟩
  ·rw[hκ]at h1
   exact⟨_,_,_,h1,fun _=>by rw[hl];rfl⟩
  ·rw[hκ]at h1
   exact⟨_,_,_,h1,fun h=>by cases h⟩
theorem Ej {C:Cx} {k:List KI} {s:SS} {all:Array Oper} {o:Oper} {rest:List Oper} {op:BinOp} {t yt:TypeId} {ti:TI} {et:TypeId} {sz eb n:Nat} {ez:List Value} {x y:Operand} {rd:List Nat} (h:o.op=.binOp op t x y yt) (hop:op=.eql∨op=.neq)
  (ht:C.Γ.get t=some ti) (hk:ti.k=.slice et sz eb ez) (hy:ev s y=.val (.slice none 0 0)) (hx:NilT s (ev s x) rd n) (hd:Qr C.n o=true) (hw:Es C.n all o s=some true)
  (hg:∀ b:Bool,(b=true→n=0)→G C (.ops all rest::k) (s.upd o.dst ⟨.val (.bool (if op=.eql then b else !b)),rd,[]⟩)):G C (.ops all (o::rest)::k) s:=fun κ a w hs=>by
 have h2:Rd κ w (ev s y) (a.eval y):=hs.ev y
 rw[hy]at h2
 obtain ⟨ad,m,cap,e1,e2⟩:=hx.at hs
 obtain ⟨d,info,z,k1,k2,_⟩:=C.Γ.ok t ti ht
 rw[hk]at k2
 simp only[TK.ok]at k2
 have hrun:=Sl (P:=C.P) w (t:=t) (e:=et) (by first | exact k2.1 ▸ k1 | (rw[k1,k2.1])) ad m cap 0 0
 have hG:=hg ad.isNone e2
 have hv:=h2.val
 refine wpList_step fun K hK=>?_
 rw[if_pos (Ue hs (He hw).2 (He hw).1)]
 have hx':(execOp a.eval o).run C.P w=.ok (.value (.bool (if op=.eql then ad.isNone else !ad.isNone))) w:=by
  rcases hop with rfl | rfl<;>simp[execOp,h,e1,hv,eqGuard,binOp,hrun]
 simp only[Oper.wp,hx',Oper.upon]
 exact hK _ _ (hG κ _ w (hs.put (U:=⟨.val (.bool (if op=.eql then ad.isNone else !ad.isNone)),rd,[]⟩) (Aau hd) (Step.refl _ κ w) hs.inv (by simp[Rd]) (fun p hp=>by cases hp)))
def KeepL (s:SS):List (Nat × Ob)→Prop
 | []=>True
 | (k,o)::r=>s.h k=o∧KeepL s r
theorem KeepL.all {s:SS}:∀ {l:List (Nat × Ob)},KeepL s l→∀ p∈l,s.h p.1=p.2
 | [],_,p,hp=>by cases hp
 | (k,o)::r,h,p,hp=>by
  rcases List.mem_cons.1 hp with rfl | hp
  ·exact h.1
  ·exact KeepL.all h.2 p hp
theorem Amr {κ:Ka} {w w':World} (hi:Inv κ w) (g:Grew w w'):Step (fun _=>False) κ w κ w'∧Inv κ w' :=
 ⟨⟨g.size,g.os,g.tape,g.output,rfl,fun b hb=>g.blk b (hi.mbnd b hb),fun b hb _=>g.blk b hb,fun k b _ hb=>g.blk b (hi.bnd k b hb),fun _ _=>rfl,fun _ h=>h.elim,fun _ h=>.inl h⟩,
  ⟨hi.inj,fun k b h=>Nat.lt_of_lt_of_le (hi.bnd k b h) g.size,hi.apart,fun b h=>Nat.lt_of_lt_of_le (hi.mbnd b h) g.size⟩⟩
theorem Ara {P:Program} {o:Oper} {s:SS} {x y:Operand} {at_:Array TypeId} {k k':IntKind} {m n:Int} (h:o.op=.call ⟨.builtin .min,#[x,y],at_⟩)
  (hx:ev s x=.val (.int k m)) (hy:ev s y=.val (.int k' n)):Good P o s ⟨.val (.int k (if n<m then n else m)),[],[]⟩ :=
 Good.pure fun κ a w _ hr ho=>by
  have h1:=hr x (by simp[h,Op.operands,Call.operands])
  have h2:=hr y (by simp[h,Op.operands,Call.operands])
  rw[hx]at h1
  rw[hy]at h2
  refine⟨.int k (if n<m then n else m),?_,by simp[Rd]⟩
  simp[execOp,h,resolve,invoke,builtin,Builtin.min_,Builtin.min2,h1.val,h2.val]
end Go.Sy
namespace Go.Sy.YteinjapglfkamaaGreat
open Go.Proofs
attribute [local irreducible] Go.Sy.G Go.Sy.DR
set_option maxRecDepth 20000
set_option maxHeartbeats 4000000
theorem Hs {α:Type} (sz:Nat) (e:α→SV) (l:List α) (i:Int):Sy.Spec Tryz.prog 83 [.sl sz e l,Aa i] [] (Ab (Ai i l.length)) []:=cT F83 Tryz.ntmps83 fun F hF=>by
 conv=>whnf
 (repeat' (first | (refine⟨fun h=>?_,fun h=>?_⟩<;>(repeat (first | simp only[decide_eq_true_eq]at h | simp only[decide_eq_false_iff_not]at h))<;>((refine oO ?_))) | (refine Aq rfl (.cons .tmp .nil) ?_ rfl)))
 all_goals (refine congrArg Ab ?_)
 all_goals grind [Ai]
theorem Aje {α:Type} (sz:Nat) (e:α→SV) (l:List α) (i:Int):Sy.Spec Tryz.prog 137 [.sl sz e l,Aa i] [] (Ab (Ai i l.length)) []:=cT F137 Tryz.ntmps137 fun F hF=>by
 conv=>whnf
 (repeat' (first | (refine⟨fun h=>?_,fun h=>?_⟩<;>(repeat (first | simp only[decide_eq_true_eq]at h | simp only[decide_eq_false_iff_not]at h))<;>((refine oO ?_))) | (refine Aq rfl (.cons .tmp .nil) ?_ rfl)))
 all_goals (refine congrArg Ab ?_)
 all_goals grind [Ai]
theorem Agl {α:Type} (sz:Nat) (e:α→SV) (l:List α) (i:Int):Sy.Spec Tryz.prog 142 [.sl sz e l,Aa i] [] (Ab (Ai i l.length)) []:=cT F142 Tryz.ntmps142 fun F hF=>by
 conv=>whnf
 (repeat' (first | (refine⟨fun h=>?_,fun h=>?_⟩<;>(repeat (first | simp only[decide_eq_true_eq]at h | simp only[decide_eq_false_iff_not]at h))<;>((refine oO ?_))) | (refine Aq rfl (.cons .tmp .nil) ?_ rfl)))
 all_goals (refine congrArg Ab ?_)
 all_goals grind [Ai]
theorem O9 {α:Type} (sz:Nat) (e:α→SV) (l:List α) (i:Int):Sy.Spec Tryz.prog 143 [.sl sz e l,Aa i] [] (Ab (Ai i l.length)) []:=cT F143 Tryz.ntmps143 fun F hF=>by
 conv=>whnf
 (repeat' (first | (refine⟨fun h=>?_,fun h=>?_⟩<;>(repeat (first | simp only[decide_eq_true_eq]at h | simp only[decide_eq_false_iff_not]at h))<;>((refine oO ?_))) | (refine Aq rfl (.cons .tmp .nil) ?_ rfl)))
 all_goals (refine congrArg Ab ?_)
 all_goals grind [Ai]
theorem Jf {α:Type} (sz:Nat) (e:α→SV) (l:List α) (i:Int):Sy.Spec Tryz.prog 92 [.sl sz e l,Aa i] [] (Ab (Ai i l.length)) []:=cT F92 Tryz.ntmps92 fun F hF=>by
 conv=>whnf
 (repeat' (first | (refine⟨fun h=>?_,fun h=>?_⟩<;>(repeat (first | simp only[decide_eq_true_eq]at h | simp only[decide_eq_false_iff_not]at h))<;>((refine oO ?_))) | (refine Aq rfl (.cons .tmp .nil) ?_ rfl)))
 all_goals (refine congrArg Ab ?_)
 all_goals grind [Ai]
theorem Ajd {α:Type} (sz:Nat) (e:α→SV) (l:List α) (i:Int):Sy.Spec Tryz.prog 145 [.sl sz e l,Aa i] [] (Ab (Ai i l.length)) []:=cT F145 Tryz.ntmps145 fun F hF=>by
 conv=>whnf
 (repeat' (first | (refine⟨fun h=>?_,fun h=>?_⟩<;>(repeat (first | simp only[decide_eq_true_eq]at h | simp only[decide_eq_false_iff_not]at h))<;>((refine oO ?_))) | (refine Aq rfl (.cons .tmp .nil) ?_ rfl)))
 all_goals (refine congrArg Ab ?_)
 all_goals grind [Ai]
theorem Aq0 (l:List Int) (x:Int) (hl:Ap l):Sy.Spec Tryz.prog 91 [.sl 1 Aa l,Aa x] [] (Aa (Dq (· == x) l)) []:=cT F91 Tryz.ntmps91 fun F hF=>by
 unfold Ap at hl
 conv=>whnf
 refine Ay l.length (fun j=>∀ i (h:i<l.length),i<j→(l[i] == x)=false) (fun j=>[(0,.sl 1 Aa l),(1,Aa x),(7,Aa l.length),(8,Aa j)]) (fun _=>[]) [] (fun i h hj=>absurd hj qn) ⟨⟨E,E,E,E,E,E,E,E,Y⟩,Y,E,E⟩ ?_
 intro j hj hI
 refine oO ?_
 (repeat' (first | (refine⟨fun h=>?_,fun h=>?_⟩<;>(repeat (first | simp only[decide_eq_true_eq]at h | simp only[decide_eq_false_iff_not]at h | simp only[beq_iff_eq]at h | simp only[beq_eq_false_iff_ne]at h))<;>((refine oO ?_))) | (refine Aq rfl (.cons .tmp .nil) ?_ rfl) | (refine⟨qq,?_⟩;((conv=>whnf))) | (refine⟨by (omega),by (omega),?_⟩;((conv=>whnf))) | (refine⟨by (unfold I64;omega),?_⟩;((conv=>whnf))) | refine Av [] hI qn ?_ ⟨⟨rfl,rfl,rfl,rfl,rfl,rfl,rfl,rfl,trivial⟩,trivial,rfl,rfl⟩))
 all_goals try (refine congrArg Aa ?_)
 ·exact C3 qn hI (by simpa using h.symm)
 ·intro i hi hij
  rcases Nat.lt_or_ge i j with h1 | h1
  ·exact hI i hi h1
  ·have:i=j:=by omega
   subst this
   simpa using Ne.symm h
 ·exact Dk (fun i hi=>hI i hi qn)
theorem Ee (l:List Int) (x:Int) (hl:Ap l):Sy.Spec Tryz.prog 25 [.sl 1 Aa l,Aa x] [] (Ab (inB l x)) []:=cT F25 Tryz.ntmps25 fun F hF=>by
 conv=>whnf
 (repeat' (first | (refine Aq rfl (.cons .tmp .nil) ?_ rfl) | (refine c0 (Aq0 _ _ hl) F91 ?_;((refine oO ?_)))))
 exact congrArg Ab (Aaf _ _).symm
def Iu (p:Port) (v:Int):Bool:=v != 0 && (v == p.native || inB p.tagged v)
theorem Aeh (p:Port) (v:Int) (hl:Ap p.tagged):Sy.Spec Tryz.prog 93 [Bh p,Aa v] [] (Ab (Iu p v)) []:=cT F93 Tryz.ntmps93 fun F hF=>by
 conv=>whnf
 (repeat' (first | (refine⟨fun h=>?_,fun h=>?_⟩<;>(repeat (first | simp only[beq_iff_eq]at h | simp only[beq_eq_false_iff_ne]at h | simp only[bne_iff_ne]at h | simp only[bne_eq_false_iff_eq]at h))<;>((refine oO ?_))) | (refine Aq rfl (.cons .tmp .nil) ?_ rfl) | (refine c0 (Ee _ _ hl) F25 ?_;((refine oO ?_)))))
 all_goals (refine congrArg Ab ?_)
 all_goals grind [Iu]
def Le (l:List Int) (least most:Int) (i:Nat) (x:Int):Bool:=decide (least≤x) && decide (x≤most) && (i == 0 || decide (nth l ((i:Int)-1)<x))
def C8 (l:List Int) (least most:Int):Bool:=decide (0<l.length) && decide (l.length≤16) && Dg (Le l least most) l
theorem Ajp (l:List Int) (least most:Int) (hl:Ap l):Sy.Spec Tryz.prog 144 [.sl 1 Aa l,Aa least,Aa most] [] (Ab (C8 l least most)) []:=cT F144 Tryz.ntmps144 fun F hF=>by
 unfold Ap at hl
 conv=>whnf
 refine Ay l.length (fun j=>Dd (Le l least most) l j) (fun j=>[(0,.sl 1 Aa l),(1,Aa least),(2,Aa most),(9,.sl 1 Aa l),(10,Aa l.length),(11,Aa j)]) (fun _=>[]) [] (A2 _ _) ⟨⟨E,E,E,E,E,E,E,E,E,E,E,E,Y⟩,Y,E,E⟩ ?_
 intro j hj hI
 refine oO ?_
 (repeat' (first | (refine⟨fun h=>?_,fun h=>?_⟩<;>(repeat (first | simp only[decide_eq_true_eq]at h | simp only[decide_eq_false_iff_not]at h))<;>((refine oO ?_);repeat((first|refine aF ?_|refine aT ?_);(refine oO ?_)))) | (refine Aq rfl (.cons .tmp .nil) ?_ rfl) | (refine⟨qq,?_⟩;((conv=>whnf))) | (refine⟨by (first | (unfold I64;omega) | omega),by (omega),?_⟩;((conv=>whnf))) | (refine⟨by (unfold I64;omega),?_⟩;((conv=>whnf))) | refine Av [] hI qn ?_ ⟨⟨rfl,rfl,rfl,rfl,rfl,rfl,rfl,rfl,rfl,rfl,rfl,rfl,trivial⟩,trivial,rfl,rfl⟩))
 all_goals try (refine congrArg Ab ?_)
 all_goals try simp only[Int.toNat_natCast,Int.pred_toNat]at *
 ·rw[C8,Bf (i:=j) qn (by simp[Le];omega)];simp
 ·rw[C8,Bf (i:=j) qn (by simp[Le];omega)];simp
 ·rw[C8,Bf (i:=j) qn (by simp only[Le,Ak (show ((j:Int)-1).toNat<l.length by omega),Int.pred_toNat,Int.toNat_natCast];simp;omega)];simp
 ·exact A1 hI qn (by simp only[Le,Ak (show ((j:Int)-1).toNat<l.length by omega),Int.pred_toNat,Int.toNat_natCast];simp;omega)
 ·exact A1 hI qn (by simp[Le];omega)
 ·rw[C8,Cf hI qn,Bool.eq_iff_iff];simp;omega
 ·rw[C8];simp;omega
theorem Ady (l:List Int) (most:Int) (hl:Ap l):Sy.Spec Tryz.prog 86 [.sl 1 Aa l,Aa most] [] (Ab (decide (l.length=0) || C8 l 1 most)) []:=cT F86 Tryz.ntmps86 fun F hF=>by
 conv=>whnf
 (repeat' (first | (refine⟨fun h=>?_,fun h=>?_⟩<;>(repeat (first | simp only[beq_iff_eq]at h | simp only[beq_eq_false_iff_ne]at h))<;>((refine oO ?_))) | (refine Aq rfl (.cons .tmp .nil) ?_ rfl) | (refine c0 (Ajp l 1 most hl) F144 ?_;((refine oO ?_)))))
 all_goals (refine congrArg Ab ?_)
 all_goals grind
end Go.Sy.YteinjapglfkamaaGreat
