/-
  Sy22 Ty N1 Sy25 Sy26 Sy27 Sy28 Sh E1 N2 N3 N4 E2 E3 N5 N6 N7 E4 E5 E6 E7 E8: parts of a proof, joined by program.
-/
import Derived.Test.YteinjapglfkamaaGreatXA2
import Derived.Test.YteinjapglfkamaaGreatProg
import Derived.ChangeKeysEq
import Derived.Below
import Derived.Lib.Join
import Derived.Lib.Strings
import Derived.Lib.Bytealg
namespace Go.Sy
mutual
def frb (d sz:Nat) (x:SV):SV→SV
 | .ptr k o=>bif Nat.beq k d then .ref sz x o else .ptr k o
 | .agg l=>.agg (Abe d sz x l)
 | .tup l=>.tup (Abe d sz x l)
 | .ifc t y=>.ifc t (frb d sz x y)
 | .clo f g l=>.clo f (Abe d sz x g) (Abe d sz x l)
 | y=>y
def Abe (d sz:Nat) (x:SV):List SV→List SV
 | []=>[]
 | y::l=>frb d sz x y::Abe d sz x l
end
mutual
theorem Agq {κ κ':Ka} {w:World} {K:Nat→Prop} {d sz:Nat} {x:SV} (st:Step K κ w κ' w) (hx:∀ o v,Rd κ w (.ptr d o) v→Rd κ' w (.ref sz x o) v):∀ (y:SV) (v:Value),Rd κ w y v→Rd κ' w (frb d sz x y) v
 | .ptr k o,v,h=>by
  unfold frb
  by_cases hk:k=d
  ·subst hk;rw[show Nat.beq k k=true from Nat.beq_refl k];exact hx o v h
  ·rw[show Nat.beq k d=false from by cases hb:Nat.beq k d with | false=>rfl | true=>exact absurd (Nat.eq_of_beq_eq_true hb) hk];exact Rd.step st _ _ h
 | .agg l,v,h=>by
  simp only[Rd]at h
  unfold frb
  simp only[Rd]
  obtain ⟨cs,h1,h2,h3⟩:=h
  exact⟨cs,h1,h2,Ok st hx l cs h3⟩
 | .tup l,v,h=>by
  simp only[Rd]at h
  unfold frb
  simp only[Rd]
  obtain ⟨cs,h1,h3⟩:=h
  exact⟨cs,h1,Ok st hx l cs h3⟩
 | .ifc t y,v,h=>by
  simp only[Rd]at h
  unfold frb
  simp only[Rd]
  obtain ⟨u,h1,h3⟩:=h
  exact⟨u,h1,Agq st hx y u h3⟩
 | .clo f g l,v,h=>by
  simp only[Rd]at h
  unfold frb
  simp only[Rd]
  obtain ⟨fs,cs,h1,h2,h3⟩:=h
  exact⟨fs,cs,h1,Ok st hx g fs h2,Ok st hx l cs h3⟩
 | .top,v,h=>by unfold frb;exact Rd.step st _ _ h
 | .val u,v,h=>by unfold frb;exact Rd.step st _ _ h
 | .sl sz e l,v,h=>by unfold frb;exact Rd.step st _ _ h
 | .ref sz z o,v,h=>by unfold frb;exact Rd.step st _ _ h
 | .rpt k sz i o,v,h=>by unfold frb;exact Rd.step st _ _ h
 | .osl k,v,h=>by unfold frb;exact Rd.step st _ _ h
theorem Ok {κ κ':Ka} {w:World} {K:Nat→Prop} {d sz:Nat} {x:SV} (st:Step K κ w κ' w) (hx:∀ o v,Rd κ w (.ptr d o) v→Rd κ' w (.ref sz x o) v):∀ (l:List SV) (vs:List Value),RdL κ w l vs→RdL κ' w (Abe d sz x l) vs
 | [],vs,h=>by
  unfold Abe
  simpa [RdL] using h
 | y::l,vs,h=>by
  simp only[RdL]at h
  unfold Abe
  simp only[RdL]
  obtain ⟨v,r,h1,h2,h3⟩:=h
  exact⟨v,r,h1,Agq st hx y v h2,Ok st hx l r h3⟩
end
def frbO (d sz:Nat) (x:SV):Ob→Ob
 | .box l=>.box (Abe d sz x l)
 | o=>o
theorem Ag6 {κ κ':Ka} {w:World} {d sz:Nat} {l:List SV} {x:SV} (h:ObOK κ w d (.box l)) (hl:cellsOf x=l) (hb:x.boxed=true) (_hd:Kv l=true) (hsz:l.length=sz) (ho:∀ b,b<w.heap.size→¬ Own κ b→¬ Own κ' b)
  (hdead:∀ b,(κ d).block? = some b→b<w.heap.size∧¬ Own κ' b) (hxd:x.data=true) (o:Nat) (v:Value) (hv:Rd κ w (.ptr d o) v):Rd κ' w (.ref sz x o) v:=by
 obtain ⟨b,cs,T,fr,e1,e2,e3,e4,e5⟩:=h
 simp only[Rd,e1]at hv
 obtain ⟨h1,h2⟩:=hdead b (by rw[e1];rfl)
 rw[← hl]at e5
 obtain ⟨u,f1,f2⟩:=Rd.of_cells hb e4 e5
 simp only[Rd,RdD]
 refine⟨b,0,u,by rw[Nat.zero_add];exact hv,h2,h1,RdD.keep ⟨Nat.le_refl _,fun _ _ _=>rfl,ho⟩ _ _ (Rd.data _ _ hxd f1),?_,by rw[f2];exact e4,fun j hj=>?_⟩
 ·have:=e5.length
  rw[← hsz,← hl,← this,← f2]
  simp
 ·rw[Nat.zero_add,cell_of_row w b _ cs.toArray T fr e2,← f2]
theorem A3 {C:Cx} {k:List KI} {s:SS} (d sz:Nat) (x:SV) {l:List SV} (h:s.h d=.box l) (hl:cellsOf x=l) (hc:(x.boxed && x.data && Kv l && Nat.beq l.length sz)=true)
  (hg:G C k ⟨fun i=>frb d sz x (s.σ i),fun j=>bif Nat.beq j d then .non else frbO d sz x (s.h j)⟩):G C k s:=fun κ a w hs=>by
 simp only[Bool.and_eq_true]at hc
 obtain ⟨⟨⟨hb,hxd⟩,hd⟩,hsz⟩:=hc
 have hsz:=Nat.eq_of_beq_eq_true hsz
 have hob:=hs.obj d
 rw[h]at hob
 have st:=En (κ:=κ) (w:=w) (some d)
 have inv:=Ht hs.inv (some d)
 have hx:∀ o v,Rd κ w (.ptr d o) v→Rd (C1 κ d .dead) w (.ref sz x o) v:=fun o v hv =>
  Ag6 hob hl hb hd hsz st.keeps.out (fun b hb=>⟨hs.inv.bnd d b hb,by
   rintro (⟨q,hq⟩ | hq)
   ·by_cases hqd:q=d
    ·subst hqd;change (C1 κ q .dead q).block? = some b at hq;rw[As]at hq;cases hq
    ·change (C1 κ d .dead q).block? = some b at hq
     rw[Bq _ _ hqd]at hq
     exact hqd (hs.inv.inj q d b hq hb)
   ·exact hs.inv.apart d b hb hq⟩) hxd o v hv
 refine hg (C1 κ d .dead) a w ⟨hs.defers,hs.size,inv,hs.ctx.step inv st,fun j=>Agq st hx _ _ (hs.slot j),fun j=>?_⟩
 show ObOK _ w j (bif Nat.beq j d then .non else frbO d sz x (s.h j))
 by_cases hj:j=d
 ·subst hj;rw[show Nat.beq j j=true from Nat.beq_refl j];trivial
 ·rw[show Nat.beq j d=false from by cases hb:Nat.beq j d with | false=>rfl | true=>exact absurd (Nat.eq_of_beq_eq_true hb) hj]
  have hb:=ObOK.step st (fun e=>hj (Option.some.inj e).symm) _ (hs.obj j)
  have h0:=hs.obj j
  show ObOK _ w j (frbO d sz x (s.h j))
  cases hh:s.h j with
  | box m =>
   rw[hh]at h0 hb
   obtain ⟨b,cs,T,fr,e1,e2,e3,e4,e5⟩:=h0
   exact⟨b,cs,T,fr,by show C1 κ d .dead j=_;rw[Bq _ _ hj];exact e1,e2,e3,e4,Ok st hx m cs e5⟩
  | fresh=>rw[hh]at hb;exact hb
  | non=>rw[hh]at hb;exact hb
  | row sz' e' l'=>rw[hh]at hb;exact hb
  | lit sz' svs=>rw[hh]at hb;exact hb
  | glob sz' x' g'=>rw[hh]at hb;exact hb
  | pin b' n' cap' sz' e' l'=>rw[hh]at hb;exact hb
  | dat v' sz' e' l'=>rw[hh]at hb;exact hb
theorem Ap {C:Cx} {k:List KI} {s:SS} (d sz:Nat) {α:Type} (e:α→SV) (h:s.σ d=.val (.slice none 0 0)) (hg:G C k ⟨upd s.σ d (.sl sz e []),s.h⟩):G C k s :=
 G_set d (fun κ w v hv=>by
  rw[h]at hv
  simp only[Rd]at hv
  simp only[Rd,RdD]
  exact .inl ⟨Y,none,0,hv⟩) hg
end Go.Sy
namespace Go.Sy.YteinjapglfkamaaGreat
open Go.Proofs
set_option maxRecDepth 100000
theorem ty1:A7 Tryz.prog 1=some ⟨.func,1,[.nilFunc]⟩:=by kernel_rfl
theorem ty2:A7 Tryz.prog 2=some ⟨.int .i64,1,[.int .i64 0]⟩:=by kernel_rfl
theorem ty3:A7 Tryz.prog 3=some ⟨.int .i64,1,[.int .i64 0]⟩:=by kernel_rfl
theorem ty4:A7 Tryz.prog 4=some ⟨.bool,1,[.bool false]⟩:=by kernel_rfl
theorem ty5:A7 Tryz.prog 5=some ⟨.int .u8,1,[.int .u8 0]⟩:=by kernel_rfl
theorem ty9:A7 Tryz.prog 9=some ⟨.string,1,[.string .empty]⟩:=by kernel_rfl
theorem ty20:A7 Tryz.prog 20=some ⟨.iface,1,[.nilIface]⟩:=by kernel_rfl
theorem ty22:A7 Tryz.prog 22=some ⟨.slice 77 5 48 [.int .i64 0,.int .i64 0,.string .empty,.int .u64 0,.int .u32 0],1,[.slice none 0 0]⟩:=by kernel_rfl
theorem ty23:A7 Tryz.prog 23=some ⟨.slice 67 7 80 [.int .i64 0,.int .i64 0,.int .i64 0,.int .i64 0,.int .i64 0,.string .empty,.slice none 0 0],1,[.slice none 0 0]⟩:=by kernel_rfl
theorem ty24:A7 Tryz.prog 24=some ⟨.slice 167 3 24 [.int .i64 0,.int .i64 0,.int .i64 0],1,[.slice none 0 0]⟩:=by kernel_rfl
theorem ty25:A7 Tryz.prog 25=some ⟨.slice 69 6 64 [.int .i64 0,.int .i64 0,.int .i64 0,.int .i64 0,.int .i64 0,.slice none 0 0],1,[.slice none 0 0]⟩:=by kernel_rfl
theorem ty26:A7 Tryz.prog 26=some ⟨.slice 171 4 32 [.int .i64 0,.int .i64 0,.int .i64 0,.int .u64 0],1,[.slice none 0 0]⟩:=by kernel_rfl
theorem ty27:A7 Tryz.prog 27=some ⟨.slice 72 4 48 [.int .i64 0,.int .i64 0,.int .i64 0,.slice none 0 0],1,[.slice none 0 0]⟩:=by kernel_rfl
theorem ty28:A7 Tryz.prog 28=some ⟨.slice 74 5 80 [.int .i64 0,.int .i64 0,.string .empty,.slice none 0 0,.slice none 0 0],1,[.slice none 0 0]⟩:=by kernel_rfl
theorem ty29:A7 Tryz.prog 29=some ⟨.slice 119 5 40 [.int .i64 0,.int .i64 0,.int .i64 0,.int .u32 0,.int .i64 0],1,[.slice none 0 0]⟩:=by kernel_rfl
theorem ty31:A7 Tryz.prog 31=some ⟨.struct [(0,1),(1,1),(2,1),(3,1),(4,1),(5,1),(6,1),(7,1)],8,[.slice none 0 0,.slice none 0 0,.slice none 0 0,.slice none 0 0,.slice none 0 0,.slice none 0 0,.slice none 0 0,.slice none 0 0]⟩:=by kernel_rfl
theorem ty34:A7 Tryz.prog 34=some ⟨.slice 93 4 32 [.int .i64 0,.int .i64 0,.int .i64 0,.int .u32 0],1,[.slice none 0 0]⟩:=by kernel_rfl
theorem ty37:A7 Tryz.prog 37=some ⟨.slice 102 4 32 [.int .i64 0,.int .i64 0,.int .i64 0,.int .u32 0],1,[.slice none 0 0]⟩:=by kernel_rfl
theorem ty43:A7 Tryz.prog 43=some ⟨.slice 5 1 1 [.int .u8 0],1,[.slice none 0 0]⟩:=by kernel_rfl
theorem ty44:A7 Tryz.prog 44=some ⟨.int .i64,1,[.int .i64 0]⟩:=by kernel_rfl
theorem ty50:A7 Tryz.prog 50=some ⟨.slice 80 6 80 [.int .i64 0,.int .i64 0,.int .i64 0,.int .i64 0,.slice none 0 0,.slice none 0 0],1,[.slice none 0 0]⟩:=by kernel_rfl
theorem ty56:A7 Tryz.prog 56=some ⟨.slice 3 1 8 [.int .i64 0],1,[.slice none 0 0]⟩:=by kernel_rfl
theorem ty57:A7 Tryz.prog 57=some ⟨.int .u64,1,[.int .u64 0]⟩:=by kernel_rfl
theorem ty67:A7 Tryz.prog 67=some ⟨.struct [(0,1),(1,1),(2,1),(3,1),(4,1),(5,1),(6,1)],7,[.int .i64 0,.int .i64 0,.int .i64 0,.int .i64 0,.int .i64 0,.string .empty,.slice none 0 0]⟩:=by kernel_rfl
theorem ty69:A7 Tryz.prog 69=some ⟨.struct [(0,1),(1,1),(2,1),(3,1),(4,1),(5,1)],6,[.int .i64 0,.int .i64 0,.int .i64 0,.int .i64 0,.int .i64 0,.slice none 0 0]⟩:=by kernel_rfl
theorem ty70:A7 Tryz.prog 70=some ⟨.slice 75 1 4 [.int .u32 0],1,[.slice none 0 0]⟩:=by kernel_rfl
theorem ty72:A7 Tryz.prog 72=some ⟨.struct [(0,1),(1,1),(2,1),(3,1)],4,[.int .i64 0,.int .i64 0,.int .i64 0,.slice none 0 0]⟩:=by kernel_rfl
theorem ty74:A7 Tryz.prog 74=some ⟨.struct [(0,1),(1,1),(2,1),(3,1),(4,1)],5,[.int .i64 0,.int .i64 0,.string .empty,.slice none 0 0,.slice none 0 0]⟩:=by kernel_rfl
theorem ty75:A7 Tryz.prog 75=some ⟨.int .u32,1,[.int .u32 0]⟩:=by kernel_rfl
theorem ty77:A7 Tryz.prog 77=some ⟨.struct [(0,1),(1,1),(2,1),(3,1),(4,1)],5,[.int .i64 0,.int .i64 0,.string .empty,.int .u64 0,.int .u32 0]⟩:=by kernel_rfl
theorem ty78:A7 Tryz.prog 78=some ⟨.slice 4 1 1 [.bool false],1,[.slice none 0 0]⟩:=by kernel_rfl
theorem ty80:A7 Tryz.prog 80=some ⟨.struct [(0,1),(1,1),(2,1),(3,1),(4,1),(5,1)],6,[.int .i64 0,.int .i64 0,.int .i64 0,.int .i64 0,.slice none 0 0,.slice none 0 0]⟩:=by kernel_rfl
theorem ty82:A7 Tryz.prog 82=some ⟨.ptr,1,[.pointer none]⟩:=by kernel_rfl
theorem ty83:A7 Tryz.prog 83=some ⟨.array 78 2 1,2,[.slice none 0 0,.slice none 0 0]⟩:=by kernel_rfl
theorem ty84:A7 Tryz.prog 84=some ⟨.slice 95 7 56 [.int .i64 0,.int .i64 0,.int .i64 0,.int .i64 0,.int .i64 0,.int .u32 0,.int .i64 0],1,[.slice none 0 0]⟩:=by kernel_rfl
theorem ty86:A7 Tryz.prog 86=some ⟨.struct [(0,8),(8,2),(10,1)],11,[.slice none 0 0,.slice none 0 0,.slice none 0 0,.slice none 0 0,.slice none 0 0,.slice none 0 0,.slice none 0 0,.slice none 0 0,.slice none 0 0,.slice none 0 0,.slice none 0 0]⟩:=by kernel_rfl
theorem ty91:A7 Tryz.prog 91=some ⟨.struct [(0,1),(1,1)],2,[.int .i64 0,.int .i64 0]⟩:=by kernel_rfl
theorem ty93:A7 Tryz.prog 93=some ⟨.struct [(0,1),(1,1),(2,1),(3,1)],4,[.int .i64 0,.int .i64 0,.int .i64 0,.int .u32 0]⟩:=by kernel_rfl
theorem ty95:A7 Tryz.prog 95=some ⟨.struct [(0,2),(2,4),(6,1)],7,[.int .i64 0,.int .i64 0,.int .i64 0,.int .i64 0,.int .i64 0,.int .u32 0,.int .i64 0]⟩:=by kernel_rfl
theorem ty97:A7 Tryz.prog 97=some ⟨.slice 100 2 32 [.slice none 0 0,.bool false],1,[.slice none 0 0]⟩:=by kernel_rfl
theorem ty100:A7 Tryz.prog 100=some ⟨.struct [(0,1),(1,1)],2,[.slice none 0 0,.bool false]⟩:=by kernel_rfl
theorem ty102:A7 Tryz.prog 102=some ⟨.struct [(0,1),(1,1),(2,1),(3,1)],4,[.int .i64 0,.int .i64 0,.int .i64 0,.int .u32 0]⟩:=by kernel_rfl
theorem ty105:A7 Tryz.prog 105=some ⟨.slice 108 3 24 [.int .i64 0,.int .i64 0,.int .u32 0],1,[.slice none 0 0]⟩:=by kernel_rfl
theorem ty108:A7 Tryz.prog 108=some ⟨.struct [(0,1),(1,1),(2,1)],3,[.int .i64 0,.int .i64 0,.int .u32 0]⟩:=by kernel_rfl
theorem ty110:A7 Tryz.prog 110=some ⟨.struct [(0,1),(1,1),(2,1),(3,1)],4,[.int .u64 0,.int .u64 0,.int .i64 0,.slice none 0 0]⟩:=by kernel_rfl
theorem ty112:A7 Tryz.prog 112=some ⟨.func,1,[.nilFunc]⟩:=by kernel_rfl
theorem ty115:A7 Tryz.prog 115=some ⟨.struct [(0,1),(1,1),(2,1),(3,1),(4,1),(5,1),(6,1)],7,[.int .i64 0,.int .i64 0,.int .i64 0,.int .i64 0,.int .u32 0,.int .u32 0,.slice none 0 0]⟩:=by kernel_rfl
theorem ty117:A7 Tryz.prog 117=some ⟨.struct [(0,1),(1,1)],2,[.int .u32 0,.int .i64 0]⟩:=by kernel_rfl
theorem ty119:A7 Tryz.prog 119=some ⟨.struct [(0,1),(1,1),(2,1),(3,2)],5,[.int .i64 0,.int .i64 0,.int .i64 0,.int .u32 0,.int .i64 0]⟩:=by kernel_rfl
theorem ty122:A7 Tryz.prog 122=some ⟨.func,1,[.nilFunc]⟩:=by kernel_rfl
theorem ty125:A7 Tryz.prog 125=some ⟨.ptr,1,[.pointer none]⟩:=by kernel_rfl
theorem ty128:A7 Tryz.prog 128=some ⟨.slice 263 3 40 [.int .i64 0,.int .i64 0,.slice none 0 0],1,[.slice none 0 0]⟩:=by kernel_rfl
theorem ty131:A7 Tryz.prog 131=some ⟨.func,1,[.nilFunc]⟩:=by kernel_rfl
theorem ty132:A7 Tryz.prog 132=some ⟨.slice 229 7 72 [.int .i64 0,.int .i64 0,.int .i64 0,.int .u64 0,.int .u64 0,.int .i64 0,.slice none 0 0],1,[.slice none 0 0]⟩:=by kernel_rfl
theorem ty160:A7 Tryz.prog 160=some ⟨.struct [(0,8)],8,[.slice none 0 0,.slice none 0 0,.slice none 0 0,.slice none 0 0,.slice none 0 0,.slice none 0 0,.slice none 0 0,.slice none 0 0]⟩:=by kernel_rfl
theorem ty162:A7 Tryz.prog 162=some ⟨.func,1,[.nilFunc]⟩:=by kernel_rfl
theorem ty164:A7 Tryz.prog 164=some ⟨.func,1,[.nilFunc]⟩:=by kernel_rfl
theorem ty167:A7 Tryz.prog 167=some ⟨.struct [(0,1),(1,1),(2,1)],3,[.int .i64 0,.int .i64 0,.int .i64 0]⟩:=by kernel_rfl
theorem ty168:A7 Tryz.prog 168=some ⟨.func,1,[.nilFunc]⟩:=by kernel_rfl
theorem ty171:A7 Tryz.prog 171=some ⟨.struct [(0,1),(1,1),(2,1),(3,1)],4,[.int .i64 0,.int .i64 0,.int .i64 0,.int .u64 0]⟩:=by kernel_rfl
theorem ty172:A7 Tryz.prog 172=some ⟨.func,1,[.nilFunc]⟩:=by kernel_rfl
theorem ty175:A7 Tryz.prog 175=some ⟨.func,1,[.nilFunc]⟩:=by kernel_rfl
theorem ty177:A7 Tryz.prog 177=some ⟨.func,1,[.nilFunc]⟩:=by kernel_rfl
theorem ty179:A7 Tryz.prog 179=some ⟨.func,1,[.nilFunc]⟩:=by kernel_rfl
theorem ty186:A7 Tryz.prog 186=some ⟨.slice 188 3 24 [.int .i64 0,.int .i64 0,.int .u32 0],1,[.slice none 0 0]⟩:=by kernel_rfl
theorem ty188:A7 Tryz.prog 188=some ⟨.struct [(0,1),(1,1),(2,1)],3,[.int .i64 0,.int .i64 0,.int .u32 0]⟩:=by kernel_rfl
theorem ty195:A7 Tryz.prog 195=some ⟨.int .u64,1,[.int .u64 0]⟩:=by kernel_rfl
theorem ty204:A7 Tryz.prog 204=some ⟨.ptr,1,[.pointer none]⟩:=by kernel_rfl
theorem ty209:A7 Tryz.prog 209=some ⟨.struct [(0,0),(0,1)],1,[.int .u32 0]⟩:=by kernel_rfl
theorem ty213:A7 Tryz.prog 213=some ⟨.struct [(0,0),(0,2)],2,[.int .i32 0,.int .u32 0]⟩:=by kernel_rfl
theorem ty215:A7 Tryz.prog 215=some ⟨.struct [(0,0),(0,1),(1,2)],3,[.int .u32 0,.int .i32 0,.int .u32 0]⟩:=by kernel_rfl
theorem ty217:A7 Tryz.prog 217=some ⟨.struct [(0,1),(1,3),(4,1)],5,[.slice none 0 0,.int .u32 0,.int .i32 0,.int .u32 0,.slice none 0 0]⟩:=by kernel_rfl
theorem ty218:A7 Tryz.prog 218=some ⟨.slice 251 1 24 [.slice none 0 0],1,[.slice none 0 0]⟩:=by kernel_rfl
theorem ty219:A7 Tryz.prog 219=some ⟨.slice 132 1 24 [.slice none 0 0],1,[.slice none 0 0]⟩:=by kernel_rfl
theorem ty222:A7 Tryz.prog 222=some ⟨.struct [(0,0),(0,0),(0,1)],1,[.int .i64 0]⟩:=by kernel_rfl
theorem ty223:A7 Tryz.prog 223=some ⟨.array 222 64 1,64,[.int .i64 0,.int .i64 0,.int .i64 0,.int .i64 0,.int .i64 0,.int .i64 0,.int .i64 0,.int .i64 0,.int .i64 0,.int .i64 0,.int .i64 0,.int .i64 0,.int .i64 0,.int .i64 0,.int .i64 0,.int .i64 0,.int .i64 0,.int .i64 0,.int .i64 0,.int .i64 0,.int .i64 0,.int .i64 0,.int .i64 0,.int .i64 0,.int .i64 0,.int .i64 0,.int .i64 0,.int .i64 0,.int .i64 0,.int .i64 0,.int .i64 0,.int .i64 0,.int .i64 0,.int .i64 0,.int .i64 0,.int .i64 0,.int .i64 0,.int .i64 0,.int .i64 0,.int .i64 0,.int .i64 0,.int .i64 0,.int .i64 0,.int .i64 0,.int .i64 0,.int .i64 0,.int .i64 0,.int .i64 0,.int .i64 0,.int .i64 0,.int .i64 0,.int .i64 0,.int .i64 0,.int .i64 0,.int .i64 0,.int .i64 0,.int .i64 0,.int .i64 0,.int .i64 0,.int .i64 0,.int .i64 0,.int .i64 0,.int .i64 0,.int .i64 0]⟩:=by kernel_rfl
theorem ty225:A7 Tryz.prog 225=some ⟨.struct [(0,8),(8,1),(9,1),(10,1),(11,1),(12,1),(13,64)],77,[.slice none 0 0,.slice none 0 0,.slice none 0 0,.slice none 0 0,.slice none 0 0,.slice none 0 0,.slice none 0 0,.slice none 0 0,.pointer none,.slice none 0 0,.slice none 0 0,.int .i64 0,.int .i64 0,.int .i64 0,.int .i64 0,.int .i64 0,.int .i64 0,.int .i64 0,.int .i64 0,.int .i64 0,.int .i64 0,.int .i64 0,.int .i64 0,.int .i64 0,.int .i64 0,.int .i64 0,.int .i64 0,.int .i64 0,.int .i64 0,.int .i64 0,.int .i64 0,.int .i64 0,.int .i64 0,.int .i64 0,.int .i64 0,.int .i64 0,.int .i64 0,.int .i64 0,.int .i64 0,.int .i64 0,.int .i64 0,.int .i64 0,.int .i64 0,.int .i64 0,.int .i64 0,.int .i64 0,.int .i64 0,.int .i64 0,.int .i64 0,.int .i64 0,.int .i64 0,.int .i64 0,.int .i64 0,.int .i64 0,.int .i64 0,.int .i64 0,.int .i64 0,.int .i64 0,.int .i64 0,.int .i64 0,.int .i64 0,.int .i64 0,.int .i64 0,.int .i64 0,.int .i64 0,.int .i64 0,.int .i64 0,.int .i64 0,.int .i64 0,.int .i64 0,.int .i64 0,.int .i64 0,.int .i64 0,.int .i64 0,.int .i64 0,.int .i64 0,.int .i64 0]⟩:=by kernel_rfl
theorem ty229:A7 Tryz.prog 229=some ⟨.struct [(0,1),(1,1),(2,1),(3,4)],7,[.int .i64 0,.int .i64 0,.int .i64 0,.int .u64 0,.int .u64 0,.int .i64 0,.slice none 0 0]⟩:=by kernel_rfl
theorem ty233:A7 Tryz.prog 233=some ⟨.func,1,[.nilFunc]⟩:=by kernel_rfl
theorem ty251:A7 Tryz.prog 251=some ⟨.slice 327 3 24 [.int .u64 0,.int .i64 0,.int .i64 0],1,[.slice none 0 0]⟩:=by kernel_rfl
theorem ty253:A7 Tryz.prog 253=some ⟨.func,1,[.nilFunc]⟩:=by kernel_rfl
theorem ty263:A7 Tryz.prog 263=some ⟨.struct [(0,1),(1,1),(2,1)],3,[.int .i64 0,.int .i64 0,.slice none 0 0]⟩:=by kernel_rfl
theorem ty265:A7 Tryz.prog 265=some ⟨.func,1,[.nilFunc]⟩:=by kernel_rfl
theorem ty273:A7 Tryz.prog 273=some ⟨.func,1,[.nilFunc]⟩:=by kernel_rfl
theorem ty280:A7 Tryz.prog 280=some ⟨.ptr,1,[.pointer none]⟩:=by kernel_rfl
theorem ty298:A7 Tryz.prog 298=some ⟨.slice 304 9 104 [.int .i64 0,.int .i64 0,.int .i64 0,.slice none 0 0,.int .u64 0,.int .u64 0,.int .i64 0,.slice none 0 0,.int .i64 0],1,[.slice none 0 0]⟩:=by kernel_rfl
theorem ty304:A7 Tryz.prog 304=some ⟨.struct [(0,1),(1,1),(2,1),(3,1),(4,4),(8,1)],9,[.int .i64 0,.int .i64 0,.int .i64 0,.slice none 0 0,.int .u64 0,.int .u64 0,.int .i64 0,.slice none 0 0,.int .i64 0]⟩:=by kernel_rfl
theorem ty327:A7 Tryz.prog 327=some ⟨.struct [(0,1),(1,1),(2,1)],3,[.int .u64 0,.int .i64 0,.int .i64 0]⟩:=by kernel_rfl
theorem ty334:A7 Tryz.prog 334=some ⟨.func,1,[.nilFunc]⟩:=by kernel_rfl
theorem ty345:A7 Tryz.prog 345=some ⟨.struct [(0,8),(8,1),(9,1),(10,1),(11,1)],12,[.slice none 0 0,.slice none 0 0,.slice none 0 0,.slice none 0 0,.slice none 0 0,.slice none 0 0,.slice none 0 0,.slice none 0 0,.slice none 0 0,.slice none 0 0,.slice none 0 0,.slice none 0 0]⟩:=by kernel_rfl
theorem ty363:A7 Tryz.prog 363=some ⟨.func,1,[.nilFunc]⟩:=by kernel_rfl
theorem ty393:A7 Tryz.prog 393=some ⟨.func,1,[.nilFunc]⟩:=by kernel_rfl
theorem ty397:A7 Tryz.prog 397=some ⟨.ptr,1,[.pointer none]⟩:=by kernel_rfl
theorem ty399:A7 Tryz.prog 399=some ⟨.slice 402 3 24 [.int .i64 0,.int .i64 0,.int .i64 0],1,[.slice none 0 0]⟩:=by kernel_rfl
theorem ty402:A7 Tryz.prog 402=some ⟨.struct [(0,1),(1,1),(2,1)],3,[.int .i64 0,.int .i64 0,.int .i64 0]⟩:=by kernel_rfl
theorem ty405:A7 Tryz.prog 405=some ⟨.slice 406 5 40 [.int .i64 0,.int .i64 0,.int .i64 0,.int .i64 0,.int .i64 0],1,[.slice none 0 0]⟩:=by kernel_rfl
theorem ty406:A7 Tryz.prog 406=some ⟨.struct [(0,1),(1,1),(2,1),(3,1),(4,1)],5,[.int .i64 0,.int .i64 0,.int .i64 0,.int .i64 0,.int .i64 0]⟩:=by kernel_rfl
theorem ty410:A7 Tryz.prog 410=some ⟨.ptr,1,[.pointer none]⟩:=by kernel_rfl
theorem ty415:A7 Tryz.prog 415=some ⟨.struct [(0,8),(8,1),(9,1),(10,1),(11,1)],12,[.slice none 0 0,.slice none 0 0,.slice none 0 0,.slice none 0 0,.slice none 0 0,.slice none 0 0,.slice none 0 0,.slice none 0 0,.slice none 0 0,.int .i64 0,.int .i64 0,.slice none 0 0]⟩:=by kernel_rfl
theorem ty423:A7 Tryz.prog 423=some ⟨.struct [(0,8)],8,[.slice none 0 0,.slice none 0 0,.slice none 0 0,.slice none 0 0,.slice none 0 0,.slice none 0 0,.slice none 0 0,.slice none 0 0]⟩:=by kernel_rfl
theorem ty427:A7 Tryz.prog 427=some ⟨.ptr,1,[.pointer none]⟩:=by kernel_rfl
theorem ty428:A7 Tryz.prog 428=some ⟨.ptr,1,[.pointer none]⟩:=by kernel_rfl
theorem ty430:A7 Tryz.prog 430=some ⟨.ptr,1,[.pointer none]⟩:=by kernel_rfl
theorem ty455:A7 Tryz.prog 455=some ⟨.iface,1,[.nilIface]⟩:=by kernel_rfl
theorem ty470:A7 Tryz.prog 470=some ⟨.ptr,1,[.pointer none]⟩:=by kernel_rfl
theorem ty472:A7 Tryz.prog 472=some ⟨.ptr,1,[.pointer none]⟩:=by kernel_rfl
theorem ty474:A7 Tryz.prog 474=some ⟨.ptr,1,[.pointer none]⟩:=by kernel_rfl
theorem ty476:A7 Tryz.prog 476=some ⟨.struct [(0,7),(7,1)],8,[.int .i64 0,.int .i64 0,.int .i64 0,.int .i64 0,.int .u32 0,.int .u32 0,.slice none 0 0,.int .i64 0]⟩:=by kernel_rfl
theorem ty478:A7 Tryz.prog 478=some ⟨.struct [(0,8),(8,1)],9,[.int .i64 0,.int .i64 0,.int .i64 0,.int .i64 0,.int .u32 0,.int .u32 0,.slice none 0 0,.int .i64 0,.int .i64 0]⟩:=by kernel_rfl
theorem ty481:A7 Tryz.prog 481=some ⟨.func,1,[.nilFunc]⟩:=by kernel_rfl
theorem ty491:A7 Tryz.prog 491=some ⟨.array 3 4 1,4,[.int .i64 0,.int .i64 0,.int .i64 0,.int .i64 0]⟩:=by kernel_rfl
theorem ty502:A7 Tryz.prog 502=some ⟨.func,1,[.nilFunc]⟩:=by kernel_rfl
theorem tq77:Jm Tryz.prog 77=some [.int .i64,.int .i64,.string,.int .u64,.int .u32]:=by kernel_rfl
theorem tq91:Jm Tryz.prog 91=some [.int .i64,.int .i64]:=by kernel_rfl
theorem tq93:Jm Tryz.prog 93=some [.int .i64,.int .i64,.int .i64,.int .u32]:=by kernel_rfl
theorem tq102:Jm Tryz.prog 102=some [.int .i64,.int .i64,.int .i64,.int .u32]:=by kernel_rfl
theorem tq108:Jm Tryz.prog 108=some [.int .i64,.int .i64,.int .u32]:=by kernel_rfl
theorem tq117:Jm Tryz.prog 117=some [.int .u32,.int .i64]:=by kernel_rfl
theorem tq167:Jm Tryz.prog 167=some [.int .i64,.int .i64,.int .i64]:=by kernel_rfl
theorem tq171:Jm Tryz.prog 171=some [.int .i64,.int .i64,.int .i64,.int .u64]:=by kernel_rfl
theorem tq188:Jm Tryz.prog 188=some [.int .i64,.int .i64,.int .u32]:=by kernel_rfl
theorem tq327:Jm Tryz.prog 327=some [.int .u64,.int .i64,.int .i64]:=by kernel_rfl
theorem tq402:Jm Tryz.prog 402=some [.int .i64,.int .i64,.int .i64]:=by kernel_rfl
theorem tq406:Jm Tryz.prog 406=some [.int .i64,.int .i64,.int .i64,.int .i64,.int .i64]:=by kernel_rfl
def tab:Tr TI:=(.nd 164 (⟨.func,1,[.nilFunc]⟩) (.nd 75 (⟨.int .u32,1,[.int .u32 0]⟩) (.nd 29 (⟨.slice 119 5 40 [.int .i64 0,.int .i64 0,.int .i64 0,.int .u32 0,.int .i64 0],1,[.slice none 0 0]⟩) (.nd 22 (⟨.slice 77 5 48 [.int .i64 0,.int .i64 0,.string .empty,.int .u64 0,.int .u32 0],1,[.slice none 0 0]⟩) (.nd 4 (⟨.bool,1,[.bool false]⟩) (.nd 2 (⟨.int .i64,1,[.int .i64 0]⟩) (.nd 1 (⟨.func,1,[.nilFunc]⟩) .lf .lf) (.nd 3 (⟨.int .i64,1,[.int .i64 0]⟩) .lf .lf)) (.nd 9 (⟨.string,1,[.string .empty]⟩) (.nd 5 (⟨.int .u8,1,[.int .u8 0]⟩) .lf .lf) (.nd 20 (⟨.iface,1,[.nilIface]⟩) .lf .lf))) (.nd 26 (⟨.slice 171 4 32 [.int .i64 0,.int .i64 0,.int .i64 0,.int .u64 0],1,[.slice none 0 0]⟩) (.nd 24 (⟨.slice 167 3 24 [.int .i64 0,.int .i64 0,.int .i64 0],1,[.slice none 0 0]⟩) (.nd 23 (⟨.slice 67 7 80 [.int .i64 0,.int .i64 0,.int .i64 0,.int .i64 0,.int .i64 0,.string .empty,.slice none 0 0],1,[.slice none 0 0]⟩) .lf .lf) (.nd 25 (⟨.slice 69 6 64 [.int .i64 0,.int .i64 0,.int .i64 0,.int .i64 0,.int .i64 0,.slice none 0 0],1,[.slice none 0 0]⟩) .lf .lf)) (.nd 28 (⟨.slice 74 5 80 [.int .i64 0,.int .i64 0,.string .empty,.slice none 0 0,.slice none 0 0],1,[.slice none 0 0]⟩) (.nd 27 (⟨.slice 72 4 48 [.int .i64 0,.int .i64 0,.int .i64 0,.slice none 0 0],1,[.slice none 0 0]⟩) .lf .lf) .lf))) (.nd 56 (⟨.slice 3 1 8 [.int .i64 0],1,[.slice none 0 0]⟩) (.nd 43 (⟨.slice 5 1 1 [.int .u8 0],1,[.slice none 0 0]⟩) (.nd 34 (⟨.slice 93 4 32 [.int .i64 0,.int .i64 0,.int .i64 0,.int .u32 0],1,[.slice none 0 0]⟩) (.nd 31 (⟨.struct [(0,1),(1,1),(2,1),(3,1),(4,1),(5,1),(6,1),(7,1)],8,[.slice none 0 0,.slice none 0 0,.slice none 0 0,.slice none 0 0,.slice none 0 0,.slice none 0 0,.slice none 0 0,.slice none 0 0]⟩) .lf .lf) (.nd 37 (⟨.slice 102 4 32 [.int .i64 0,.int .i64 0,.int .i64 0,.int .u32 0],1,[.slice none 0 0]⟩) .lf .lf)) (.nd 50 (⟨.slice 80 6 80 [.int .i64 0,.int .i64 0,.int .i64 0,.int .i64 0,.slice none 0 0,.slice none 0 0],1,[.slice none 0 0]⟩) (.nd 44 (⟨.int .i64,1,[.int .i64 0]⟩) .lf .lf) .lf)) (.nd 70 (⟨.slice 75 1 4 [.int .u32 0],1,[.slice none 0 0]⟩) (.nd 67 (⟨.struct [(0,1),(1,1),(2,1),(3,1),(4,1),(5,1),(6,1)],7,[.int .i64 0,.int .i64 0,.int .i64 0,.int .i64 0,.int .i64 0,.string .empty,.slice none 0 0]⟩) (.nd 57 (⟨.int .u64,1,[.int .u64 0]⟩) .lf .lf) (.nd 69 (⟨.struct [(0,1),(1,1),(2,1),(3,1),(4,1),(5,1)],6,[.int .i64 0,.int .i64 0,.int .i64 0,.int .i64 0,.int .i64 0,.slice none 0 0]⟩) .lf .lf)) (.nd 74 (⟨.struct [(0,1),(1,1),(2,1),(3,1),(4,1)],5,[.int .i64 0,.int .i64 0,.string .empty,.slice none 0 0,.slice none 0 0]⟩) (.nd 72 (⟨.struct [(0,1),(1,1),(2,1),(3,1)],4,[.int .i64 0,.int .i64 0,.int .i64 0,.slice none 0 0]⟩) .lf .lf) .lf)))) (.nd 105 (⟨.slice 108 3 24 [.int .i64 0,.int .i64 0,.int .u32 0],1,[.slice none 0 0]⟩) (.nd 86 (⟨.struct [(0,8),(8,2),(10,1)],11,[.slice none 0 0,.slice none 0 0,.slice none 0 0,.slice none 0 0,.slice none 0 0,.slice none 0 0,.slice none 0 0,.slice none 0 0,.slice none 0 0,.slice none 0 0,.slice none 0 0]⟩) (.nd 82 (⟨.ptr,1,[.pointer none]⟩) (.nd 78 (⟨.slice 4 1 1 [.bool false],1,[.slice none 0 0]⟩) (.nd 77 (⟨.struct [(0,1),(1,1),(2,1),(3,1),(4,1)],5,[.int .i64 0,.int .i64 0,.string .empty,.int .u64 0,.int .u32 0]⟩) .lf .lf) (.nd 80 (⟨.struct [(0,1),(1,1),(2,1),(3,1),(4,1),(5,1)],6,[.int .i64 0,.int .i64 0,.int .i64 0,.int .i64 0,.slice none 0 0,.slice none 0 0]⟩) .lf .lf)) (.nd 84 (⟨.slice 95 7 56 [.int .i64 0,.int .i64 0,.int .i64 0,.int .i64 0,.int .i64 0,.int .u32 0,.int .i64 0],1,[.slice none 0 0]⟩) (.nd 83 (⟨.array 78 2 1,2,[.slice none 0 0,.slice none 0 0]⟩) .lf .lf) .lf)) (.nd 97 (⟨.slice 100 2 32 [.slice none 0 0,.bool false],1,[.slice none 0 0]⟩) (.nd 93 (⟨.struct [(0,1),(1,1),(2,1),(3,1)],4,[.int .i64 0,.int .i64 0,.int .i64 0,.int .u32 0]⟩) (.nd 91 (⟨.struct [(0,1),(1,1)],2,[.int .i64 0,.int .i64 0]⟩) .lf .lf) (.nd 95 (⟨.struct [(0,2),(2,4),(6,1)],7,[.int .i64 0,.int .i64 0,.int .i64 0,.int .i64 0,.int .i64 0,.int .u32 0,.int .i64 0]⟩) .lf .lf)) (.nd 102 (⟨.struct [(0,1),(1,1),(2,1),(3,1)],4,[.int .i64 0,.int .i64 0,.int .i64 0,.int .u32 0]⟩) (.nd 100 (⟨.struct [(0,1),(1,1)],2,[.slice none 0 0,.bool false]⟩) .lf .lf) .lf))) (.nd 122 (⟨.func,1,[.nilFunc]⟩) (.nd 115 (⟨.struct [(0,1),(1,1),(2,1),(3,1),(4,1),(5,1),(6,1)],7,[.int .i64 0,.int .i64 0,.int .i64 0,.int .i64 0,.int .u32 0,.int .u32 0,.slice none 0 0]⟩) (.nd 110 (⟨.struct [(0,1),(1,1),(2,1),(3,1)],4,[.int .u64 0,.int .u64 0,.int .i64 0,.slice none 0 0]⟩) (.nd 108 (⟨.struct [(0,1),(1,1),(2,1)],3,[.int .i64 0,.int .i64 0,.int .u32 0]⟩) .lf .lf) (.nd 112 (⟨.func,1,[.nilFunc]⟩) .lf .lf)) (.nd 119 (⟨.struct [(0,1),(1,1),(2,1),(3,2)],5,[.int .i64 0,.int .i64 0,.int .i64 0,.int .u32 0,.int .i64 0]⟩) (.nd 117 (⟨.struct [(0,1),(1,1)],2,[.int .u32 0,.int .i64 0]⟩) .lf .lf) .lf)) (.nd 132 (⟨.slice 229 7 72 [.int .i64 0,.int .i64 0,.int .i64 0,.int .u64 0,.int .u64 0,.int .i64 0,.slice none 0 0],1,[.slice none 0 0]⟩) (.nd 128 (⟨.slice 263 3 40 [.int .i64 0,.int .i64 0,.slice none 0 0],1,[.slice none 0 0]⟩) (.nd 125 (⟨.ptr,1,[.pointer none]⟩) .lf .lf) (.nd 131 (⟨.func,1,[.nilFunc]⟩) .lf .lf)) (.nd 162 (⟨.func,1,[.nilFunc]⟩) (.nd 160 (⟨.struct [(0,8)],8,[.slice none 0 0,.slice none 0 0,.slice none 0 0,.slice none 0 0,.slice none 0 0,.slice none 0 0,.slice none 0 0,.slice none 0 0]⟩) .lf .lf) .lf))))) (.nd 280 (⟨.ptr,1,[.pointer none]⟩) (.nd 215 (⟨.struct [(0,0),(0,1),(1,2)],3,[.int .u32 0,.int .i32 0,.int .u32 0]⟩) (.nd 179 (⟨.func,1,[.nilFunc]⟩) (.nd 172 (⟨.func,1,[.nilFunc]⟩) (.nd 168 (⟨.func,1,[.nilFunc]⟩) (.nd 167 (⟨.struct [(0,1),(1,1),(2,1)],3,[.int .i64 0,.int .i64 0,.int .i64 0]⟩) .lf .lf) (.nd 171 (⟨.struct [(0,1),(1,1),(2,1),(3,1)],4,[.int .i64 0,.int .i64 0,.int .i64 0,.int .u64 0]⟩) .lf .lf)) (.nd 177 (⟨.func,1,[.nilFunc]⟩) (.nd 175 (⟨.func,1,[.nilFunc]⟩) .lf .lf) .lf)) (.nd 204 (⟨.ptr,1,[.pointer none]⟩) (.nd 188 (⟨.struct [(0,1),(1,1),(2,1)],3,[.int .i64 0,.int .i64 0,.int .u32 0]⟩) (.nd 186 (⟨.slice 188 3 24 [.int .i64 0,.int .i64 0,.int .u32 0],1,[.slice none 0 0]⟩) .lf .lf) (.nd 195 (⟨.int .u64,1,[.int .u64 0]⟩) .lf .lf)) (.nd 213 (⟨.struct [(0,0),(0,2)],2,[.int .i32 0,.int .u32 0]⟩) (.nd 209 (⟨.struct [(0,0),(0,1)],1,[.int .u32 0]⟩) .lf .lf) .lf))) (.nd 229 (⟨.struct [(0,1),(1,1),(2,1),(3,4)],7,[.int .i64 0,.int .i64 0,.int .i64 0,.int .u64 0,.int .u64 0,.int .i64 0,.slice none 0 0]⟩) (.nd 222 (⟨.struct [(0,0),(0,0),(0,1)],1,[.int .i64 0]⟩) (.nd 218 (⟨.slice 251 1 24 [.slice none 0 0],1,[.slice none 0 0]⟩) (.nd 217 (⟨.struct [(0,1),(1,3),(4,1)],5,[.slice none 0 0,.int .u32 0,.int .i32 0,.int .u32 0,.slice none 0 0]⟩) .lf .lf) (.nd 219 (⟨.slice 132 1 24 [.slice none 0 0],1,[.slice none 0 0]⟩) .lf .lf)) (.nd 225 (⟨.struct [(0,8),(8,1),(9,1),(10,1),(11,1),(12,1),(13,64)],77,[.slice none 0 0,.slice none 0 0,.slice none 0 0,.slice none 0 0,.slice none 0 0,.slice none 0 0,.slice none 0 0,.slice none 0 0,.pointer none,.slice none 0 0,.slice none 0 0,.int .i64 0,.int .i64 0,.int .i64 0,.int .i64 0,.int .i64 0,.int .i64 0,.int .i64 0,.int .i64 0,.int .i64 0,.int .i64 0,.int .i64 0,.int .i64 0,.int .i64 0,.int .i64 0,.int .i64 0,.int .i64 0,.int .i64 0,.int .i64 0,.int .i64 0,.int .i64 0,.int .i64 0,.int .i64 0,.int .i64 0,.int .i64 0,.int .i64 0,.int .i64 0,.int .i64 0,.int .i64 0,.int .i64 0,.int .i64 0,.int .i64 0,.int .i64 0,.int .i64 0,.int .i64 0,.int .i64 0,.int .i64 0,.int .i64 0,.int .i64 0,.int .i64 0,.int .i64 0,.int .i64 0,.int .i64 0,.int .i64 0,.int .i64 0,.int .i64 0,.int .i64 0,.int .i64 0,.int .i64 0,.int .i64 0,.int .i64 0,.int .i64 0,.int .i64 0,.int .i64 0,.int .i64 0,.int .i64 0,.int .i64 0,.int .i64 0,.int .i64 0,.int .i64 0,.int .i64 0,.int .i64 0,.int .i64 0,.int .i64 0,.int .i64 0,.int .i64 0,.int .i64 0]⟩) (.nd 223 (⟨.array 222 64 1,64,[.int .i64 0,.int .i64 0,.int .i64 0,.int .i64 0,.int .i64 0,.int .i64 0,.int .i64 0,.int .i64 0,.int .i64 0,.int .i64 0,.int .i64 0,.int .i64 0,.int .i64 0,.int .i64 0,.int .i64 0,.int .i64 0,.int .i64 0,.int .i64 0,.int .i64 0,.int .i64 0,.int .i64 0,.int .i64 0,.int .i64 0,.int .i64 0,.int .i64 0,.int .i64 0,.int .i64 0,.int .i64 0,.int .i64 0,.int .i64 0,.int .i64 0,.int .i64 0,.int .i64 0,.int .i64 0,.int .i64 0,.int .i64 0,.int .i64 0,.int .i64 0,.int .i64 0,.int .i64 0,.int .i64 0,.int .i64 0,.int .i64 0,.int .i64 0,.int .i64 0,.int .i64 0,.int .i64 0,.int .i64 0,.int .i64 0,.int .i64 0,.int .i64 0,.int .i64 0,.int .i64 0,.int .i64 0,.int .i64 0,.int .i64 0,.int .i64 0,.int .i64 0,.int .i64 0,.int .i64 0,.int .i64 0,.int .i64 0,.int .i64 0,.int .i64 0]⟩) .lf .lf) .lf)) (.nd 263 (⟨.struct [(0,1),(1,1),(2,1)],3,[.int .i64 0,.int .i64 0,.slice none 0 0]⟩) (.nd 251 (⟨.slice 327 3 24 [.int .u64 0,.int .i64 0,.int .i64 0],1,[.slice none 0 0]⟩) (.nd 233 (⟨.func,1,[.nilFunc]⟩) .lf .lf) (.nd 253 (⟨.func,1,[.nilFunc]⟩) .lf .lf)) (.nd 273 (⟨.func,1,[.nilFunc]⟩) (.nd 265 (⟨.func,1,[.nilFunc]⟩) .lf .lf) .lf)))) (.nd 415 (⟨.struct [(0,8),(8,1),(9,1),(10,1),(11,1)],12,[.slice none 0 0,.slice none 0 0,.slice none 0 0,.slice none 0 0,.slice none 0 0,.slice none 0 0,.slice none 0 0,.slice none 0 0,.slice none 0 0,.int .i64 0,.int .i64 0,.slice none 0 0]⟩) (.nd 393 (⟨.func,1,[.nilFunc]⟩) (.nd 334 (⟨.func,1,[.nilFunc]⟩) (.nd 304 (⟨.struct [(0,1),(1,1),(2,1),(3,1),(4,4),(8,1)],9,[.int .i64 0,.int .i64 0,.int .i64 0,.slice none 0 0,.int .u64 0,.int .u64 0,.int .i64 0,.slice none 0 0,.int .i64 0]⟩) (.nd 298 (⟨.slice 304 9 104 [.int .i64 0,.int .i64 0,.int .i64 0,.slice none 0 0,.int .u64 0,.int .u64 0,.int .i64 0,.slice none 0 0,.int .i64 0],1,[.slice none 0 0]⟩) .lf .lf) (.nd 327 (⟨.struct [(0,1),(1,1),(2,1)],3,[.int .u64 0,.int .i64 0,.int .i64 0]⟩) .lf .lf)) (.nd 363 (⟨.func,1,[.nilFunc]⟩) (.nd 345 (⟨.struct [(0,8),(8,1),(9,1),(10,1),(11,1)],12,[.slice none 0 0,.slice none 0 0,.slice none 0 0,.slice none 0 0,.slice none 0 0,.slice none 0 0,.slice none 0 0,.slice none 0 0,.slice none 0 0,.slice none 0 0,.slice none 0 0,.slice none 0 0]⟩) .lf .lf) .lf)) (.nd 405 (⟨.slice 406 5 40 [.int .i64 0,.int .i64 0,.int .i64 0,.int .i64 0,.int .i64 0],1,[.slice none 0 0]⟩) (.nd 399 (⟨.slice 402 3 24 [.int .i64 0,.int .i64 0,.int .i64 0],1,[.slice none 0 0]⟩) (.nd 397 (⟨.ptr,1,[.pointer none]⟩) .lf .lf) (.nd 402 (⟨.struct [(0,1),(1,1),(2,1)],3,[.int .i64 0,.int .i64 0,.int .i64 0]⟩) .lf .lf)) (.nd 410 (⟨.ptr,1,[.pointer none]⟩) (.nd 406 (⟨.struct [(0,1),(1,1),(2,1),(3,1),(4,1)],5,[.int .i64 0,.int .i64 0,.int .i64 0,.int .i64 0,.int .i64 0]⟩) .lf .lf) .lf))) (.nd 472 (⟨.ptr,1,[.pointer none]⟩) (.nd 430 (⟨.ptr,1,[.pointer none]⟩) (.nd 427 (⟨.ptr,1,[.pointer none]⟩) (.nd 423 (⟨.struct [(0,8)],8,[.slice none 0 0,.slice none 0 0,.slice none 0 0,.slice none 0 0,.slice none 0 0,.slice none 0 0,.slice none 0 0,.slice none 0 0]⟩) .lf .lf) (.nd 428 (⟨.ptr,1,[.pointer none]⟩) .lf .lf)) (.nd 470 (⟨.ptr,1,[.pointer none]⟩) (.nd 455 (⟨.iface,1,[.nilIface]⟩) .lf .lf) .lf)) (.nd 481 (⟨.func,1,[.nilFunc]⟩) (.nd 476 (⟨.struct [(0,7),(7,1)],8,[.int .i64 0,.int .i64 0,.int .i64 0,.int .i64 0,.int .u32 0,.int .u32 0,.slice none 0 0,.int .i64 0]⟩) (.nd 474 (⟨.ptr,1,[.pointer none]⟩) .lf .lf) (.nd 478 (⟨.struct [(0,8),(8,1)],9,[.int .i64 0,.int .i64 0,.int .i64 0,.int .i64 0,.int .u32 0,.int .u32 0,.slice none 0 0,.int .i64 0,.int .i64 0]⟩) .lf .lf)) (.nd 502 (⟨.func,1,[.nilFunc]⟩) (.nd 491 (⟨.array 3 4 1,4,[.int .i64 0,.int .i64 0,.int .i64 0,.int .i64 0]⟩) .lf .lf) .lf))))))
def etab:Tr (List EK):=(.nd 167 ([.int .i64,.int .i64,.int .i64]) (.nd 102 ([.int .i64,.int .i64,.int .i64,.int .u32]) (.nd 91 ([.int .i64,.int .i64]) (.nd 77 ([.int .i64,.int .i64,.string,.int .u64,.int .u32]) .lf .lf) (.nd 93 ([.int .i64,.int .i64,.int .i64,.int .u32]) .lf .lf)) (.nd 117 ([.int .u32,.int .i64]) (.nd 108 ([.int .i64,.int .i64,.int .u32]) .lf .lf) .lf)) (.nd 327 ([.int .u64,.int .i64,.int .i64]) (.nd 188 ([.int .i64,.int .i64,.int .u32]) (.nd 171 ([.int .i64,.int .i64,.int .i64,.int .u64]) .lf .lf) .lf) (.nd 406 ([.int .i64,.int .i64,.int .i64,.int .i64,.int .i64]) (.nd 402 ([.int .i64,.int .i64,.int .i64]) .lf .lf) .lf)))
theorem tab_ok:tab.all (fun t i=>A7 Tryz.prog t=some i):=⟨ty164,⟨ty75,⟨ty29,⟨ty22,⟨ty4,⟨ty2,⟨ty1,trivial,trivial⟩,⟨ty3,trivial,trivial⟩⟩,⟨ty9,⟨ty5,trivial,trivial⟩,⟨ty20,trivial,trivial⟩⟩⟩,⟨ty26,⟨ty24,⟨ty23,trivial,trivial⟩,⟨ty25,trivial,trivial⟩⟩,⟨ty28,⟨ty27,trivial,trivial⟩,trivial⟩⟩⟩,⟨ty56,⟨ty43,⟨ty34,⟨ty31,trivial,trivial⟩,⟨ty37,trivial,trivial⟩⟩,⟨ty50,⟨ty44,trivial,trivial⟩,trivial⟩⟩,⟨ty70,⟨ty67,⟨ty57,trivial,trivial⟩,⟨ty69,trivial,trivial⟩⟩,⟨ty74,⟨ty72,trivial,trivial⟩,trivial⟩⟩⟩⟩,⟨ty105,⟨ty86,⟨ty82,⟨ty78,⟨ty77,trivial,trivial⟩,⟨ty80,trivial,trivial⟩⟩,⟨ty84,⟨ty83,trivial,trivial⟩,trivial⟩⟩,⟨ty97,⟨ty93,⟨ty91,trivial,trivial⟩,⟨ty95,trivial,trivial⟩⟩,⟨ty102,⟨ty100,trivial,trivial⟩,trivial⟩⟩⟩,⟨ty122,⟨ty115,⟨ty110,⟨ty108,trivial,trivial⟩,⟨ty112,trivial,trivial⟩⟩,⟨ty119,⟨ty117,trivial,trivial⟩,trivial⟩⟩,⟨ty132,⟨ty128,⟨ty125,trivial,trivial⟩,⟨ty131,trivial,trivial⟩⟩,⟨ty162,⟨ty160,trivial,trivial⟩,trivial⟩⟩⟩⟩⟩,⟨ty280,⟨ty215,⟨ty179,⟨ty172,⟨ty168,⟨ty167,trivial,trivial⟩,⟨ty171,trivial,trivial⟩⟩,⟨ty177,⟨ty175,trivial,trivial⟩,trivial⟩⟩,⟨ty204,⟨ty188,⟨ty186,trivial,trivial⟩,⟨ty195,trivial,trivial⟩⟩,⟨ty213,⟨ty209,trivial,trivial⟩,trivial⟩⟩⟩,⟨ty229,⟨ty222,⟨ty218,⟨ty217,trivial,trivial⟩,⟨ty219,trivial,trivial⟩⟩,⟨ty225,⟨ty223,trivial,trivial⟩,trivial⟩⟩,⟨ty263,⟨ty251,⟨ty233,trivial,trivial⟩,⟨ty253,trivial,trivial⟩⟩,⟨ty273,⟨ty265,trivial,trivial⟩,trivial⟩⟩⟩⟩,⟨ty415,⟨ty393,⟨ty334,⟨ty304,⟨ty298,trivial,trivial⟩,⟨ty327,trivial,trivial⟩⟩,⟨ty363,⟨ty345,trivial,trivial⟩,trivial⟩⟩,⟨ty405,⟨ty399,⟨ty397,trivial,trivial⟩,⟨ty402,trivial,trivial⟩⟩,⟨ty410,⟨ty406,trivial,trivial⟩,trivial⟩⟩⟩,⟨ty472,⟨ty430,⟨ty427,⟨ty423,trivial,trivial⟩,⟨ty428,trivial,trivial⟩⟩,⟨ty470,⟨ty455,trivial,trivial⟩,trivial⟩⟩,⟨ty481,⟨ty476,⟨ty474,trivial,trivial⟩,⟨ty478,trivial,trivial⟩⟩,⟨ty502,⟨ty491,trivial,trivial⟩,trivial⟩⟩⟩⟩⟩⟩
theorem Ao3:etab.all (fun t i=>Jm Tryz.prog t=some i):=⟨tq167,⟨tq102,⟨tq91,⟨tq77,trivial,trivial⟩,⟨tq93,trivial,trivial⟩⟩,⟨tq117,⟨tq108,trivial,trivial⟩,trivial⟩⟩,⟨tq327,⟨tq188,⟨tq171,trivial,trivial⟩,trivial⟩,⟨tq406,⟨tq402,trivial,trivial⟩,trivial⟩⟩⟩
def Γ:TyE Tryz.prog:=⟨⟨fun t=>tab.look t,fun _ _ h=>An8 (Tr.look_ok tab_ok h)⟩,fun t=>etab.look t,fun _ _ h=>Ana (Tr.look_ok Ao3 h)⟩
theorem hm:Tryz.prog.follows .mixedOrders=true:=by kernel_rfl
theorem F3:Fun Tryz.prog 3 Tryz.f3 (Af Tryz.f3):=⟨Tryz.func3,rfl,by kernel_rfl⟩
theorem F7:Fun Tryz.prog 7 Tryz.f7 (Af Tryz.f7):=⟨Tryz.func7,rfl,by kernel_rfl⟩
theorem F8:Fun Tryz.prog 8 Tryz.f8 (Af Tryz.f8):=⟨Tryz.func8,rfl,by kernel_rfl⟩
theorem F9:Fun Tryz.prog 9 Tryz.f9 (Af Tryz.f9):=⟨Tryz.func9,rfl,by kernel_rfl⟩
theorem F10:Fun Tryz.prog 10 Tryz.f10 (Af Tryz.f10):=⟨Tryz.func10,rfl,by kernel_rfl⟩
theorem F11:Fun Tryz.prog 11 Tryz.f11 (Af Tryz.f11):=⟨Tryz.func11,rfl,by kernel_rfl⟩
theorem F12:Fun Tryz.prog 12 Tryz.f12 (Af Tryz.f12):=⟨Tryz.func12,rfl,by kernel_rfl⟩
theorem F13:Fun Tryz.prog 13 Tryz.f13 (Af Tryz.f13):=⟨Tryz.func13,rfl,by kernel_rfl⟩
theorem F14:Fun Tryz.prog 14 Tryz.f14 (Af Tryz.f14):=⟨Tryz.func14,rfl,by kernel_rfl⟩
theorem F16:Fun Tryz.prog 16 Tryz.f16 (Af Tryz.f16):=⟨Tryz.func16,rfl,by kernel_rfl⟩
theorem F22:Fun Tryz.prog 22 Tryz.f22 (Af Tryz.f22):=⟨Tryz.func22,rfl,by kernel_rfl⟩
theorem F23:Fun Tryz.prog 23 Tryz.f23 (Af Tryz.f23):=⟨Tryz.func23,rfl,by kernel_rfl⟩
theorem F24:Fun Tryz.prog 24 Tryz.f24 (Af Tryz.f24):=⟨Tryz.func24,rfl,by kernel_rfl⟩
theorem F25:Fun Tryz.prog 25 Tryz.f25 (Af Tryz.f25):=⟨Tryz.func25,rfl,by kernel_rfl⟩
theorem F26:Fun Tryz.prog 26 Tryz.f26 (Af Tryz.f26):=⟨Tryz.func26,rfl,by kernel_rfl⟩
theorem F27:Fun Tryz.prog 27 Tryz.f27 (Af Tryz.f27):=⟨Tryz.func27,rfl,by kernel_rfl⟩
theorem F28:Fun Tryz.prog 28 Tryz.f28 (Af Tryz.f28):=⟨Tryz.func28,rfl,by kernel_rfl⟩
theorem F29:Fun Tryz.prog 29 Tryz.f29 (Af Tryz.f29):=⟨Tryz.func29,rfl,by kernel_rfl⟩
theorem F30:Fun Tryz.prog 30 Tryz.f30 (Af Tryz.f30):=⟨Tryz.func30,rfl,by kernel_rfl⟩
theorem F31:Fun Tryz.prog 31 Tryz.f31 (Af Tryz.f31):=⟨Tryz.func31,rfl,by kernel_rfl⟩
theorem F32:Fun Tryz.prog 32 Tryz.f32 (Af Tryz.f32):=⟨Tryz.func32,rfl,by kernel_rfl⟩
theorem F33:Fun Tryz.prog 33 Tryz.f33 (Af Tryz.f33):=⟨Tryz.func33,rfl,by kernel_rfl⟩
theorem F34:Fun Tryz.prog 34 Tryz.f34 (Af Tryz.f34):=⟨Tryz.func34,rfl,by kernel_rfl⟩
theorem F35:Fun Tryz.prog 35 Tryz.f35 (Af Tryz.f35):=⟨Tryz.func35,rfl,by kernel_rfl⟩
theorem F36:Fun Tryz.prog 36 Tryz.f36 (Af Tryz.f36):=⟨Tryz.func36,rfl,by kernel_rfl⟩
theorem F37:Fun Tryz.prog 37 Tryz.f37 (Af Tryz.f37):=⟨Tryz.func37,rfl,by kernel_rfl⟩
theorem F38:Fun Tryz.prog 38 Tryz.f38 (Af Tryz.f38):=⟨Tryz.func38,rfl,by kernel_rfl⟩
theorem F39:Fun Tryz.prog 39 Tryz.f39 (Af Tryz.f39):=⟨Tryz.func39,rfl,by kernel_rfl⟩
theorem F40:Fun Tryz.prog 40 Tryz.f40 (Af Tryz.f40):=⟨Tryz.func40,rfl,by kernel_rfl⟩
theorem F41:Fun Tryz.prog 41 Tryz.f41 (Af Tryz.f41):=⟨Tryz.func41,rfl,by kernel_rfl⟩
theorem F42:Fun Tryz.prog 42 Tryz.f42 (Af Tryz.f42):=⟨Tryz.func42,rfl,by kernel_rfl⟩
theorem F43:Fun Tryz.prog 43 Tryz.f43 (Af Tryz.f43):=⟨Tryz.func43,rfl,by kernel_rfl⟩
theorem F44:Fun Tryz.prog 44 Tryz.f44 (Af Tryz.f44):=⟨Tryz.func44,rfl,by kernel_rfl⟩
theorem F45:Fun Tryz.prog 45 Tryz.f45 (Af Tryz.f45):=⟨Tryz.func45,rfl,by kernel_rfl⟩
theorem F46:Fun Tryz.prog 46 Tryz.f46 (Af Tryz.f46):=⟨Tryz.func46,rfl,by kernel_rfl⟩
theorem F50:Fun Tryz.prog 50 Tryz.f50 (Af Tryz.f50):=⟨Tryz.func50,rfl,by kernel_rfl⟩
theorem F51:Fun Tryz.prog 51 Tryz.f51 (Af Tryz.f51):=⟨Tryz.func51,rfl,by kernel_rfl⟩
theorem F52:Fun Tryz.prog 52 Tryz.f52 (Af Tryz.f52):=⟨Tryz.func52,rfl,by kernel_rfl⟩
theorem F53:Fun Tryz.prog 53 Tryz.f53 (Af Tryz.f53):=⟨Tryz.func53,rfl,by kernel_rfl⟩
theorem F54:Fun Tryz.prog 54 Tryz.f54 (Af Tryz.f54):=⟨Tryz.func54,rfl,by kernel_rfl⟩
theorem F55:Fun Tryz.prog 55 Tryz.f55 (Af Tryz.f55):=⟨Tryz.func55,rfl,by kernel_rfl⟩
theorem F71:Fun Tryz.prog 71 Tryz.f71 (Af Tryz.f71):=⟨Tryz.func71,rfl,by kernel_rfl⟩
theorem F72:Fun Tryz.prog 72 Tryz.f72 (Af Tryz.f72):=⟨Tryz.func72,rfl,by kernel_rfl⟩
theorem F73:Fun Tryz.prog 73 Tryz.f73 (Af Tryz.f73):=⟨Tryz.func73,rfl,by kernel_rfl⟩
theorem F74:Fun Tryz.prog 74 Tryz.f74 (Af Tryz.f74):=⟨Tryz.func74,rfl,by kernel_rfl⟩
theorem F75:Fun Tryz.prog 75 Tryz.f75 (Af Tryz.f75):=⟨Tryz.func75,rfl,by kernel_rfl⟩
theorem F76:Fun Tryz.prog 76 Tryz.f76 (Af Tryz.f76):=⟨Tryz.func76,rfl,by kernel_rfl⟩
theorem F77:Fun Tryz.prog 77 Tryz.f77 (Af Tryz.f77):=⟨Tryz.func77,rfl,by kernel_rfl⟩
theorem F78:Fun Tryz.prog 78 Tryz.f78 (Af Tryz.f78):=⟨Tryz.func78,rfl,by kernel_rfl⟩
theorem F79:Fun Tryz.prog 79 Tryz.f79 (Af Tryz.f79):=⟨Tryz.func79,rfl,by kernel_rfl⟩
theorem F80:Fun Tryz.prog 80 Tryz.f80 (Af Tryz.f80):=⟨Tryz.func80,rfl,by kernel_rfl⟩
theorem F81:Fun Tryz.prog 81 Tryz.f81 (Af Tryz.f81):=⟨Tryz.func81,rfl,by kernel_rfl⟩
theorem F82:Fun Tryz.prog 82 Tryz.f82 (Af Tryz.f82):=⟨Tryz.func82,rfl,by kernel_rfl⟩
theorem F83:Fun Tryz.prog 83 Tryz.f83 (Af Tryz.f83):=⟨Tryz.func83,rfl,by kernel_rfl⟩
theorem F84:Fun Tryz.prog 84 Tryz.f84 (Af Tryz.f84):=⟨Tryz.func84,rfl,by kernel_rfl⟩
theorem F85:Fun Tryz.prog 85 Tryz.f85 (Af Tryz.f85):=⟨Tryz.func85,rfl,by kernel_rfl⟩
theorem F86:Fun Tryz.prog 86 Tryz.f86 (Af Tryz.f86):=⟨Tryz.func86,rfl,by kernel_rfl⟩
theorem F87:Fun Tryz.prog 87 Tryz.f87 (Af Tryz.f87):=⟨Tryz.func87,rfl,by kernel_rfl⟩
theorem F88:Fun Tryz.prog 88 Tryz.f88 (Af Tryz.f88):=⟨Tryz.func88,rfl,by kernel_rfl⟩
theorem F89:Fun Tryz.prog 89 Tryz.f89 (Af Tryz.f89):=⟨Tryz.func89,rfl,by kernel_rfl⟩
theorem F90:Fun Tryz.prog 90 Tryz.f90 (Af Tryz.f90):=⟨Tryz.func90,rfl,by kernel_rfl⟩
theorem F91:Fun Tryz.prog 91 Tryz.f91 (Af Tryz.f91):=⟨Tryz.func91,rfl,by kernel_rfl⟩
theorem F92:Fun Tryz.prog 92 Tryz.f92 (Af Tryz.f92):=⟨Tryz.func92,rfl,by kernel_rfl⟩
theorem F93:Fun Tryz.prog 93 Tryz.f93 (Af Tryz.f93):=⟨Tryz.func93,rfl,by kernel_rfl⟩
theorem F94:Fun Tryz.prog 94 Tryz.f94 (Af Tryz.f94):=⟨Tryz.func94,rfl,by kernel_rfl⟩
theorem F95:Fun Tryz.prog 95 Tryz.f95 (Af Tryz.f95):=⟨Tryz.func95,rfl,by kernel_rfl⟩
theorem F96:Fun Tryz.prog 96 Tryz.f96 (Af Tryz.f96):=⟨Tryz.func96,rfl,by kernel_rfl⟩
theorem F97:Fun Tryz.prog 97 Tryz.f97 (Af Tryz.f97):=⟨Tryz.func97,rfl,by kernel_rfl⟩
theorem F98:Fun Tryz.prog 98 Tryz.f98 (Af Tryz.f98):=⟨Tryz.func98,rfl,by kernel_rfl⟩
theorem F99:Fun Tryz.prog 99 Tryz.f99 (Af Tryz.f99):=⟨Tryz.func99,rfl,by kernel_rfl⟩
theorem F100:Fun Tryz.prog 100 Tryz.f100 (Af Tryz.f100):=⟨Tryz.func100,rfl,by kernel_rfl⟩
theorem F101:Fun Tryz.prog 101 Tryz.f101 (Af Tryz.f101):=⟨Tryz.func101,rfl,by kernel_rfl⟩
theorem F102:Fun Tryz.prog 102 Tryz.f102 (Af Tryz.f102):=⟨Tryz.func102,rfl,by kernel_rfl⟩
theorem F103:Fun Tryz.prog 103 Tryz.f103 (Af Tryz.f103):=⟨Tryz.func103,rfl,by kernel_rfl⟩
theorem F104:Fun Tryz.prog 104 Tryz.f104 (Af Tryz.f104):=⟨Tryz.func104,rfl,by kernel_rfl⟩
theorem F105:Fun Tryz.prog 105 Tryz.f105 (Af Tryz.f105):=⟨Tryz.func105,rfl,by kernel_rfl⟩
theorem F106:Fun Tryz.prog 106 Tryz.f106 (Af Tryz.f106):=⟨Tryz.func106,rfl,by kernel_rfl⟩
theorem F111:Fun Tryz.prog 111 Tryz.f111 (Af Tryz.f111):=⟨Tryz.func111,rfl,by kernel_rfl⟩
theorem F112:Fun Tryz.prog 112 Tryz.f112 (Af Tryz.f112):=⟨Tryz.func112,rfl,by kernel_rfl⟩
theorem F113:Fun Tryz.prog 113 Tryz.f113 (Af Tryz.f113):=⟨Tryz.func113,rfl,by kernel_rfl⟩
theorem F114:Fun Tryz.prog 114 Tryz.f114 (Af Tryz.f114):=⟨Tryz.func114,rfl,by kernel_rfl⟩
theorem F115:Fun Tryz.prog 115 Tryz.f115 (Af Tryz.f115):=⟨Tryz.func115,rfl,by kernel_rfl⟩
theorem F116:Fun Tryz.prog 116 Tryz.f116 (Af Tryz.f116):=⟨Tryz.func116,rfl,by kernel_rfl⟩
theorem F117:Fun Tryz.prog 117 Tryz.f117 (Af Tryz.f117):=⟨Tryz.func117,rfl,by kernel_rfl⟩
theorem F118:Fun Tryz.prog 118 Tryz.f118 (Af Tryz.f118):=⟨Tryz.func118,rfl,by kernel_rfl⟩
theorem F119:Fun Tryz.prog 119 Tryz.f119 (Af Tryz.f119):=⟨Tryz.func119,rfl,by kernel_rfl⟩
theorem F120:Fun Tryz.prog 120 Tryz.f120 (Af Tryz.f120):=⟨Tryz.func120,rfl,by kernel_rfl⟩
theorem F121:Fun Tryz.prog 121 Tryz.f121 (Af Tryz.f121):=⟨Tryz.func121,rfl,by kernel_rfl⟩
theorem F122:Fun Tryz.prog 122 Tryz.f122 (Af Tryz.f122):=⟨Tryz.func122,rfl,by kernel_rfl⟩
theorem F137:Fun Tryz.prog 137 Tryz.f137 (Af Tryz.f137):=⟨Tryz.func137,rfl,by kernel_rfl⟩
theorem F138:Fun Tryz.prog 138 Tryz.f138 (Af Tryz.f138):=⟨Tryz.func138,rfl,by kernel_rfl⟩
theorem F139:Fun Tryz.prog 139 Tryz.f139 (Af Tryz.f139):=⟨Tryz.func139,rfl,by kernel_rfl⟩
theorem F140:Fun Tryz.prog 140 Tryz.f140 (Af Tryz.f140):=⟨Tryz.func140,rfl,by kernel_rfl⟩
theorem F141:Fun Tryz.prog 141 Tryz.f141 (Af Tryz.f141):=⟨Tryz.func141,rfl,by kernel_rfl⟩
theorem F142:Fun Tryz.prog 142 Tryz.f142 (Af Tryz.f142):=⟨Tryz.func142,rfl,by kernel_rfl⟩
theorem F143:Fun Tryz.prog 143 Tryz.f143 (Af Tryz.f143):=⟨Tryz.func143,rfl,by kernel_rfl⟩
theorem F144:Fun Tryz.prog 144 Tryz.f144 (Af Tryz.f144):=⟨Tryz.func144,rfl,by kernel_rfl⟩
theorem F145:Fun Tryz.prog 145 Tryz.f145 (Af Tryz.f145):=⟨Tryz.func145,rfl,by kernel_rfl⟩
theorem F146:Fun Tryz.prog 146 Tryz.f146 (Af Tryz.f146):=⟨Tryz.func146,rfl,by kernel_rfl⟩
theorem F147:Fun Tryz.prog 147 Tryz.f147 (Af Tryz.f147):=⟨Tryz.func147,rfl,by kernel_rfl⟩
theorem F148:Fun Tryz.prog 148 Tryz.f148 (Af Tryz.f148):=⟨Tryz.func148,rfl,by kernel_rfl⟩
theorem F149:Fun Tryz.prog 149 Tryz.f149 (Af Tryz.f149):=⟨Tryz.func149,rfl,by kernel_rfl⟩
theorem F150:Fun Tryz.prog 150 Tryz.f150 (Af Tryz.f150):=⟨Tryz.func150,rfl,by kernel_rfl⟩
theorem F151:Fun Tryz.prog 151 Tryz.f151 (Af Tryz.f151):=⟨Tryz.func151,rfl,by kernel_rfl⟩
theorem F152:Fun Tryz.prog 152 Tryz.f152 (Af Tryz.f152):=⟨Tryz.func152,rfl,by kernel_rfl⟩
theorem F153:Fun Tryz.prog 153 Tryz.f153 (Af Tryz.f153):=⟨Tryz.func153,rfl,by kernel_rfl⟩
theorem F154:Fun Tryz.prog 154 Tryz.f154 (Af Tryz.f154):=⟨Tryz.func154,rfl,by kernel_rfl⟩
theorem F155:Fun Tryz.prog 155 Tryz.f155 (Af Tryz.f155):=⟨Tryz.func155,rfl,by kernel_rfl⟩
theorem F156:Fun Tryz.prog 156 Tryz.f156 (Af Tryz.f156):=⟨Tryz.func156,rfl,by kernel_rfl⟩
theorem F157:Fun Tryz.prog 157 Tryz.f157 (Af Tryz.f157):=⟨Tryz.func157,rfl,by kernel_rfl⟩
theorem F159:Fun Tryz.prog 159 Tryz.f159 (Af Tryz.f159):=⟨Tryz.func159,rfl,by kernel_rfl⟩
theorem F160:Fun Tryz.prog 160 Tryz.f160 (Af Tryz.f160):=⟨Tryz.func160,rfl,by kernel_rfl⟩
theorem F161:Fun Tryz.prog 161 Tryz.f161 (Af Tryz.f161):=⟨Tryz.func161,rfl,by kernel_rfl⟩
theorem F162:Fun Tryz.prog 162 Tryz.f162 (Af Tryz.f162):=⟨Tryz.func162,rfl,by kernel_rfl⟩
theorem F163:Fun Tryz.prog 163 Tryz.f163 (Af Tryz.f163):=⟨Tryz.func163,rfl,by kernel_rfl⟩
theorem F164:Fun Tryz.prog 164 Tryz.f164 (Af Tryz.f164):=⟨Tryz.func164,rfl,by kernel_rfl⟩
theorem F165:Fun Tryz.prog 165 Tryz.f165 (Af Tryz.f165):=⟨Tryz.func165,rfl,by kernel_rfl⟩
theorem F166:Fun Tryz.prog 166 Tryz.f166 (Af Tryz.f166):=⟨Tryz.func166,rfl,by kernel_rfl⟩
theorem F167:Fun Tryz.prog 167 Tryz.f167 (Af Tryz.f167):=⟨Tryz.func167,rfl,by kernel_rfl⟩
theorem F168:Fun Tryz.prog 168 Tryz.f168 (Af Tryz.f168):=⟨Tryz.func168,rfl,by kernel_rfl⟩
theorem F169:Fun Tryz.prog 169 Tryz.f169 (Af Tryz.f169):=⟨Tryz.func169,rfl,by kernel_rfl⟩
theorem F170:Fun Tryz.prog 170 Tryz.f170 (Af Tryz.f170):=⟨Tryz.func170,rfl,by kernel_rfl⟩
theorem F171:Fun Tryz.prog 171 Tryz.f171 (Af Tryz.f171):=⟨Tryz.func171,rfl,by kernel_rfl⟩
theorem F172:Fun Tryz.prog 172 Tryz.f172 (Af Tryz.f172):=⟨Tryz.func172,rfl,by kernel_rfl⟩
theorem F173:Fun Tryz.prog 173 Tryz.f173 (Af Tryz.f173):=⟨Tryz.func173,rfl,by kernel_rfl⟩
theorem F174:Fun Tryz.prog 174 Tryz.f174 (Af Tryz.f174):=⟨Tryz.func174,rfl,by kernel_rfl⟩
theorem F175:Fun Tryz.prog 175 Tryz.f175 (Af Tryz.f175):=⟨Tryz.func175,rfl,by kernel_rfl⟩
theorem F176:Fun Tryz.prog 176 Tryz.f176 (Af Tryz.f176):=⟨Tryz.func176,rfl,by kernel_rfl⟩
theorem F177:Fun Tryz.prog 177 Tryz.f177 (Af Tryz.f177):=⟨Tryz.func177,rfl,by kernel_rfl⟩
theorem F178:Fun Tryz.prog 178 Tryz.f178 (Af Tryz.f178):=⟨Tryz.func178,rfl,by kernel_rfl⟩
theorem F179:Fun Tryz.prog 179 Tryz.f179 (Af Tryz.f179):=⟨Tryz.func179,rfl,by kernel_rfl⟩
theorem F180:Fun Tryz.prog 180 Tryz.f180 (Af Tryz.f180):=⟨Tryz.func180,rfl,by kernel_rfl⟩
theorem F181:Fun Tryz.prog 181 Tryz.f181 (Af Tryz.f181):=⟨Tryz.func181,rfl,by kernel_rfl⟩
theorem F182:Fun Tryz.prog 182 Tryz.f182 (Af Tryz.f182):=⟨Tryz.func182,rfl,by kernel_rfl⟩
theorem F201:Fun Tryz.prog 201 Tryz.f201 (Af Tryz.f201):=⟨Tryz.func201,rfl,by kernel_rfl⟩
theorem F202:Fun Tryz.prog 202 Tryz.f202 (Af Tryz.f202):=⟨Tryz.func202,rfl,by kernel_rfl⟩
theorem F203:Fun Tryz.prog 203 Tryz.f203 (Af Tryz.f203):=⟨Tryz.func203,rfl,by kernel_rfl⟩
theorem F204:Fun Tryz.prog 204 Tryz.f204 (Af Tryz.f204):=⟨Tryz.func204,rfl,by kernel_rfl⟩
theorem F205:Fun Tryz.prog 205 Tryz.f205 (Af Tryz.f205):=⟨Tryz.func205,rfl,by kernel_rfl⟩
theorem F206:Fun Tryz.prog 206 Tryz.f206 (Af Tryz.f206):=⟨Tryz.func206,rfl,by kernel_rfl⟩
theorem F207:Fun Tryz.prog 207 Tryz.f207 (Af Tryz.f207):=⟨Tryz.func207,rfl,by kernel_rfl⟩
theorem F208:Fun Tryz.prog 208 Tryz.f208 (Af Tryz.f208):=⟨Tryz.func208,rfl,by kernel_rfl⟩
theorem F209:Fun Tryz.prog 209 Tryz.f209 (Af Tryz.f209):=⟨Tryz.func209,rfl,by kernel_rfl⟩
theorem F210:Fun Tryz.prog 210 Tryz.f210 (Af Tryz.f210):=⟨Tryz.func210,rfl,by kernel_rfl⟩
theorem F211:Fun Tryz.prog 211 Tryz.f211 (Af Tryz.f211):=⟨Tryz.func211,rfl,by kernel_rfl⟩
theorem F212:Fun Tryz.prog 212 Tryz.f212 (Af Tryz.f212):=⟨Tryz.func212,rfl,by kernel_rfl⟩
theorem F213:Fun Tryz.prog 213 Tryz.f213 (Af Tryz.f213):=⟨Tryz.func213,rfl,by kernel_rfl⟩
theorem F214:Fun Tryz.prog 214 Tryz.f214 (Af Tryz.f214):=⟨Tryz.func214,rfl,by kernel_rfl⟩
theorem F215:Fun Tryz.prog 215 Tryz.f215 (Af Tryz.f215):=⟨Tryz.func215,rfl,by kernel_rfl⟩
theorem F216:Fun Tryz.prog 216 Tryz.f216 (Af Tryz.f216):=⟨Tryz.func216,rfl,by kernel_rfl⟩
theorem F218:Fun Tryz.prog 218 Tryz.f218 (Af Tryz.f218):=⟨Tryz.func218,rfl,by kernel_rfl⟩
theorem F219:Fun Tryz.prog 219 Tryz.f219 (Af Tryz.f219):=⟨Tryz.func219,rfl,by kernel_rfl⟩
theorem F220:Fun Tryz.prog 220 Tryz.f220 (Af Tryz.f220):=⟨Tryz.func220,rfl,by kernel_rfl⟩
theorem F221:Fun Tryz.prog 221 Tryz.f221 (Af Tryz.f221):=⟨Tryz.func221,rfl,by kernel_rfl⟩
theorem F222:Fun Tryz.prog 222 Tryz.f222 (Af Tryz.f222):=⟨Tryz.func222,rfl,by kernel_rfl⟩
theorem F223:Fun Tryz.prog 223 Tryz.f223 (Af Tryz.f223):=⟨Tryz.func223,rfl,by kernel_rfl⟩
theorem F224:Fun Tryz.prog 224 Tryz.f224 (Af Tryz.f224):=⟨Tryz.func224,rfl,by kernel_rfl⟩
theorem F225:Fun Tryz.prog 225 Tryz.f225 (Af Tryz.f225):=⟨Tryz.func225,rfl,by kernel_rfl⟩
theorem F226:Fun Tryz.prog 226 Tryz.f226 (Af Tryz.f226):=⟨Tryz.func226,rfl,by kernel_rfl⟩
theorem F227:Fun Tryz.prog 227 Tryz.f227 (Af Tryz.f227):=⟨Tryz.func227,rfl,by kernel_rfl⟩
theorem F228:Fun Tryz.prog 228 Tryz.f228 (Af Tryz.f228):=⟨Tryz.func228,rfl,by kernel_rfl⟩
theorem F229:Fun Tryz.prog 229 Tryz.f229 (Af Tryz.f229):=⟨Tryz.func229,rfl,by kernel_rfl⟩
theorem F230:Fun Tryz.prog 230 Tryz.f230 (Af Tryz.f230):=⟨Tryz.func230,rfl,by kernel_rfl⟩
theorem F231:Fun Tryz.prog 231 Tryz.f231 (Af Tryz.f231):=⟨Tryz.func231,rfl,by kernel_rfl⟩
theorem F232:Fun Tryz.prog 232 Tryz.f232 (Af Tryz.f232):=⟨Tryz.func232,rfl,by kernel_rfl⟩
theorem F233:Fun Tryz.prog 233 Tryz.f233 (Af Tryz.f233):=⟨Tryz.func233,rfl,by kernel_rfl⟩
theorem F234:Fun Tryz.prog 234 Tryz.f234 (Af Tryz.f234):=⟨Tryz.func234,rfl,by kernel_rfl⟩
theorem F235:Fun Tryz.prog 235 Tryz.f235 (Af Tryz.f235):=⟨Tryz.func235,rfl,by kernel_rfl⟩
theorem F236:Fun Tryz.prog 236 Tryz.f236 (Af Tryz.f236):=⟨Tryz.func236,rfl,by kernel_rfl⟩
theorem F237:Fun Tryz.prog 237 Tryz.f237 (Af Tryz.f237):=⟨Tryz.func237,rfl,by kernel_rfl⟩
theorem F238:Fun Tryz.prog 238 Tryz.f238 (Af Tryz.f238):=⟨Tryz.func238,rfl,by kernel_rfl⟩
theorem F239:Fun Tryz.prog 239 Tryz.f239 (Af Tryz.f239):=⟨Tryz.func239,rfl,by kernel_rfl⟩
theorem F240:Fun Tryz.prog 240 Tryz.f240 (Af Tryz.f240):=⟨Tryz.func240,rfl,by kernel_rfl⟩
theorem F241:Fun Tryz.prog 241 Tryz.f241 (Af Tryz.f241):=⟨Tryz.func241,rfl,by kernel_rfl⟩
theorem F242:Fun Tryz.prog 242 Tryz.f242 (Af Tryz.f242):=⟨Tryz.func242,rfl,by kernel_rfl⟩
theorem F243:Fun Tryz.prog 243 Tryz.f243 (Af Tryz.f243):=⟨Tryz.func243,rfl,by kernel_rfl⟩
theorem F244:Fun Tryz.prog 244 Tryz.f244 (Af Tryz.f244):=⟨Tryz.func244,rfl,by kernel_rfl⟩
theorem F245:Fun Tryz.prog 245 Tryz.f245 (Af Tryz.f245):=⟨Tryz.func245,rfl,by kernel_rfl⟩
theorem F246:Fun Tryz.prog 246 Tryz.f246 (Af Tryz.f246):=⟨Tryz.func246,rfl,by kernel_rfl⟩
theorem F247:Fun Tryz.prog 247 Tryz.f247 (Af Tryz.f247):=⟨Tryz.func247,rfl,by kernel_rfl⟩
theorem F268:Fun Tryz.prog 268 Tryz.f268 (Af Tryz.f268):=⟨Tryz.func268,rfl,by kernel_rfl⟩
theorem F269:Fun Tryz.prog 269 Tryz.f269 (Af Tryz.f269):=⟨Tryz.func269,rfl,by kernel_rfl⟩
theorem F270:Fun Tryz.prog 270 Tryz.f270 (Af Tryz.f270):=⟨Tryz.func270,rfl,by kernel_rfl⟩
theorem F271:Fun Tryz.prog 271 Tryz.f271 (Af Tryz.f271):=⟨Tryz.func271,rfl,by kernel_rfl⟩
theorem F272:Fun Tryz.prog 272 Tryz.f272 (Af Tryz.f272):=⟨Tryz.func272,rfl,by kernel_rfl⟩
theorem F273:Fun Tryz.prog 273 Tryz.f273 (Af Tryz.f273):=⟨Tryz.func273,rfl,by kernel_rfl⟩
theorem F274:Fun Tryz.prog 274 Tryz.f274 (Af Tryz.f274):=⟨Tryz.func274,rfl,by kernel_rfl⟩
theorem F275:Fun Tryz.prog 275 Tryz.f275 (Af Tryz.f275):=⟨Tryz.func275,rfl,by kernel_rfl⟩
theorem F276:Fun Tryz.prog 276 Tryz.f276 (Af Tryz.f276):=⟨Tryz.func276,rfl,by kernel_rfl⟩
theorem F277:Fun Tryz.prog 277 Tryz.f277 (Af Tryz.f277):=⟨Tryz.func277,rfl,by kernel_rfl⟩
theorem F278:Fun Tryz.prog 278 Tryz.f278 (Af Tryz.f278):=⟨Tryz.func278,rfl,by kernel_rfl⟩
theorem F279:Fun Tryz.prog 279 Tryz.f279 (Af Tryz.f279):=⟨Tryz.func279,rfl,by kernel_rfl⟩
theorem F280:Fun Tryz.prog 280 Tryz.f280 (Af Tryz.f280):=⟨Tryz.func280,rfl,by kernel_rfl⟩
theorem F281:Fun Tryz.prog 281 Tryz.f281 (Af Tryz.f281):=⟨Tryz.func281,rfl,by kernel_rfl⟩
theorem F282:Fun Tryz.prog 282 Tryz.f282 (Af Tryz.f282):=⟨Tryz.func282,rfl,by kernel_rfl⟩
theorem F283:Fun Tryz.prog 283 Tryz.f283 (Af Tryz.f283):=⟨Tryz.func283,rfl,by kernel_rfl⟩
theorem F284:Fun Tryz.prog 284 Tryz.f284 (Af Tryz.f284):=⟨Tryz.func284,rfl,by kernel_rfl⟩
theorem F285:Fun Tryz.prog 285 Tryz.f285 (Af Tryz.f285):=⟨Tryz.func285,rfl,by kernel_rfl⟩
theorem F286:Fun Tryz.prog 286 Tryz.f286 (Af Tryz.f286):=⟨Tryz.func286,rfl,by kernel_rfl⟩
theorem F287:Fun Tryz.prog 287 Tryz.f287 (Af Tryz.f287):=⟨Tryz.func287,rfl,by kernel_rfl⟩
theorem F288:Fun Tryz.prog 288 Tryz.f288 (Af Tryz.f288):=⟨Tryz.func288,rfl,by kernel_rfl⟩
theorem F289:Fun Tryz.prog 289 Tryz.f289 (Af Tryz.f289):=⟨Tryz.func289,rfl,by kernel_rfl⟩
theorem F290:Fun Tryz.prog 290 Tryz.f290 (Af Tryz.f290):=⟨Tryz.func290,rfl,by kernel_rfl⟩
theorem F291:Fun Tryz.prog 291 Tryz.f291 (Af Tryz.f291):=⟨Tryz.func291,rfl,by kernel_rfl⟩
theorem F292:Fun Tryz.prog 292 Tryz.f292 (Af Tryz.f292):=⟨Tryz.func292,rfl,by kernel_rfl⟩
theorem F293:Fun Tryz.prog 293 Tryz.f293 (Af Tryz.f293):=⟨Tryz.func293,rfl,by kernel_rfl⟩
theorem F294:Fun Tryz.prog 294 Tryz.f294 (Af Tryz.f294):=⟨Tryz.func294,rfl,by kernel_rfl⟩
theorem F295:Fun Tryz.prog 295 Tryz.f295 (Af Tryz.f295):=⟨Tryz.func295,rfl,by kernel_rfl⟩
theorem F296:Fun Tryz.prog 296 Tryz.f296 (Af Tryz.f296):=⟨Tryz.func296,rfl,by kernel_rfl⟩
theorem F297:Fun Tryz.prog 297 Tryz.f297 (Af Tryz.f297):=⟨Tryz.func297,rfl,by kernel_rfl⟩
theorem F298:Fun Tryz.prog 298 Tryz.f298 (Af Tryz.f298):=⟨Tryz.func298,rfl,by kernel_rfl⟩
theorem F299:Fun Tryz.prog 299 Tryz.f299 (Af Tryz.f299):=⟨Tryz.func299,rfl,by kernel_rfl⟩
theorem F300:Fun Tryz.prog 300 Tryz.f300 (Af Tryz.f300):=⟨Tryz.func300,rfl,by kernel_rfl⟩
theorem F301:Fun Tryz.prog 301 Tryz.f301 (Af Tryz.f301):=⟨Tryz.func301,rfl,by kernel_rfl⟩
theorem F302:Fun Tryz.prog 302 Tryz.f302 (Af Tryz.f302):=⟨Tryz.func302,rfl,by kernel_rfl⟩
theorem F303:Fun Tryz.prog 303 Tryz.f303 (Af Tryz.f303):=⟨Tryz.func303,rfl,by kernel_rfl⟩
theorem F304:Fun Tryz.prog 304 Tryz.f304 (Af Tryz.f304):=⟨Tryz.func304,rfl,by kernel_rfl⟩
theorem F305:Fun Tryz.prog 305 Tryz.f305 (Af Tryz.f305):=⟨Tryz.func305,rfl,by kernel_rfl⟩
theorem F306:Fun Tryz.prog 306 Tryz.f306 (Af Tryz.f306):=⟨Tryz.func306,rfl,by kernel_rfl⟩
theorem F308:Fun Tryz.prog 308 Tryz.f308 (Af Tryz.f308):=⟨Tryz.func308,rfl,by kernel_rfl⟩
theorem F309:Fun Tryz.prog 309 Tryz.f309 (Af Tryz.f309):=⟨Tryz.func309,rfl,by kernel_rfl⟩
theorem F310:Fun Tryz.prog 310 Tryz.f310 (Af Tryz.f310):=⟨Tryz.func310,rfl,by kernel_rfl⟩
theorem F326:Fun Tryz.prog 326 Tryz.f326 (Af Tryz.f326):=⟨Tryz.func326,rfl,by kernel_rfl⟩
theorem F327:Fun Tryz.prog 327 Tryz.f327 (Af Tryz.f327):=⟨Tryz.func327,rfl,by kernel_rfl⟩
theorem F328:Fun Tryz.prog 328 Tryz.f328 (Af Tryz.f328):=⟨Tryz.func328,rfl,by kernel_rfl⟩
theorem F329:Fun Tryz.prog 329 Tryz.f329 (Af Tryz.f329):=⟨Tryz.func329,rfl,by kernel_rfl⟩
theorem F330:Fun Tryz.prog 330 Tryz.f330 (Af Tryz.f330):=⟨Tryz.func330,rfl,by kernel_rfl⟩
theorem F331:Fun Tryz.prog 331 Tryz.f331 (Af Tryz.f331):=⟨Tryz.func331,rfl,by kernel_rfl⟩
theorem F332:Fun Tryz.prog 332 Tryz.f332 (Af Tryz.f332):=⟨Tryz.func332,rfl,by kernel_rfl⟩
theorem F333:Fun Tryz.prog 333 Tryz.f333 (Af Tryz.f333):=⟨Tryz.func333,rfl,by kernel_rfl⟩
theorem F334:Fun Tryz.prog 334 Tryz.f334 (Af Tryz.f334):=⟨Tryz.func334,rfl,by kernel_rfl⟩
theorem F335:Fun Tryz.prog 335 Tryz.f335 (Af Tryz.f335):=⟨Tryz.func335,rfl,by kernel_rfl⟩
theorem F336:Fun Tryz.prog 336 Tryz.f336 (Af Tryz.f336):=⟨Tryz.func336,rfl,by kernel_rfl⟩
theorem F337:Fun Tryz.prog 337 Tryz.f337 (Af Tryz.f337):=⟨Tryz.func337,rfl,by kernel_rfl⟩
theorem F338:Fun Tryz.prog 338 Tryz.f338 (Af Tryz.f338):=⟨Tryz.func338,rfl,by kernel_rfl⟩
theorem F339:Fun Tryz.prog 339 Tryz.f339 (Af Tryz.f339):=⟨Tryz.func339,rfl,by kernel_rfl⟩
theorem F340:Fun Tryz.prog 340 Tryz.f340 (Af Tryz.f340):=⟨Tryz.func340,rfl,by kernel_rfl⟩
theorem F341:Fun Tryz.prog 341 Tryz.f341 (Af Tryz.f341):=⟨Tryz.func341,rfl,by kernel_rfl⟩
theorem F342:Fun Tryz.prog 342 Tryz.f342 (Af Tryz.f342):=⟨Tryz.func342,rfl,by kernel_rfl⟩
theorem F343:Fun Tryz.prog 343 Tryz.f343 (Af Tryz.f343):=⟨Tryz.func343,rfl,by kernel_rfl⟩
theorem F344:Fun Tryz.prog 344 Tryz.f344 (Af Tryz.f344):=⟨Tryz.func344,rfl,by kernel_rfl⟩
theorem F345:Fun Tryz.prog 345 Tryz.f345 (Af Tryz.f345):=⟨Tryz.func345,rfl,by kernel_rfl⟩
theorem F346:Fun Tryz.prog 346 Tryz.f346 (Af Tryz.f346):=⟨Tryz.func346,rfl,by kernel_rfl⟩
theorem F347:Fun Tryz.prog 347 Tryz.f347 (Af Tryz.f347):=⟨Tryz.func347,rfl,by kernel_rfl⟩
theorem F348:Fun Tryz.prog 348 Tryz.f348 (Af Tryz.f348):=⟨Tryz.func348,rfl,by kernel_rfl⟩
theorem F349:Fun Tryz.prog 349 Tryz.f349 (Af Tryz.f349):=⟨Tryz.func349,rfl,by kernel_rfl⟩
theorem F350:Fun Tryz.prog 350 Tryz.f350 (Af Tryz.f350):=⟨Tryz.func350,rfl,by kernel_rfl⟩
theorem F351:Fun Tryz.prog 351 Tryz.f351 (Af Tryz.f351):=⟨Tryz.func351,rfl,by kernel_rfl⟩
theorem F352:Fun Tryz.prog 352 Tryz.f352 (Af Tryz.f352):=⟨Tryz.func352,rfl,by kernel_rfl⟩
theorem F357:Fun Tryz.prog 357 Tryz.f357 (Af Tryz.f357):=⟨Tryz.func357,rfl,by kernel_rfl⟩
theorem F358:Fun Tryz.prog 358 Tryz.f358 (Af Tryz.f358):=⟨Tryz.func358,rfl,by kernel_rfl⟩
theorem F359:Fun Tryz.prog 359 Tryz.f359 (Af Tryz.f359):=⟨Tryz.func359,rfl,by kernel_rfl⟩
theorem F360:Fun Tryz.prog 360 Tryz.f360 (Af Tryz.f360):=⟨Tryz.func360,rfl,by kernel_rfl⟩
theorem F361:Fun Tryz.prog 361 Tryz.f361 (Af Tryz.f361):=⟨Tryz.func361,rfl,by kernel_rfl⟩
theorem F362:Fun Tryz.prog 362 Tryz.f362 (Af Tryz.f362):=⟨Tryz.func362,rfl,by kernel_rfl⟩
theorem F363:Fun Tryz.prog 363 Tryz.f363 (Af Tryz.f363):=⟨Tryz.func363,rfl,by kernel_rfl⟩
theorem F372:Fun Tryz.prog 372 Tryz.f372 (Af Tryz.f372):=⟨Tryz.func372,rfl,by kernel_rfl⟩
theorem F373:Fun Tryz.prog 373 Tryz.f373 (Af Tryz.f373):=⟨Tryz.func373,rfl,by kernel_rfl⟩
theorem F375:Fun Tryz.prog 375 Tryz.f375 (Af Tryz.f375):=⟨Tryz.func375,rfl,by kernel_rfl⟩
theorem F380:Fun Tryz.prog 380 Tryz.f380 (Af Tryz.f380):=⟨Tryz.func380,rfl,by kernel_rfl⟩
theorem F381:Fun Tryz.prog 381 Tryz.f381 (Af Tryz.f381):=⟨Tryz.func381,rfl,by kernel_rfl⟩
theorem F382:Fun Tryz.prog 382 Tryz.f382 (Af Tryz.f382):=⟨Tryz.func382,rfl,by kernel_rfl⟩
theorem F383:Fun Tryz.prog 383 Tryz.f383 (Af Tryz.f383):=⟨Tryz.func383,rfl,by kernel_rfl⟩
theorem F384:Fun Tryz.prog 384 Tryz.f384 (Af Tryz.f384):=⟨Tryz.func384,rfl,by kernel_rfl⟩
theorem F386:Fun Tryz.prog 386 Tryz.f386 (Af Tryz.f386):=⟨Tryz.func386,rfl,by kernel_rfl⟩
theorem F387:Fun Tryz.prog 387 Tryz.f387 (Af Tryz.f387):=⟨Tryz.func387,rfl,by kernel_rfl⟩
theorem F421:Fun Tryz.prog 421 Tryz.f421 (Af Tryz.f421):=⟨Tryz.func421,rfl,by kernel_rfl⟩
theorem F422:Fun Tryz.prog 422 Tryz.f422 (Af Tryz.f422):=⟨Tryz.func422,rfl,by kernel_rfl⟩
theorem F423:Fun Tryz.prog 423 Tryz.f423 (Af Tryz.f423):=⟨Tryz.func423,rfl,by kernel_rfl⟩
theorem F424:Fun Tryz.prog 424 Tryz.f424 (Af Tryz.f424):=⟨Tryz.func424,rfl,by kernel_rfl⟩
theorem rg {F:Fr} {n:Nat} {B:Exit→Act→World→Prop} {bn:List Nat} {hbn:∀ k,F.k0 k≠.new→k∈bn} {k:List KI} {s:SS} (h:Kt ⟨Tryz.prog,Γ.toTy,F,n,B,bn,hbn⟩ Γ 400 k s):G ⟨Tryz.prog,Γ.toTy,F,n,B,bn,hbn⟩ k s:=rG Γ hm h
theorem rd {F:Fr} {n:Nat} {B:Exit→Act→World→Prop} {bn:List Nat} {hbn:∀ k,F.k0 k≠.new→k∈bn} {k:List KI} {s:SS} {all:Array Oper} {done:List Stp} {rest:List Oper} (hs:all.toList=done.map (·.o)++rest) (h:Tl ⟨Tryz.prog,Γ.toTy,F,n,B,bn,hbn⟩ Γ 400 k all done rest s):DR ⟨Tryz.prog,Γ.toTy,F,n,B,bn,hbn⟩ k all done rest s:=rD Γ hm hs h
end Go.Sy.YteinjapglfkamaaGreat
namespace Go.Sy.YteinjapglfkamaaGreat
open Go.Proofs
structure Device where
 (row prio:Int) (name:ByteArray) (mac vtep:Int)
structure Port where
 (row dev native cost link:Int) (name:ByteArray) (tagged:List Int)
structure Link where
 (row a b:Int)
structure Domain where
 (dev vlan vni irb row:Int) (peers:List Int)
structure Static where
 (row domain port mac:Int)
structure Flood where
 (row dev vni:Int) (addrs:List Int)
structure Vrf where
 (row dev:Int) (name:ByteArray) (imports exports:List Int)
structure Irb where
 (row domain vrf addr bits:Int)
structure Net where
 (devices:List Device) (ports:List Port) (links:List Link) (domains:List Domain) (statics:List Static) (floods:List Flood) (vrfs:List Vrf) (irbs:List Irb)
def Bm (d:Device):SV:=.agg [Aa d.row,Aa d.prio,Ze d.name,Bf d.mac,Bj d.vtep]
def A5 (p:Port):SV:=.agg [Aa p.row,Aa p.dev,Aa p.native,Aa p.cost,Aa p.link,Ze p.name,.sl 1 Aa p.tagged]
def Ch (l:Link):SV:=.agg [Aa l.row,Aa l.a,Aa l.b]
def At (d:Domain):SV:=.agg [Aa d.dev,Aa d.vlan,Aa d.vni,Aa d.irb,Aa d.row,.sl 1 Aa d.peers]
def Bk (s:Static):SV:=.agg [Aa s.row,Aa s.domain,Aa s.port,Bf s.mac]
def Bw (f:Flood):SV:=.agg [Aa f.row,Aa f.dev,Aa f.vni,.sl 1 Bj f.addrs]
def Cv (v:Vrf):SV:=.agg [Aa v.row,Aa v.dev,Ze v.name,.sl 1 Aa v.imports,.sl 1 Aa v.exports]
def Cg (i:Irb):SV:=.agg [Aa i.row,Aa i.domain,Aa i.vrf,Bj i.addr,Aa i.bits]
def Amd (n:Net):List SV:=[.sl 5 Bm n.devices,.sl 7 A5 n.ports,.sl 3 Ch n.links,.sl 6 At n.domains,.sl 4 Bk n.statics,.sl 4 Bw n.floods,.sl 5 Cv n.vrfs,.sl 5 Cg n.irbs]
def Al (n:Net):SV:=.agg [.sl 5 Bm n.devices,.sl 7 A5 n.ports,.sl 3 Ch n.links,.sl 6 At n.domains,.sl 4 Bk n.statics,.sl 4 Bw n.floods,.sl 5 Cv n.vrfs,.sl 5 Cg n.irbs]
instance:Inhabited Device:=⟨⟨0,0,.empty,0,0⟩⟩
instance:Inhabited Port:=⟨⟨0,0,0,0,0,.empty,[]⟩⟩
instance:Inhabited Link:=⟨⟨0,0,0⟩⟩
instance:Inhabited Domain:=⟨⟨0,0,0,0,0,[]⟩⟩
instance:Inhabited Static:=⟨⟨0,0,0,0⟩⟩
instance:Inhabited Flood:=⟨⟨0,0,0,[]⟩⟩
instance:Inhabited Vrf:=⟨⟨0,0,.empty,[],[]⟩⟩
instance:Inhabited Irb:=⟨⟨0,0,0,0,0⟩⟩
def Aj (i:Int) (n:Nat):Bool:=decide (0≤i) && decide (i<n)
def inB (l:List Int) (x:Int):Bool:=l.any (· == x)
def nth {α:Type} [Inhabited α] (l:List α) (i:Int):α:=(l[i.toNat]?).getD default
theorem Ah {α:Type} [Inhabited α] {l:List α} {i:Int} (h:i.toNat<l.length):nth l i=l[i.toNat]:=by
 simp[nth,h]
def Ct {α:Type} (p:α→Bool) (l:List α):Int:=match l.findIdx? p with | some i=>(i:Int) | none=>-1
theorem Dh {α:Type} {p:α→Bool} {l:List α} {j:Nat} (h:j<l.length) (h1:∀ i (hi:i<l.length),i<j→p l[i]=false) (h2:p l[j]=true):Ct p l=j:=by
 have:l.findIdx? p=some j:=by
  rw[List.findIdx?_eq_some_iff_getElem]
  exact⟨h,h2,fun i hi=>by simp[h1 i qn hi]⟩
 simp[Ct,this]
theorem Ea {α:Type} {p:α→Bool} {l:List α} (h1:∀ i (hi:i<l.length),p l[i]=false):Ct p l=-1:=by
 have:l.findIdx? p=none:=by
  rw[List.findIdx?_eq_none_iff]
  intro x hx
  obtain ⟨i,hi,rfl⟩:=List.mem_iff_getElem.1 hx
  exact h1 i hi
 simp[Ct,this]
theorem E9 {α:Type} (p:α→Bool) (l:List α):Ct p l<l.length:=by
 unfold Ct
 split
 ·rename_i i h
  rw[List.findIdx?_eq_some_iff_getElem]at h
  obtain ⟨h,_⟩:=h
  omega
 ·omega
theorem S9 {α:Type} (p:α→Bool) (l:List α):decide (0≤Ct p l)=l.any p:=by
 unfold Ct
 split
 ·rename_i i h
  rw[List.findIdx?_eq_some_iff_getElem]at h
  obtain ⟨h,h2,_⟩:=h
  have:l.any p=true:=List.any_eq_true.2 ⟨_,List.getElem_mem h,h2⟩
  rw[this]
  simp
 ·rename_i h
  rw[List.findIdx?_eq_none_iff]at h
  have:l.any p=false:=by
   rw[List.any_eq_false]
   intro x hx
   simp[h x hx]
  rw[this]
  simp
def Co {α:Type} (p:Nat→α→Bool) (l:List α):Bool:=l.zipIdx.all fun q=>p q.2 q.1
theorem allB_iff {α:Type} {p:Nat→α→Bool} {l:List α}:Co p l=true↔∀ i (h:i<l.length),p i l[i]=true:=by
 simp only[Co,List.all_eq_true]
 constructor
 ·intro h i hi
  exact h (l[i],i) (by rw[List.mk_mem_zipIdx_iff_getElem?];simp[hi])
 ·rintro h ⟨x,i⟩ hx
  rw[List.mk_mem_zipIdx_iff_getElem?]at hx
  obtain ⟨hi,rfl⟩:=List.getElem?_eq_some_iff.1 hx
  exact h i hi
theorem Akt {α:Type} {p:Nat→α→Bool} {l:List α} (h:∀ i (h:i<l.length),p i l[i]=true):Co p l=true:=allB_iff.2 h
theorem A8 {α:Type} {p:Nat→α→Bool} {l:List α} {i:Nat} (h:i<l.length) (h1:p i l[i]=false):Co p l=false:=by
 cases hh:Co p l with
 | false=>rfl
 | true=>have:=allB_iff.1 hh i h;rw[h1]at this;cases this
def Dk {α:Type} (p:Nat→α→Bool) (l:List α) (j:Nat):Prop:=∀ i (h:i<l.length),i<j→p i l[i]=true
theorem A2 {α:Type} (p:Nat→α→Bool) (l:List α):Dk p l 0:=fun i h hj=>absurd hj qn
theorem Ax {α:Type} {p:Nat→α→Bool} {l:List α} {j:Nat} (hI:Dk p l j) (hj:j<l.length) (h:p j l[j]=true):Dk p l (j+1):=by
 intro i hi hij
 rcases Nat.lt_or_ge i j with h1 | h1
 ·exact hI i hi h1
 ·have:i=j:=by omega
  subst this
  exact h
theorem B6 {α:Type} {p:Nat→α→Bool} {l:List α} {j:Nat} (hI:Dk p l j) (hj:l.length≤j):Co p l=true:=Akt fun i hi=>hI i hi qn
def An {α:Type} (l:List α):Prop:=l.length<2147483648
end Go.Sy.YteinjapglfkamaaGreat
namespace Go.Sy
theorem Ym {M:Nat→Prop} {w:World} {sz:Nat} {α:Type} {e:α→SV} {v:Value} (h:v=.slice none 0 0):RdD M w (.sl sz e []) v:=by
 simp only[RdD]
 exact .inl ⟨Y,none,0,h⟩
theorem Ae6 {C:Cx} {k:List KI} {s:SS} (d:Nat) {sz:Nat} {α β:Type} {e:α→SV} {l:List α} {e':β→SV} {l':List β} (h:s.h d=.row sz e l) (hl:l'.length=l.length)
  (hv:∀ (M:Nat→Prop) (w:World) (i:Nat) (h1:i<l.length) (h2:i<l'.length) (v:Value),RdD M w (e l[i]) v→RdD M w (e' l'[i]) v) (hg:G C k ⟨s.σ,upd s.h d (.row sz e' l')⟩):G C k s:=fun κ a w hs =>
 hg κ a w ⟨hs.defers,hs.size,hs.inv,hs.ctx,hs.slot,fun i=>by
  show ObOK κ w i (upd s.h d (.row sz e' l') i)
  by_cases hi:i=d
  ·subst hi
   rw[Bi]
   have:=hs.obj i
   rw[h]at this
   rcases this with ⟨h1,rfl⟩ | ⟨b,cap,cs,T,fr,e1,e2,e3,e4,e5,e6⟩
   ·exact .inl ⟨h1,List.eq_nil_of_length_eq_zero (by simpa using hl)⟩
   ·refine .inr ⟨b,cap,cs,T,fr,by rw[hl];exact e1,e2,e3,e4,by omega,fun i x hx=>?_⟩
    obtain ⟨hi2,rfl⟩:=hx
    obtain ⟨_,u,hu,hrest⟩:=e6 i (e (l[i]'qn)) ⟨by omega,rfl⟩
    exact⟨hi2,u,hv _ _ i qn hi2 u hu,hrest⟩
  ·rw[B0 _ _ hi];exact hs.obj i⟩
theorem Aif {κ:Ka} {w:World} {x:SV}:∀ {l:List SV} {cs:List Value} {i:Nat},RdL κ w l cs→(∀ y v,l[i]? = some y→Rd κ w y v→Rd κ w x v)→RdL κ w (l.set i x) cs
 | [],_,_,h,_=>h
 | y::l,cs,0,h,hx=>by
  simp only[RdL,List.set_cons_zero]at h ⊢
  obtain ⟨v,r,e1,e2,e3⟩:=h
  exact⟨v,r,e1,hx y v E e2,e3⟩
 | y::l,cs,i+1,h,hx=>by
  simp only[RdL,List.set_cons_succ]at h ⊢
  obtain ⟨v,r,e1,e2,e3⟩:=h
  exact⟨v,r,e1,e2,Aif e3 (fun z u hz hu=>hx z u hz hu)⟩
theorem Ae7 {C:Cx} {k:List KI} {s:SS} (b i d sz:Nat) {α:Type} (e:α→SV) {l:List SV} (hb:s.h b=.box l) (h:l[i]? = some (.val (.slice none 0 0))) (hd:s.h d=.fresh) (hbd:Nat.beq b d=false)
  (hg:G C k ⟨s.σ,upd (upd s.h b (.box (l.set i (.osl d)))) d (.row sz e [])⟩):G C k s:=fun κ a w hs=>by
 have hne:b≠d:=fun e=>by rw[e,Nat.beq_refl]at hbd;cases hbd
 have hnew:κ d=.new:=by have:=hs.obj d;rwa [hd]at this
 obtain ⟨st,inv⟩:=Ho hs.inv hnew (e:=.nil) (Grew.refl w) (fun b hb=>by cases hb)
 refine hg (C1 κ d .nil) a w ⟨hs.defers,hs.size,inv,hs.ctx.step inv st,fun j=>Rd.step st _ _ (hs.slot j),fun j=>?_⟩
 show ObOK _ w j (upd (upd s.h b (.box (l.set i (.osl d)))) d (.row sz e []) j)
 by_cases hj:j=d
 ·subst hj;rw[Bi];exact .inl ⟨As _ _ _,rfl⟩
 ·rw[B0 _ _ hj]
  by_cases hjb:j=b
  ·subst hjb
   rw[Bi]
   have:=ObOK.step st hj _ (hs.obj j)
   rw[hb]at this
   obtain ⟨b',cs,T,fr,e1,e2,e3,e4,e5⟩:=this
   refine⟨b',cs,T,fr,e1,e2,e3,e4,Aif e5 fun y v hy hv=>?_⟩
   rw[h]at hy
   cases hy
   simp only[Rd]at hv
   simp only[Rd,As]
   exact hv
  ·rw[B0 _ _ hjb];exact ObOK.step st hj _ (hs.obj j)
theorem Ou {P:Program} (w:World) {t e:TypeId} (h:P.underlying t=some (.slice e)) (ad:Option Addr) (n cap c1 c2:Nat):(Op.equal t (.slice ad n cap) (.slice none c1 c2)).run P w=.ok ad.isNone w:=by
 have key:∀ d,(Op.equalIn (d+1) t (.slice ad n cap) (.slice none c1 c2)).run P w=.ok ad.isNone w:=fun d=>by
  cases ad<;>simp[Op.equalIn,run_underlying h]
 exact key 9999
inductive NilT (s:SS):SV→List Nat→Nat→Prop
 | sl {sz:Nat} {α:Type} {e:α→SV} {l:List α}:NilT s (.sl sz e l) [] l.length
 | row {k sz:Nat} {α:Type} {e:α→SV} {l:List α} (h:s.h k=.row sz e l):NilT s (.osl k) [k] l.length
theorem NilT.at {C:Cx} {s:SS} {κ:Ka} {a:Act} {w:World} {x:Operand} {rd:List Nat} {n:Nat} (hs:St C.F C.n s κ a w) (hx:NilT s (ev s x) rd n):∃ (ad:Option Addr) (m cap:Nat),a.eval x=.slice ad m cap∧(ad.isNone=true→n=0):=by
 have h1:Rd κ w (ev s x) (a.eval x):=hs.ev x
 generalize ev s x=y at *
 cases hx with
 | @sl sz α e l =>
  simp only[Rd,RdD]at h1
  rcases h1 with ⟨rfl,a',cap,h1⟩ | ⟨b,off,cap,h1,_⟩
  ·exact⟨_,_,_,h1,fun _=>rfl⟩
  ·exact⟨_,_,_,h1,fun h=>by cases h⟩
 | @row k' sz α e l hr =>
  have hob:=hs.obj k'
  rw[hr]at hob
  simp only[Rd]at h1
  rcases hob with ⟨hκ,hl⟩ | ⟨b,cap,_,_,_,hκ,_⟩
  ·rw[hκ]at h1
   exact⟨_,_,_,h1,fun _=>by rw[hl];rfl⟩
  ·rw[hκ]at h1
   exact⟨_,_,_,h1,fun h=>by cases h⟩
theorem Eg {C:Cx} {k:List KI} {s:SS} {all:Array Oper} {o:Oper} {rest:List Oper} {op:BinOp} {t yt:TypeId} {ti:TI} {et:TypeId} {sz eb n:Nat} {ez:List Value} {x y:Operand} {rd:List Nat} (h:o.op=.binOp op t x y yt) (hop:op=.eql∨op=.neq)
  (ht:C.Γ.get t=some ti) (hk:ti.k=.slice et sz eb ez) (hy:ev s y=.val (.slice none 0 0)) (hx:NilT s (ev s x) rd n) (hd:Qh C.n o=true) (hw:D0 C.n all o s=some true)
  (hg:∀ b:Bool,(b=true→n=0)→G C (.ops all rest::k) (s.upd o.dst ⟨.val (.bool (if op=.eql then b else !b)),rd,[]⟩)):G C (.ops all (o::rest)::k) s:=fun κ a w hs=>by
 have h2:Rd κ w (ev s y) (a.eval y):=hs.ev y
 rw[hy]at h2
 obtain ⟨ad,m,cap,e1,e2⟩:=hx.at hs
 obtain ⟨d,info,z,k1,k2,_⟩:=C.Γ.ok t ti ht
 rw[hk]at k2
 simp only[TK.ok]at k2
 have hrun:=Ou (P:=C.P) w (t:=t) (e:=et) (by first | exact k2.1 ▸ k1 | (rw[k1,k2.1])) ad m cap 0 0
 have hG:=hg ad.isNone e2
 have hv:=h2.val
 refine wpList_step fun K hK=>?_
 rw[if_pos (Sa hs (Eb hw).2 (Eb hw).1)]
 have hx':(execOp a.eval o).run C.P w=.ok (.value (.bool (if op=.eql then ad.isNone else !ad.isNone))) w:=by
  rcases hop with rfl | rfl<;>simp[execOp,h,e1,hv,eqGuard,binOp,hrun]
 simp only[Oper.wp,hx',Oper.upon]
 exact hK _ _ (hG κ _ w (hs.put (U:=⟨.val (.bool (if op=.eql then ad.isNone else !ad.isNone)),rd,[]⟩) (X5 hd) (Step.refl _ κ w) hs.inv (by simp[Rd]) (fun p hp=>by cases hp)))
def KeepL (s:SS):List (Nat × Ob)→Prop
 | []=>True
 | (k,o)::r=>s.h k=o∧KeepL s r
theorem KeepL.all {s:SS}:∀ {l:List (Nat × Ob)},KeepL s l→∀ p∈l,s.h p.1=p.2
 | [],_,p,hp=>by cases hp
 | (k,o)::r,h,p,hp=>by
  rcases List.mem_cons.1 hp with rfl | hp
  ·exact h.1
  ·exact KeepL.all h.2 p hp
theorem stepD2 {C:Cx} {k:List KI} {s:SS} {all:Array Oper} {done:List Stp} {o:Oper} {rest:List Oper} {U:Up} (hg:Good C.P o s U) (hk:KeepL s U.objs) (hi:all[done.length]? = some o) (hw:D0 C.n all o s=some true)
  (h:DR C k all (done++[⟨done.length,o,⟨U.v,U.rd++U.ws,[]⟩,true⟩]) rest (s.upd o.dst ⟨U.v,U.rd++U.ws,[]⟩)) (hn:(Hh o || J8 o)=false:=by rfl):DR C k all done (o::rest) s :=
 Anx _ (.of2 (hg.keep hk.all) hn) hi (Eb hw).1 h
theorem Ais {κ:Ka} {w w':World} (hi:Inv κ w) (g:Grew w w'):Step (fun _=>False) κ w κ w'∧Inv κ w' :=
 ⟨⟨g.size,g.os,g.tape,g.output,rfl,fun b hb=>g.blk b (hi.mbnd b hb),fun b hb _=>g.blk b hb,fun k b _ hb=>g.blk b (hi.bnd k b hb),fun _ _=>rfl,fun _ h=>h.elim,fun _ h=>.inl h⟩,
  ⟨hi.inj,fun k b h=>Nat.lt_of_lt_of_le (hi.bnd k b h) g.size,hi.apart,fun b h=>Nat.lt_of_lt_of_le (hi.mbnd b h) g.size⟩⟩
theorem Am1 {P:Program} {o:Oper} {s:SS} {x y:Operand} {at_:Array TypeId} {k k':IntKind} {m n:Int} (h:o.op=.call ⟨.builtin .min,#[x,y],at_⟩)
  (hx:ev s x=.val (.int k m)) (hy:ev s y=.val (.int k' n)):Good P o s ⟨.val (.int k (if n<m then n else m)),[],[]⟩ :=
 Good.pure fun κ a w _ hr ho=>by
  have h1:=hr x (by simp[h,Op.operands,Call.operands])
  have h2:=hr y (by simp[h,Op.operands,Call.operands])
  rw[hx]at h1
  rw[hy]at h2
  refine⟨.int k (if n<m then n else m),?_,by simp[Rd]⟩
  simp[execOp,h,resolve,invoke,builtin,Builtin.min_,Builtin.min2,h1.val,h2.val]
end Go.Sy
namespace Go.Sy.YteinjapglfkamaaGreat
open Go.Proofs
attribute [local irreducible] Go.Sy.G Go.Sy.DR
set_option maxRecDepth 20000
set_option maxHeartbeats 4000000
theorem Ez {α:Type} (sz:Nat) (e:α→SV) (l:List α) (i:Int):Sy.Spec Tryz.prog 83 [.sl sz e l,Aa i] [] (Ad (Aj i l.length)) []:=Ab Γ hm 100 F83 Tryz.ntmps83 rfl fun F hF=>by
 conv=>whnf
 (repeat' (first | (refine⟨fun h=>?_,fun h=>?_⟩<;>(repeat (first | simp only[decide_eq_true_eq]at h | simp only[decide_eq_false_iff_not]at h))<;>((refine rg ?_);(conv=>whnf))) | (refine Ac rfl (.cons .tmp .nil) ?_ rfl)))
 all_goals (refine congrArg Ad ?_)
 all_goals grind [Aj]
theorem Afy {α:Type} (sz:Nat) (e:α→SV) (l:List α) (i:Int):Sy.Spec Tryz.prog 137 [.sl sz e l,Aa i] [] (Ad (Aj i l.length)) []:=Ab Γ hm 100 F137 Tryz.ntmps137 rfl fun F hF=>by
 conv=>whnf
 (repeat' (first | (refine⟨fun h=>?_,fun h=>?_⟩<;>(repeat (first | simp only[decide_eq_true_eq]at h | simp only[decide_eq_false_iff_not]at h))<;>((refine rg ?_);(conv=>whnf))) | (refine Ac rfl (.cons .tmp .nil) ?_ rfl)))
 all_goals (refine congrArg Ad ?_)
 all_goals grind [Aj]
theorem Ada {α:Type} (sz:Nat) (e:α→SV) (l:List α) (i:Int):Sy.Spec Tryz.prog 142 [.sl sz e l,Aa i] [] (Ad (Aj i l.length)) []:=Ab Γ hm 100 F142 Tryz.ntmps142 rfl fun F hF=>by
 conv=>whnf
 (repeat' (first | (refine⟨fun h=>?_,fun h=>?_⟩<;>(repeat (first | simp only[decide_eq_true_eq]at h | simp only[decide_eq_false_iff_not]at h))<;>((refine rg ?_);(conv=>whnf))) | (refine Ac rfl (.cons .tmp .nil) ?_ rfl)))
 all_goals (refine congrArg Ad ?_)
 all_goals grind [Aj]
theorem Mf {α:Type} (sz:Nat) (e:α→SV) (l:List α) (i:Int):Sy.Spec Tryz.prog 143 [.sl sz e l,Aa i] [] (Ad (Aj i l.length)) []:=Ab Γ hm 100 F143 Tryz.ntmps143 rfl fun F hF=>by
 conv=>whnf
 (repeat' (first | (refine⟨fun h=>?_,fun h=>?_⟩<;>(repeat (first | simp only[decide_eq_true_eq]at h | simp only[decide_eq_false_iff_not]at h))<;>((refine rg ?_);(conv=>whnf))) | (refine Ac rfl (.cons .tmp .nil) ?_ rfl)))
 all_goals (refine congrArg Ad ?_)
 all_goals grind [Aj]
theorem Ic {α:Type} (sz:Nat) (e:α→SV) (l:List α) (i:Int):Sy.Spec Tryz.prog 92 [.sl sz e l,Aa i] [] (Ad (Aj i l.length)) []:=Ab Γ hm 100 F92 Tryz.ntmps92 rfl fun F hF=>by
 conv=>whnf
 (repeat' (first | (refine⟨fun h=>?_,fun h=>?_⟩<;>(repeat (first | simp only[decide_eq_true_eq]at h | simp only[decide_eq_false_iff_not]at h))<;>((refine rg ?_);(conv=>whnf))) | (refine Ac rfl (.cons .tmp .nil) ?_ rfl)))
 all_goals (refine congrArg Ad ?_)
 all_goals grind [Aj]
theorem Afx {α:Type} (sz:Nat) (e:α→SV) (l:List α) (i:Int):Sy.Spec Tryz.prog 145 [.sl sz e l,Aa i] [] (Ad (Aj i l.length)) []:=Ab Γ hm 100 F145 Tryz.ntmps145 rfl fun F hF=>by
 conv=>whnf
 (repeat' (first | (refine⟨fun h=>?_,fun h=>?_⟩<;>(repeat (first | simp only[decide_eq_true_eq]at h | simp only[decide_eq_false_iff_not]at h))<;>((refine rg ?_);(conv=>whnf))) | (refine Ac rfl (.cons .tmp .nil) ?_ rfl)))
 all_goals (refine congrArg Ad ?_)
 all_goals grind [Aj]
theorem Amu (l:List Int) (x:Int) (hl:An l):Sy.Spec Tryz.prog 91 [.sl 1 Aa l,Aa x] [] (Aa (Ct (· == x) l)) []:=Ab Γ hm 100 F91 Tryz.ntmps91 rfl fun F hF=>by
 unfold An at hl
 conv=>whnf
 refine Ay l.length (fun j=>∀ i (h:i<l.length),i<j→(l[i] == x)=false) (fun j=>[(0,.sl 1 Aa l),(1,Aa x),(7,Aa l.length),(8,Aa j)]) (fun _=>[]) [] (fun i h hj=>absurd hj qn) ⟨⟨E,E,E,E,E,E,E,E,Y⟩,Y,E,E⟩ ?_
 intro j hj hI
 refine rg ?_;conv=>whnf
 (repeat' (first | (refine⟨fun h=>?_,fun h=>?_⟩<;>(repeat (first | simp only[decide_eq_true_eq]at h | simp only[decide_eq_false_iff_not]at h | simp only[beq_iff_eq]at h | simp only[beq_eq_false_iff_ne]at h))<;>((refine rg ?_);(conv=>whnf))) | (refine Ac rfl (.cons .tmp .nil) ?_ rfl) | (refine⟨qq,?_⟩;((conv=>whnf))) | (refine⟨by (omega),by (omega),?_⟩;((conv=>whnf))) | (refine⟨by (unfold I64;omega),?_⟩;((conv=>whnf))) | refine Av [] hI qn ?_ ⟨⟨rfl,rfl,rfl,rfl,rfl,rfl,rfl,rfl,trivial⟩,trivial,rfl,rfl⟩))
 all_goals try (refine congrArg Aa ?_)
 ·exact Dh qn hI (by simpa using h.symm)
 ·intro i hi hij
  rcases Nat.lt_or_ge i j with h1 | h1
  ·exact hI i hi h1
  ·have:i=j:=by omega
   subst this
   simpa using Ne.symm h
 ·exact Ea (fun i hi=>hI i hi qn)
theorem C2 (l:List Int) (x:Int) (hl:An l):Sy.Spec Tryz.prog 25 [.sl 1 Aa l,Aa x] [] (Ad (inB l x)) []:=Ab Γ hm 100 F25 Tryz.ntmps25 rfl fun F hF=>by
 conv=>whnf
 (repeat' (first | (refine Ac rfl (.cons .tmp .nil) ?_ rfl) | (refine Ag (Amu _ _ hl) F91 rfl rfl rfl rfl rfl ?_;((refine rg ?_);(conv=>whnf)))))
 exact congrArg Ad (S9 _ _).symm
def Cp (p:Port) (v:Int):Bool:=v != 0 && (v == p.native || inB p.tagged v)
theorem V8 (p:Port) (v:Int) (hl:An p.tagged):Sy.Spec Tryz.prog 93 [A5 p,Aa v] [] (Ad (Cp p v)) []:=Ab Γ hm 100 F93 Tryz.ntmps93 rfl fun F hF=>by
 conv=>whnf
 (repeat' (first | (refine⟨fun h=>?_,fun h=>?_⟩<;>(repeat (first | simp only[beq_iff_eq]at h | simp only[beq_eq_false_iff_ne]at h | simp only[bne_iff_ne]at h | simp only[bne_eq_false_iff_eq]at h))<;>((refine rg ?_);(conv=>whnf))) | (refine Ac rfl (.cons .tmp .nil) ?_ rfl) | (refine Ag (C2 _ _ hl) F25 rfl rfl rfl rfl rfl ?_;((refine rg ?_);(conv=>whnf)))))
 all_goals (refine congrArg Ad ?_)
 all_goals grind [Cp]
def Jr (l:List Int) (least most:Int) (i:Nat) (x:Int):Bool:=decide (least≤x) && decide (x≤most) && (i == 0 || decide (nth l ((i:Int)-1)<x))
def C6 (l:List Int) (least most:Int):Bool:=decide (0<l.length) && decide (l.length≤16) && Co (Jr l least most) l
theorem Af6 (l:List Int) (least most:Int) (hl:An l):Sy.Spec Tryz.prog 144 [.sl 1 Aa l,Aa least,Aa most] [] (Ad (C6 l least most)) []:=Ab Γ hm 100 F144 Tryz.ntmps144 rfl fun F hF=>by
 unfold An at hl
 conv=>whnf
 refine Ay l.length (fun j=>Dk (Jr l least most) l j) (fun j=>[(0,.sl 1 Aa l),(1,Aa least),(2,Aa most),(9,.sl 1 Aa l),(10,Aa l.length),(11,Aa j)]) (fun _=>[]) [] (A2 _ _) ⟨⟨E,E,E,E,E,E,E,E,E,E,E,E,Y⟩,Y,E,E⟩ ?_
 intro j hj hI
 refine rg ?_;conv=>whnf
 (repeat' (first | (refine⟨fun h=>?_,fun h=>?_⟩<;>(repeat (first | simp only[decide_eq_true_eq]at h | simp only[decide_eq_false_iff_not]at h))<;>((refine rg ?_);(conv=>whnf);repeat((first|refine aF ?_|refine aT ?_);(refine rg ?_);(conv=>whnf)))) | (refine Ac rfl (.cons .tmp .nil) ?_ rfl) | (refine⟨qq,?_⟩;((conv=>whnf))) | (refine⟨by (first | (unfold I64;omega) | omega),by (omega),?_⟩;((conv=>whnf))) | (refine⟨by (unfold I64;omega),?_⟩;((conv=>whnf))) | refine Av [] hI qn ?_ ⟨⟨rfl,rfl,rfl,rfl,rfl,rfl,rfl,rfl,rfl,rfl,rfl,rfl,trivial⟩,trivial,rfl,rfl⟩))
 all_goals try (refine congrArg Ad ?_)
 all_goals try simp only[Int.toNat_natCast,Int.pred_toNat]at *
 ·rw[C6,A8 (i:=j) qn (by simp[Jr];omega)];simp
 ·rw[C6,A8 (i:=j) qn (by simp[Jr];omega)];simp
 ·rw[C6,A8 (i:=j) qn (by simp only[Jr,Ah (show ((j:Int)-1).toNat<l.length by omega),Int.pred_toNat,Int.toNat_natCast];simp;omega)];simp
 ·exact Ax hI qn (by simp only[Jr,Ah (show ((j:Int)-1).toNat<l.length by omega),Int.pred_toNat,Int.toNat_natCast];simp;omega)
 ·exact Ax hI qn (by simp[Jr];omega)
 ·rw[C6,B6 hI qn,Bool.eq_iff_iff];simp;omega
 ·rw[C6];simp;omega
theorem Aat (l:List Int) (most:Int) (hl:An l):Sy.Spec Tryz.prog 86 [.sl 1 Aa l,Aa most] [] (Ad (decide (l.length=0) || C6 l 1 most)) []:=Ab Γ hm 100 F86 Tryz.ntmps86 rfl fun F hF=>by
 conv=>whnf
 (repeat' (first | (refine⟨fun h=>?_,fun h=>?_⟩<;>(repeat (first | simp only[beq_iff_eq]at h | simp only[beq_eq_false_iff_ne]at h))<;>((refine rg ?_);(conv=>whnf))) | (refine Ac rfl (.cons .tmp .nil) ?_ rfl) | (refine Ag (Af6 l 1 most hl) F144 rfl rfl rfl rfl rfl ?_;((refine rg ?_);(conv=>whnf)))))
 all_goals (refine congrArg Ad ?_)
 all_goals grind
theorem Mn {K:List Nat}:∀ (a b:List SV),B8 K (a++b)=(B8 K a && B8 K b)
 | [],b=>by simp[B8]
 | x::a,b=>by simp[B8,Mn a b,Bool.and_assoc]
theorem Cr {f:FuncId} {first cap xs:List SV} (hc:(SV.clo (.func f) first cap).inn []=true) (hx:B8 [] xs=true):B8 [] (first++xs++cap)=true:=by
 simp only[SV.inn,Bool.and_eq_true]at hc
 rw[Mn,Mn,hc.1,hc.2,hx]
 rfl
theorem Hu (l:List Domain) (p:Domain→Bool) (f:FuncId) (first cap:List SV) (hc:(SV.clo (.func f) first cap).inn []=true) (hf:∀ x∈l,Hz Tryz.prog f (first++[At x]++cap) (Ad (p x))) (hl:An l) :
  Sy.Spec Tryz.prog 201 [.sl 6 At l,.clo (.func f) first cap] [] (Aa (Ct p l)) []:=Ab Γ hm 100 F201 Tryz.ntmps201 rfl fun F hF=>by
 unfold An at hl
 have hin:∀ x:Domain,B8 [] (first++[At x]++cap)=true:=fun x=>Cr hc rfl
 conv=>whnf
 refine Ay l.length (fun j=>Dk (fun _ x=>!(p x)) l j) (fun j=>[(0,.sl 6 At l),(1,.clo (.func f) first cap),(7,Aa l.length),(8,Aa j)]) (fun _=>[]) [] (A2 _ _) ⟨⟨E,E,Bb _,hc,E,E,E,E,Y⟩,Y,E,E⟩ ?_
 intro j hj hI
 refine rg ?_;conv=>whnf
 refine⟨fun h=>?_,fun h=>?_⟩
 ·have h:=of_decide_eq_true h
  have hj2:j<l.length:=by omega
  refine rg ?_;conv=>whnf
  refine⟨E,by omega,by omega,?_⟩
  conv=>whnf
  refine D7 (hf l[j] (List.getElem_mem hj2)) E E E (by simp only[hin];rfl) E E ?_
  refine rg ?_;conv=>whnf
  refine⟨fun h2=>?_,fun h2=>?_⟩
  ·refine rg ?_;conv=>whnf
   refine Ac E (.cons .tmp .nil) (congrArg Aa ?_) E
   exact Dh hj2 (fun i hi hij=>by simpa using hI i hi hij) h2
  ·refine rg ?_;conv=>whnf
   refine⟨by unfold I64;omega,?_⟩
   conv=>whnf
   exact Av [] hI hj2 (Ax hI hj2 (by simp[h2])) ⟨⟨E,E,Bb _,hc,E,E,E,E,Y⟩,Y,E,E⟩
 ·have h:=of_decide_eq_false h
  refine rg ?_;conv=>whnf
  refine Ac E (.cons .tmp .nil) (congrArg Aa ?_) E
  exact Ea (fun i hi=>by simpa using hI i hi qn)
theorem Vv (l:List Port) (p:Port→Bool) (f:FuncId) (first cap:List SV) (hc:(SV.clo (.func f) first cap).inn []=true) (hf:∀ x∈l,Hz Tryz.prog f (first++[A5 x]++cap) (Ad (p x))) (hl:An l) :
  Sy.Spec Tryz.prog 332 [.sl 7 A5 l,.clo (.func f) first cap] [] (Aa (Ct p l)) []:=Ab Γ hm 100 F332 Tryz.ntmps332 rfl fun F hF=>by
 unfold An at hl
 have hin:∀ x:Port,B8 [] (first++[A5 x]++cap)=true:=fun x=>Cr hc rfl
 conv=>whnf
 refine Ay l.length (fun j=>Dk (fun _ x=>!(p x)) l j) (fun j=>[(0,.sl 7 A5 l),(1,.clo (.func f) first cap),(7,Aa l.length),(8,Aa j)]) (fun _=>[]) [] (A2 _ _) ⟨⟨E,E,Bb _,hc,E,E,E,E,Y⟩,Y,E,E⟩ ?_
 intro j hj hI
 refine rg ?_;conv=>whnf
 refine⟨fun h=>?_,fun h=>?_⟩
 ·have h:=of_decide_eq_true h
  have hj2:j<l.length:=by omega
  refine rg ?_;conv=>whnf
  refine⟨E,by omega,by omega,?_⟩
  conv=>whnf
  refine D7 (hf l[j] (List.getElem_mem hj2)) E E E (by simp only[hin];rfl) E E ?_
  refine rg ?_;conv=>whnf
  refine⟨fun h2=>?_,fun h2=>?_⟩
  ·refine rg ?_;conv=>whnf
   refine Ac E (.cons .tmp .nil) (congrArg Aa ?_) E
   exact Dh hj2 (fun i hi hij=>by simpa using hI i hi hij) h2
  ·refine rg ?_;conv=>whnf
   refine⟨by unfold I64;omega,?_⟩
   conv=>whnf
   exact Av [] hI hj2 (Ax hI hj2 (by simp[h2])) ⟨⟨E,E,Bb _,hc,E,E,E,E,Y⟩,Y,E,E⟩
 ·have h:=of_decide_eq_false h
  refine rg ?_;conv=>whnf
  refine Ac E (.cons .tmp .nil) (congrArg Aa ?_) E
  exact Ea (fun i hi=>by simpa using hI i hi qn)
theorem Akr (l:List Port) (p:Nat→Port→Bool) (f:FuncId) (first cap:List SV) (hc:(SV.clo (.func f) first cap).inn []=true) (hf:∀ i (h:i<l.length),Hz Tryz.prog f (first++[Aa i,A5 l[i]]++cap) (Ad (p i l[i]))) (hl:An l) :
  Sy.Spec Tryz.prog 75 [.sl 7 A5 l,.clo (.func f) first cap] [] (Ad (Co p l)) []:=Ab Γ hm 100 F75 Tryz.ntmps75 rfl fun F hF=>by
 unfold An at hl
 have hin:∀ (i:Nat) (x:Port),B8 [] (first++[Aa i,A5 x]++cap)=true:=fun i x=>Cr hc rfl
 conv=>whnf
 refine Ay l.length (fun j=>Dk p l j) (fun j=>[(0,.sl 7 A5 l),(1,.clo (.func f) first cap),(7,.sl 7 A5 l),(8,Aa l.length),(9,Aa j)]) (fun _=>[]) [] (A2 _ _) ⟨⟨E,E,Bb _,hc,E,E,E,E,E,E,Y⟩,Y,E,E⟩ ?_
 intro j hj hI
 refine rg ?_;conv=>whnf
 refine⟨fun h=>?_,fun h=>?_⟩
 ·have h:=of_decide_eq_true h
  have hj2:j<l.length:=by omega
  refine rg ?_;conv=>whnf
  refine⟨E,by omega,by omega,?_⟩
  conv=>whnf
  refine D7 (hf j hj2) E E E (by simp only[hin];rfl) E E ?_
  refine rg ?_;conv=>whnf
  refine⟨fun h2=>?_,fun h2=>?_⟩
  ·refine rg ?_;conv=>whnf
   refine Ac E (.cons .tmp .nil) (congrArg Ad ?_) E
   exact A8 hj2 (by simpa using h2)
  ·refine rg ?_;conv=>whnf
   refine⟨by unfold I64;omega,?_⟩
   conv=>whnf
   exact Av [] hI hj2 (Ax hI hj2 (by simpa using h2)) ⟨⟨E,E,Bb _,hc,E,E,E,E,E,E,Y⟩,Y,E,E⟩
 ·have h:=of_decide_eq_false h
  refine rg ?_;conv=>whnf
  refine Ac E (.cons .tmp .nil) (congrArg Ad ?_) E
  exact B6 hI qn
theorem Aks (l:List Link) (p:Nat→Link→Bool) (f:FuncId) (first cap:List SV) (hc:(SV.clo (.func f) first cap).inn []=true) (hf:∀ i (h:i<l.length),Hz Tryz.prog f (first++[Aa i,Ch l[i]]++cap) (Ad (p i l[i]))) (hl:An l) :
  Sy.Spec Tryz.prog 77 [.sl 3 Ch l,.clo (.func f) first cap] [] (Ad (Co p l)) []:=Ab Γ hm 100 F77 Tryz.ntmps77 rfl fun F hF=>by
 unfold An at hl
 have hin:∀ (i:Nat) (x:Link),B8 [] (first++[Aa i,Ch x]++cap)=true:=fun i x=>Cr hc rfl
 conv=>whnf
 refine Ay l.length (fun j=>Dk p l j) (fun j=>[(0,.sl 3 Ch l),(1,.clo (.func f) first cap),(7,.sl 3 Ch l),(8,Aa l.length),(9,Aa j)]) (fun _=>[]) [] (A2 _ _) ⟨⟨E,E,Bb _,hc,E,E,E,E,E,E,Y⟩,Y,E,E⟩ ?_
 intro j hj hI
 refine rg ?_;conv=>whnf
 refine⟨fun h=>?_,fun h=>?_⟩
 ·have h:=of_decide_eq_true h
  have hj2:j<l.length:=by omega
  refine rg ?_;conv=>whnf
  refine⟨E,by omega,by omega,?_⟩
  conv=>whnf
  refine D7 (hf j hj2) E E E (by simp only[hin];rfl) E E ?_
  refine rg ?_;conv=>whnf
  refine⟨fun h2=>?_,fun h2=>?_⟩
  ·refine rg ?_;conv=>whnf
   refine Ac E (.cons .tmp .nil) (congrArg Ad ?_) E
   exact A8 hj2 (by simpa using h2)
  ·refine rg ?_;conv=>whnf
   refine⟨by unfold I64;omega,?_⟩
   conv=>whnf
   exact Av [] hI hj2 (Ax hI hj2 (by simpa using h2)) ⟨⟨E,E,Bb _,hc,E,E,E,E,E,E,Y⟩,Y,E,E⟩
 ·have h:=of_decide_eq_false h
  refine rg ?_;conv=>whnf
  refine Ac E (.cons .tmp .nil) (congrArg Ad ?_) E
  exact B6 hI qn
theorem Vn (l:List Domain) (p:Nat→Domain→Bool) (f:FuncId) (first cap:List SV) (hc:(SV.clo (.func f) first cap).inn []=true) (hf:∀ i (h:i<l.length),Hz Tryz.prog f (first++[Aa i,At l[i]]++cap) (Ad (p i l[i]))) (hl:An l) :
  Sy.Spec Tryz.prog 72 [.sl 6 At l,.clo (.func f) first cap] [] (Ad (Co p l)) []:=Ab Γ hm 100 F72 Tryz.ntmps72 rfl fun F hF=>by
 unfold An at hl
 have hin:∀ (i:Nat) (x:Domain),B8 [] (first++[Aa i,At x]++cap)=true:=fun i x=>Cr hc rfl
 conv=>whnf
 refine Ay l.length (fun j=>Dk p l j) (fun j=>[(0,.sl 6 At l),(1,.clo (.func f) first cap),(7,.sl 6 At l),(8,Aa l.length),(9,Aa j)]) (fun _=>[]) [] (A2 _ _) ⟨⟨E,E,Bb _,hc,E,E,E,E,E,E,Y⟩,Y,E,E⟩ ?_
 intro j hj hI
 refine rg ?_;conv=>whnf
 refine⟨fun h=>?_,fun h=>?_⟩
 ·have h:=of_decide_eq_true h
  have hj2:j<l.length:=by omega
  refine rg ?_;conv=>whnf
  refine⟨E,by omega,by omega,?_⟩
  conv=>whnf
  refine D7 (hf j hj2) E E E (by simp only[hin];rfl) E E ?_
  refine rg ?_;conv=>whnf
  refine⟨fun h2=>?_,fun h2=>?_⟩
  ·refine rg ?_;conv=>whnf
   refine Ac E (.cons .tmp .nil) (congrArg Ad ?_) E
   exact A8 hj2 (by simpa using h2)
  ·refine rg ?_;conv=>whnf
   refine⟨by unfold I64;omega,?_⟩
   conv=>whnf
   exact Av [] hI hj2 (Ax hI hj2 (by simpa using h2)) ⟨⟨E,E,Bb _,hc,E,E,E,E,E,E,Y⟩,Y,E,E⟩
 ·have h:=of_decide_eq_false h
  refine rg ?_;conv=>whnf
  refine Ac E (.cons .tmp .nil) (congrArg Ad ?_) E
  exact B6 hI qn
theorem Ae0 (l:List Static) (p:Nat→Static→Bool) (f:FuncId) (first cap:List SV) (hc:(SV.clo (.func f) first cap).inn []=true) (hf:∀ i (h:i<l.length),Hz Tryz.prog f (first++[Aa i,Bk l[i]]++cap) (Ad (p i l[i]))) (hl:An l) :
  Sy.Spec Tryz.prog 79 [.sl 4 Bk l,.clo (.func f) first cap] [] (Ad (Co p l)) []:=Ab Γ hm 100 F79 Tryz.ntmps79 rfl fun F hF=>by
 unfold An at hl
 have hin:∀ (i:Nat) (x:Static),B8 [] (first++[Aa i,Bk x]++cap)=true:=fun i x=>Cr hc rfl
 conv=>whnf
 refine Ay l.length (fun j=>Dk p l j) (fun j=>[(0,.sl 4 Bk l),(1,.clo (.func f) first cap),(7,.sl 4 Bk l),(8,Aa l.length),(9,Aa j)]) (fun _=>[]) [] (A2 _ _) ⟨⟨E,E,Bb _,hc,E,E,E,E,E,E,Y⟩,Y,E,E⟩ ?_
 intro j hj hI
 refine rg ?_;conv=>whnf
 refine⟨fun h=>?_,fun h=>?_⟩
 ·have h:=of_decide_eq_true h
  have hj2:j<l.length:=by omega
  refine rg ?_;conv=>whnf
  refine⟨E,by omega,by omega,?_⟩
  conv=>whnf
  refine D7 (hf j hj2) E E E (by simp only[hin];rfl) E E ?_
  refine rg ?_;conv=>whnf
  refine⟨fun h2=>?_,fun h2=>?_⟩
  ·refine rg ?_;conv=>whnf
   refine Ac E (.cons .tmp .nil) (congrArg Ad ?_) E
   exact A8 hj2 (by simpa using h2)
  ·refine rg ?_;conv=>whnf
   refine⟨by unfold I64;omega,?_⟩
   conv=>whnf
   exact Av [] hI hj2 (Ax hI hj2 (by simpa using h2)) ⟨⟨E,E,Bb _,hc,E,E,E,E,E,E,Y⟩,Y,E,E⟩
 ·have h:=of_decide_eq_false h
  refine rg ?_;conv=>whnf
  refine Ac E (.cons .tmp .nil) (congrArg Ad ?_) E
  exact B6 hI qn
theorem Ahc (l:List Flood) (p:Nat→Flood→Bool) (f:FuncId) (first cap:List SV) (hc:(SV.clo (.func f) first cap).inn []=true) (hf:∀ i (h:i<l.length),Hz Tryz.prog f (first++[Aa i,Bw l[i]]++cap) (Ad (p i l[i]))) (hl:An l) :
  Sy.Spec Tryz.prog 81 [.sl 4 Bw l,.clo (.func f) first cap] [] (Ad (Co p l)) []:=Ab Γ hm 100 F81 Tryz.ntmps81 rfl fun F hF=>by
 unfold An at hl
 have hin:∀ (i:Nat) (x:Flood),B8 [] (first++[Aa i,Bw x]++cap)=true:=fun i x=>Cr hc rfl
 conv=>whnf
 refine Ay l.length (fun j=>Dk p l j) (fun j=>[(0,.sl 4 Bw l),(1,.clo (.func f) first cap),(7,.sl 4 Bw l),(8,Aa l.length),(9,Aa j)]) (fun _=>[]) [] (A2 _ _) ⟨⟨E,E,Bb _,hc,E,E,E,E,E,E,Y⟩,Y,E,E⟩ ?_
 intro j hj hI
 refine rg ?_;conv=>whnf
 refine⟨fun h=>?_,fun h=>?_⟩
 ·have h:=of_decide_eq_true h
  have hj2:j<l.length:=by omega
  refine rg ?_;conv=>whnf
  refine⟨E,by omega,by omega,?_⟩
  conv=>whnf
  refine D7 (hf j hj2) E E E (by simp only[hin];rfl) E E ?_
  refine rg ?_;conv=>whnf
  refine⟨fun h2=>?_,fun h2=>?_⟩
  ·refine rg ?_;conv=>whnf
   refine Ac E (.cons .tmp .nil) (congrArg Ad ?_) E
   exact A8 hj2 (by simpa using h2)
  ·refine rg ?_;conv=>whnf
   refine⟨by unfold I64;omega,?_⟩
   conv=>whnf
   exact Av [] hI hj2 (Ax hI hj2 (by simpa using h2)) ⟨⟨E,E,Bb _,hc,E,E,E,E,E,E,Y⟩,Y,E,E⟩
 ·have h:=of_decide_eq_false h
  refine rg ?_;conv=>whnf
  refine Ac E (.cons .tmp .nil) (congrArg Ad ?_) E
  exact B6 hI qn
theorem Anq (l:List Vrf) (p:Nat→Vrf→Bool) (f:FuncId) (first cap:List SV) (hc:(SV.clo (.func f) first cap).inn []=true) (hf:∀ i (h:i<l.length),Hz Tryz.prog f (first++[Aa i,Cv l[i]]++cap) (Ad (p i l[i]))) (hl:An l) :
  Sy.Spec Tryz.prog 84 [.sl 5 Cv l,.clo (.func f) first cap] [] (Ad (Co p l)) []:=Ab Γ hm 100 F84 Tryz.ntmps84 rfl fun F hF=>by
 unfold An at hl
 have hin:∀ (i:Nat) (x:Vrf),B8 [] (first++[Aa i,Cv x]++cap)=true:=fun i x=>Cr hc rfl
 conv=>whnf
 refine Ay l.length (fun j=>Dk p l j) (fun j=>[(0,.sl 5 Cv l),(1,.clo (.func f) first cap),(7,.sl 5 Cv l),(8,Aa l.length),(9,Aa j)]) (fun _=>[]) [] (A2 _ _) ⟨⟨E,E,Bb _,hc,E,E,E,E,E,E,Y⟩,Y,E,E⟩ ?_
 intro j hj hI
 refine rg ?_;conv=>whnf
 refine⟨fun h=>?_,fun h=>?_⟩
 ·have h:=of_decide_eq_true h
  have hj2:j<l.length:=by omega
  refine rg ?_;conv=>whnf
  refine⟨E,by omega,by omega,?_⟩
  conv=>whnf
  refine D7 (hf j hj2) E E E (by simp only[hin];rfl) E E ?_
  refine rg ?_;conv=>whnf
  refine⟨fun h2=>?_,fun h2=>?_⟩
  ·refine rg ?_;conv=>whnf
   refine Ac E (.cons .tmp .nil) (congrArg Ad ?_) E
   exact A8 hj2 (by simpa using h2)
  ·refine rg ?_;conv=>whnf
   refine⟨by unfold I64;omega,?_⟩
   conv=>whnf
   exact Av [] hI hj2 (Ax hI hj2 (by simpa using h2)) ⟨⟨E,E,Bb _,hc,E,E,E,E,E,E,Y⟩,Y,E,E⟩
 ·have h:=of_decide_eq_false h
  refine rg ?_;conv=>whnf
  refine Ac E (.cons .tmp .nil) (congrArg Ad ?_) E
  exact B6 hI qn
theorem Anr (l:List Irb) (p:Nat→Irb→Bool) (f:FuncId) (first cap:List SV) (hc:(SV.clo (.func f) first cap).inn []=true) (hf:∀ i (h:i<l.length),Hz Tryz.prog f (first++[Aa i,Cg l[i]]++cap) (Ad (p i l[i]))) (hl:An l) :
  Sy.Spec Tryz.prog 87 [.sl 5 Cg l,.clo (.func f) first cap] [] (Ad (Co p l)) []:=Ab Γ hm 100 F87 Tryz.ntmps87 rfl fun F hF=>by
 unfold An at hl
 have hin:∀ (i:Nat) (x:Irb),B8 [] (first++[Aa i,Cg x]++cap)=true:=fun i x=>Cr hc rfl
 conv=>whnf
 refine Ay l.length (fun j=>Dk p l j) (fun j=>[(0,.sl 5 Cg l),(1,.clo (.func f) first cap),(7,.sl 5 Cg l),(8,Aa l.length),(9,Aa j)]) (fun _=>[]) [] (A2 _ _) ⟨⟨E,E,Bb _,hc,E,E,E,E,E,E,Y⟩,Y,E,E⟩ ?_
 intro j hj hI
 refine rg ?_;conv=>whnf
 refine⟨fun h=>?_,fun h=>?_⟩
 ·have h:=of_decide_eq_true h
  have hj2:j<l.length:=by omega
  refine rg ?_;conv=>whnf
  refine⟨E,by omega,by omega,?_⟩
  conv=>whnf
  refine D7 (hf j hj2) E E E (by simp only[hin];rfl) E E ?_
  refine rg ?_;conv=>whnf
  refine⟨fun h2=>?_,fun h2=>?_⟩
  ·refine rg ?_;conv=>whnf
   refine Ac E (.cons .tmp .nil) (congrArg Ad ?_) E
   exact A8 hj2 (by simpa using h2)
  ·refine rg ?_;conv=>whnf
   refine⟨by unfold I64;omega,?_⟩
   conv=>whnf
   exact Av [] hI hj2 (Ax hI hj2 (by simpa using h2)) ⟨⟨E,E,Bb _,hc,E,E,E,E,E,E,Y⟩,Y,E,E⟩
 ·have h:=of_decide_eq_false h
  refine rg ?_;conv=>whnf
  refine Ac E (.cons .tmp .nil) (congrArg Ad ?_) E
  exact B6 hI qn
theorem Anp (l:List Int) (p:Nat→Int→Bool) (f:FuncId) (first cap:List SV) (hc:(SV.clo (.func f) first cap).inn []=true) (hf:∀ i (h:i<l.length),Hz Tryz.prog f (first++[Aa i,Aa l[i]]++cap) (Ad (p i l[i]))) (hl:An l) :
  Sy.Spec Tryz.prog 139 [.sl 1 Aa l,.clo (.func f) first cap] [] (Ad (Co p l)) []:=Ab Γ hm 100 F139 Tryz.ntmps139 rfl fun F hF=>by
 unfold An at hl
 have hin:∀ (i:Nat) (x:Int),B8 [] (first++[Aa i,Aa x]++cap)=true:=fun i x=>Cr hc rfl
 conv=>whnf
 refine Ay l.length (fun j=>Dk p l j) (fun j=>[(0,.sl 1 Aa l),(1,.clo (.func f) first cap),(7,.sl 1 Aa l),(8,Aa l.length),(9,Aa j)]) (fun _=>[]) [] (A2 _ _) ⟨⟨E,E,Bb _,hc,E,E,E,E,E,E,Y⟩,Y,E,E⟩ ?_
 intro j hj hI
 refine rg ?_;conv=>whnf
 refine⟨fun h=>?_,fun h=>?_⟩
 ·have h:=of_decide_eq_true h
  have hj2:j<l.length:=by omega
  refine rg ?_;conv=>whnf
  refine⟨E,by omega,by omega,?_⟩
  conv=>whnf
  refine D7 (hf j hj2) E E E (by simp only[hin];rfl) E E ?_
  refine rg ?_;conv=>whnf
  refine⟨fun h2=>?_,fun h2=>?_⟩
  ·refine rg ?_;conv=>whnf
   refine Ac E (.cons .tmp .nil) (congrArg Ad ?_) E
   exact A8 hj2 (by simpa using h2)
  ·refine rg ?_;conv=>whnf
   refine⟨by unfold I64;omega,?_⟩
   conv=>whnf
   exact Av [] hI hj2 (Ax hI hj2 (by simpa using h2)) ⟨⟨E,E,Bb _,hc,E,E,E,E,E,E,Y⟩,Y,E,E⟩
 ·have h:=of_decide_eq_false h
  refine rg ?_;conv=>whnf
  refine Ac E (.cons .tmp .nil) (congrArg Ad ?_) E
  exact B6 hI qn
structure Net.Fin (n:Net):Prop where
 devices:An n.devices
 ports:An n.ports
 links:An n.links
 domains:An n.domains
 statics:An n.statics
 floods:An n.floods
 vrfs:An n.vrfs
 irbs:An n.irbs
 tagged:∀ p∈n.ports,An p.tagged
 peers:∀ d∈n.domains,An d.peers
 addrs:∀ f∈n.floods,An f.addrs
 imports:∀ v∈n.vrfs,An v.imports
 exports:∀ v∈n.vrfs,An v.exports
def Mx (n:Net) (dev vlan:Int):Int:=Ct (fun d=>d.dev == dev && d.vlan == vlan) n.domains
theorem Ao6 (dev vlan:Int) (d:Domain):Sy.Spec Tryz.prog 202 [At d,.ref 1 (Aa dev) 0,.ref 1 (Aa vlan) 0] [] (Ad (d.dev == dev && d.vlan == vlan)) []:=Ab Γ hm 100 F202 Tryz.ntmps202 rfl fun F hF=>by
 conv=>whnf
 (repeat' (first | (refine⟨fun h=>?_,fun h=>?_⟩<;>(repeat (first | simp only[beq_iff_eq]at h | simp only[beq_eq_false_iff_ne]at h))<;>((refine rg ?_);(conv=>whnf))) | (refine Ac rfl (.cons .tmp .nil) ?_ rfl)))
 all_goals (refine congrArg Ad ?_)
 all_goals simp_all
theorem Li (n:Net) (dev vlan:Int) (hl:An n.domains):Sy.Spec Tryz.prog 138 [Al n,Aa dev,Aa vlan] [] (Aa (Mx n dev vlan)) []:=Ab Γ hm 100 F138 Tryz.ntmps138 rfl fun F hF=>by
 conv=>whnf
 refine A3 4 1 (Aa dev) E E E ?_
 refine A3 5 1 (Aa vlan) E E E ?_
 refine Ag (Hu n.domains (fun d=>d.dev == dev && d.vlan == vlan) 202 [] [.ref 1 (Aa dev) 0,.ref 1 (Aa vlan) 0] E (fun d _=>⟨⟨_,_,F202⟩,Ao6 dev vlan d⟩) hl) F201 E E E E E ?_
 refine rg ?_;conv=>whnf
 exact Ac E (.cons .tmp .nil) E E
def Agu (n:Net):Bool:=decide (n.devices.length≤8) && decide (n.ports.length≤40) && decide (n.links.length≤20) && decide (n.domains.length≤48) && decide (n.statics.length≤64) && decide (n.floods.length≤48) && decide (n.vrfs.length≤16) && decide (n.irbs.length≤48)
theorem fewS (n:Net):Sy.Spec Tryz.prog 71 [Al n] [] (Ad (Agu n)) []:=Ab Γ hm 100 F71 Tryz.ntmps71 rfl fun F hF=>by
 conv=>whnf
 (repeat' (first | (refine⟨fun h=>?_,fun h=>?_⟩<;>(repeat (first | simp only[decide_eq_true_eq]at h | simp only[decide_eq_false_iff_not]at h))<;>((refine rg ?_);(conv=>whnf);repeat((refine aF ?_);(refine rg ?_);(conv=>whnf)))) | (refine Ac rfl (.cons .tmp .nil) ?_ rfl)))
 all_goals (refine congrArg Ad ?_)
 all_goals (unfold Agu;rw[Bool.eq_iff_iff];simp;omega)
def Hy (n:Net) (i:Nat) (d:Domain):Bool :=
 Aj d.dev n.devices.length && decide (1≤d.vlan) && decide (d.vlan≤4094) && decide (0≤d.vni) && decide (d.vni≤16777215) && (d.irb == -1 || Aj d.irb n.irbs.length && (nth n.irbs d.irb).domain == i) && Mx n d.dev d.vlan == i
theorem bareS (n:Net) (i:Nat) (d:Domain) (hl:An n.domains):Sy.Spec Tryz.prog 73 [Al n,Aa i,At d] [] (Ad (Hy n i d)) []:=Ab Γ hm 100 F73 Tryz.ntmps73 rfl fun F hF=>by
 conv=>whnf
 (repeat' (first | (refine⟨fun h=>?_,fun h=>?_⟩<;>(repeat (first | simp only[Aj]at h | simp only[decide_eq_true_eq]at h | simp only[decide_eq_false_iff_not]at h | simp only[beq_iff_eq]at h | simp only[beq_eq_false_iff_ne]at h | simp only[Bool.and_eq_true]at h | simp only[Bool.and_eq_false_iff]at h))<;>((refine rg ?_);(conv=>whnf);repeat((first|refine aF ?_|refine aT ?_);(refine rg ?_);(conv=>whnf)))) | (refine Ac rfl (.cons .tmp .nil) ?_ rfl) | (refine⟨qq,?_⟩;((conv=>whnf))) | (refine⟨by (omega),by (omega),?_⟩;((conv=>whnf))) | (refine Ag (Ez 5 Bm n.devices d.dev) F83 rfl rfl rfl rfl rfl ?_;((refine rg ?_);(conv=>whnf))) | (refine Ag (Afy 5 Cg n.irbs d.irb) F137 rfl rfl rfl rfl rfl ?_;((refine rg ?_);(conv=>whnf))) | (refine Ag (Li n d.dev d.vlan hl) F138 rfl rfl rfl rfl rfl ?_;((refine rg ?_);(conv=>whnf)))))
 all_goals (refine congrArg Ad ?_)
 all_goals (clear hF;grind [Hy,Aj,Ah])
def Ab4 (n:Net) (d:Domain):Bool:=(nth n.devices d.dev).vtep != 0
theorem Apm (n:Net) (d:Domain) (hd:Aj d.dev n.devices.length=true):Sy.Spec Tryz.prog 203 [Al n,At d] [] (Ad (Ab4 n d)) []:=Ab Γ hm 100 F203 Tryz.ntmps203 rfl fun F hF=>by
 simp only[Aj,Bool.and_eq_true,decide_eq_true_eq]at hd
 conv=>whnf
 (repeat' (first | (refine Ac rfl (.cons .tmp .nil) ?_ rfl) | (refine⟨qq,?_⟩;((conv=>whnf))) | (refine⟨by (omega),by (omega),?_⟩;((conv=>whnf)))))
 all_goals (refine congrArg Ad ?_)
 all_goals (clear hF;grind [Ab4,Ah])
def Lx (n:Net) (i:Nat) (d:Domain) (k:Int):Bool :=
 Aj k n.domains.length && k != i && Aj (nth n.domains k).dev n.devices.length && (nth n.domains k).dev != d.dev && (nth n.domains k).vni == d.vni && d.vni != 0 && Ab4 n (nth n.domains k) && Ab4 n d && inB (nth n.domains k).peers i
theorem peerS (n:Net) (i:Nat) (d:Domain) (k:Int) (hn:n.Fin) (hd:Aj d.dev n.devices.length=true):Sy.Spec Tryz.prog 141 [Al n,Aa i,At d,Aa k] [] (Ad (Lx n i d k)) []:=Ab Γ hm 100 F141 Tryz.ntmps141 rfl fun F hF=>by
 conv=>whnf
 (repeat' (first | (refine⟨fun h=>?_,fun h=>?_⟩<;>(repeat (first | simp only[Aj]at h | simp only[decide_eq_true_eq]at h | simp only[decide_eq_false_iff_not]at h | simp only[beq_iff_eq]at h | simp only[beq_eq_false_iff_ne]at h | simp only[bne_iff_ne]at h | simp only[bne_eq_false_iff_eq]at h | simp only[Bool.and_eq_true]at h | simp only[Bool.and_eq_false_iff]at h | simp only[Bool.not_eq_true']at h | simp only[Bool.not_eq_false']at h))<;>((refine rg ?_);(conv=>whnf);repeat((first|refine aF ?_|refine aT ?_);(refine rg ?_);(conv=>whnf)))) | (refine Ac rfl (.cons .tmp .nil) ?_ rfl) | (refine⟨qq,?_⟩;((conv=>whnf))) | (refine⟨by (omega),by (omega),?_⟩;((conv=>whnf))) | (refine Ag (Ic 6 At n.domains k) F92 rfl rfl rfl rfl rfl ?_;((refine rg ?_);(conv=>whnf))) | (refine Ag (Ez 5 Bm n.devices (n.domains[k.toNat]'qn).dev) F83 rfl rfl rfl rfl rfl ?_;((refine rg ?_);(conv=>whnf))) | (refine Ag (Apm n (n.domains[k.toNat]'qn) (by simp only[Aj,Bool.and_eq_true,decide_eq_true_eq];omega)) F203 rfl rfl rfl rfl rfl ?_;((refine rg ?_);(conv=>whnf))) | (refine Ag (Apm n d hd) F203 rfl rfl rfl rfl rfl ?_;((refine rg ?_);(conv=>whnf))) | (refine Ag (C2 (n.domains[k.toNat]'qn).peers i (hn.peers _ (List.getElem_mem _))) F25 rfl rfl rfl rfl rfl ?_;((refine rg ?_);(conv=>whnf)))))
 all_goals (refine congrArg Ad ?_;clear hF;grind [Lx,Aj,Ah])
def Mg (n:Net) (i:Nat) (d:Domain):Bool:=Co (fun at_ k=>Lx n i d k && Ct (· == k) d.peers == at_) d.peers
theorem peers1 (n:Net) (i:Nat) (d:Domain) (at_:Nat) (k:Int) (hn:n.Fin) (hp:An d.peers) (hd:Aj d.dev n.devices.length=true) :
  Sy.Spec Tryz.prog 140 [Aa at_,Aa k,.ref 8 (Al n) 0,.ref 1 (Aa i) 0,.ref 6 (At d) 0] [] (Ad (Lx n i d k && Ct (· == k) d.peers == at_)) []:=Ab Γ hm 100 F140 Tryz.ntmps140 rfl fun F hF=>by
 conv=>whnf
 (repeat' (first | (refine⟨fun h=>?_,fun h=>?_⟩<;>((refine rg ?_);(conv=>whnf))) | (refine Ac rfl (.cons .tmp .nil) ?_ rfl) | (refine Ag (peerS n i d k hn hd) F141 rfl rfl rfl rfl rfl ?_;((refine rg ?_);(conv=>whnf))) | (refine Ag (Amu d.peers k hp) F91 rfl rfl rfl rfl rfl ?_;((refine rg ?_);(conv=>whnf)))))
 all_goals (refine congrArg Ad ?_;clear hF;grind)
theorem peersS (n:Net) (i:Nat) (d:Domain) (hn:n.Fin) (hp:An d.peers) (hd:Aj d.dev n.devices.length=true):Sy.Spec Tryz.prog 74 [Al n,Aa i,At d] [] (Ad (Mg n i d)) []:=Ab Γ hm 100 F74 Tryz.ntmps74 rfl fun F hF=>by
 conv=>whnf
 refine A3 3 8 (Al n) E E E ?_
 refine A3 4 1 (Aa i) E E E ?_
 refine A3 5 6 (At d) E E E ?_
 refine Ag (Anp d.peers (fun at_ k=>Lx n i d k && Ct (· == k) d.peers == at_) 140 [] [.ref 8 (Al n) 0,.ref 1 (Aa i) 0,.ref 6 (At d) 0] E (fun a ha=>⟨⟨_,_,F140⟩,peers1 n i d a d.peers[a] hn hp hd⟩) hp) F139 E E E E E ?_
 refine rg ?_;conv=>whnf
 exact Ac E (.cons .tmp .nil) E E
end Go.Sy.YteinjapglfkamaaGreat
namespace Go.Sy.YteinjapglfkamaaGreat
open Go.Proofs
def Sh {α:Type} (l:List α) (j:Nat):List α:=List.ofFn fun i:Fin l.length=>if i.1<j∨l.length-j≤i.1 then l[l.length-1-i.1] else l[i.1]
theorem De {α:Type} (l:List α) (j:Nat):(Sh l j).length=l.length:=by simp[Sh]
theorem Kh {α:Type} (l:List α) (j i:Nat) (h:i<l.length):(Sh l j)[i]'(by rw[De];exact h)=if i<j∨l.length-j≤i then l[l.length-1-i] else l[i]:=by simp[Sh]
theorem Ai7 {α:Type} (l:List α):Sh l 0=l:=by
 apply List.ext_getElem (De l 0)
 intro i h1 h2
 rw[Kh l 0 i h2,if_neg qn]
theorem Alv {α:Type} (l:List α) (j:Nat) (h:l.length≤2 * j+1):Sh l j=l.reverse:=by
 apply List.ext_getElem (by rw[De,List.length_reverse])
 intro i h1 h2
 have hi:i<l.length:=by rw[De]at h1;exact h1
 rw[Kh l j i hi,List.getElem_reverse]
 split
 ·rfl
 ·congr 1;omega
theorem Ai8 {α:Type} (l:List α) (j:Nat) (h:2 * j+1<l.length) :
  ((Sh l j).set j ((Sh l j)[l.length-1-j]'(by rw[De];omega))).set (l.length-1-j) ((Sh l j)[j]'(by rw[De];omega))=Sh l (j+1):=by
 apply List.ext_getElem (by simp only[List.length_set,De])
 intro i h1 h2
 have hi:i<l.length:=by rw[De]at h2;exact h2
 rw[List.getElem_set,List.getElem_set,Kh l (j+1) i hi,Kh l j i hi,Kh l j _ qn,Kh l j _ qn]
 by_cases e1:l.length-1-j=i
 ·rw[if_pos e1,if_neg qn,if_pos qn]
  congr 1;omega
 ·rw[if_neg e1]
  by_cases e2:j=i
  ·rw[if_pos e2,if_neg qn,if_pos qn]
   congr 1;omega
  ·rw[if_neg e2]
   by_cases e3:i<j∨l.length-j≤i
   ·rw[if_pos e3,if_pos qn]
   ·rw[if_neg e3,if_neg qn]
theorem Ai9 {α:Type} {l u:List α} {j k:Nat} (hu:Sh l j=u) (h:2 * j+1<l.length) (hk:l.length-1-j=k) (h1:k<u.length) (h2:j<u.length):(u.set j u[k]).set k u[j]=Sh l (j+1):=by
 subst hu hk
 exact Ai8 l j h
end Go.Sy.YteinjapglfkamaaGreat
namespace Go.Sy.YteinjapglfkamaaGreat
open Go.Proofs
attribute [local irreducible] Go.Sy.G Go.Sy.DR
set_option maxRecDepth 20000
set_option maxHeartbeats 4000000
def By (n:Net) (dev vlan:Int):Bool:=decide (0≤Mx n dev vlan)
def Eh (n:Net) (i:Nat) (p:Port):Bool :=
 Aj p.dev n.devices.length && decide (0≤p.native) && decide (p.native≤4094) && (decide (p.tagged.length=0) || C6 p.tagged 1 4094) && !inB p.tagged p.native && !(p.native == 0 && decide (p.tagged.length=0)) &&
  Co (fun _ v=>By n p.dev v) p.tagged && !(decide (0<p.native) && !By n p.dev p.native) &&
  (p.link == -1 || Aj p.link n.links.length && ((nth n.links p.link).a == i || (nth n.links p.link).b == i))
theorem Agf (n:Net) (i:Nat) (p:Port) (hn:n.Fin) (hp:An p.tagged):Sy.Spec Tryz.prog 76 [Al n,Aa i,A5 p] [] (Ad (Eh n i p)) []:=Ab Γ hm 100 F76 Tryz.ntmps76 rfl fun F hF=>by
 conv=>whnf
 (repeat' (first | (refine⟨fun h=>?_,fun h=>?_⟩<;>(repeat (first | simp only[Aj]at h | simp only[decide_eq_true_eq]at h | simp only[decide_eq_false_iff_not]at h | simp only[beq_iff_eq]at h | simp only[beq_eq_false_iff_ne]at h | simp only[Bool.and_eq_true]at h | simp only[Bool.or_eq_true]at h | simp only[Bool.and_eq_false_iff]at h | simp only[Bool.or_eq_false_iff]at h | simp only[Bool.not_eq_true']at h | simp only[Bool.not_eq_false']at h))<;>((refine rg ?_);(conv=>whnf);repeat((first|refine aF ?_|refine aT ?_);(refine rg ?_);(conv=>whnf)))) | (refine Ac rfl (.cons .tmp .nil) ?_ rfl) | (refine Ag (Ez 5 Bm n.devices p.dev) F83 rfl rfl rfl rfl rfl ?_;((refine rg ?_);(conv=>whnf))) | (refine Ag (Aat p.tagged 4094 hp) F86 rfl rfl rfl rfl rfl ?_;((refine rg ?_);(conv=>whnf))) | (refine Ag (C2 p.tagged p.native hp) F25 rfl rfl rfl rfl rfl ?_;((refine rg ?_);(conv=>whnf)))))
 all_goals first | (refine congrArg Ad ?_;clear hF;grind [Eh,Aj]) | skip
 all_goals (
  refine A3 3 8 (Al n) E E E ?_
  refine A3 5 7 (A5 p) E E E ?_
  refine Ay p.tagged.length (fun j=>Dk (fun _ v=>By n p.dev v) p.tagged j) (fun j=>[(1,Aa i),(3,.ref 8 (Al n) 0),(5,.ref 7 (A5 p) 0),(51,.sl 1 Aa p.tagged),(52,Aa p.tagged.length),(53,Aa j)]) (fun _=>[]) [] (A2 _ _) ⟨⟨E,E,E,E,E,E,E,E,E,E,E,E,Y⟩,Y,E,E⟩ ?_
  intro j hj hI
  have hsh:=hp
  unfold An at hsh
  ((first|refine rG Γ hm ?_|refine rD Γ hm qq ?_);(conv=>whnf);repeat((first|refine aF ?_|refine aT ?_);(first|refine rG Γ hm ?_|refine rD Γ hm qq ?_);conv=>whnf)))
 all_goals (
  (repeat' (first | (refine⟨fun h=>?_,fun h=>?_⟩<;>(repeat (first | simp only[Aj]at h | simp only[decide_eq_true_eq]at h | simp only[decide_eq_false_iff_not]at h | simp only[beq_iff_eq]at h | simp only[beq_eq_false_iff_ne]at h | simp only[Bool.and_eq_true]at h | simp only[Bool.and_eq_false_iff]at h))<;>((refine rg ?_);(conv=>whnf);repeat((refine aF ?_);(refine rg ?_);(conv=>whnf)))) | (refine Ac rfl (.cons .tmp .nil) ?_ rfl) | (refine⟨qq,?_⟩;((conv=>whnf))) | (refine⟨by (omega),by (omega),?_⟩;((conv=>whnf))) | (refine⟨by (unfold I64;omega),?_⟩;((conv=>whnf))) | (refine Ag (Li n p.dev (p.tagged[j]'qn) hn.domains) F138 rfl rfl rfl rfl rfl ?_;((refine rg ?_);(conv=>whnf))) | (refine Ag (Li n p.dev p.native hn.domains) F138 rfl rfl rfl rfl rfl ?_;((refine rg ?_);(conv=>whnf))) | (refine Ag (Ada 3 Ch n.links p.link) F142 rfl rfl rfl rfl rfl ?_;((refine rg ?_);(conv=>whnf))) | refine Av [] hI qn ?_ ⟨⟨rfl,rfl,rfl,rfl,rfl,rfl,rfl,rfl,rfl,rfl,rfl,rfl,trivial⟩,trivial,rfl,rfl⟩)))
 all_goals first
  | exact Ax hI qn (by simp only[By,decide_eq_true_eq];omega)
  | (refine congrArg Ad ?_
     have h0:Co (fun _ v=>By n p.dev v) p.tagged=false:=A8 (i:=j) qn (by simp only[By,decide_eq_false_iff_not];omega)
     clear hF hI;grind [Eh])
  | (refine congrArg Ad ?_
     have h0:Co (fun _ v=>By n p.dev v) p.tagged=true:=B6 hI qn
     clear hF hI;grind [Eh,Aj,By,Ah])
def Jh (n:Net) (i:Nat) (l:Link):Bool :=
 Aj l.a n.ports.length && Aj l.b n.ports.length && (nth n.ports l.a).dev != (nth n.ports l.b).dev && (nth n.ports l.a).link == i && (nth n.ports l.b).link == i
theorem Agg (n:Net) (i:Nat) (l:Link):Sy.Spec Tryz.prog 78 [Al n,Aa i,Ch l] [] (Ad (Jh n i l)) []:=Ab Γ hm 100 F78 Tryz.ntmps78 rfl fun F hF=>by
 conv=>whnf
 (repeat' (first | (refine⟨fun h=>?_,fun h=>?_⟩<;>(repeat (first | simp only[Aj]at h | simp only[decide_eq_true_eq]at h | simp only[decide_eq_false_iff_not]at h | simp only[beq_iff_eq]at h | simp only[beq_eq_false_iff_ne]at h | simp only[bne_iff_ne]at h | simp only[bne_eq_false_iff_eq]at h | simp only[Bool.and_eq_true]at h | simp only[Bool.and_eq_false_iff]at h | simp only[Bool.not_eq_true']at h | simp only[Bool.not_eq_false']at h))<;>((refine rg ?_);(conv=>whnf);repeat((first|refine aF ?_|refine aT ?_);(refine rg ?_);(conv=>whnf)))) | (refine Ac rfl (.cons .tmp .nil) ?_ rfl) | (refine⟨qq,?_⟩;((conv=>whnf))) | (refine⟨by (omega),by (omega),?_⟩;((conv=>whnf))) | (refine Ag (Mf 7 A5 n.ports l.a) F143 rfl rfl rfl rfl rfl ?_;((refine rg ?_);(conv=>whnf))) | (refine Ag (Mf 7 A5 n.ports l.b) F143 rfl rfl rfl rfl rfl ?_;((refine rg ?_);(conv=>whnf)))))
 all_goals (refine congrArg Ad ?_;clear hF;grind [Jh,Aj,Ah])
def E4 (n:Net) (s:Static):Bool :=
 Aj s.domain n.domains.length && Aj s.port n.ports.length && (nth n.ports s.port).dev == (nth n.domains s.domain).dev && Cp (nth n.ports s.port) (nth n.domains s.domain).vlan
theorem Aa8 (n:Net) (i:Nat) (s:Static) (hn:n.Fin):Sy.Spec Tryz.prog 80 [Al n,Aa i,Bk s] [] (Ad (E4 n s)) []:=Ab Γ hm 100 F80 Tryz.ntmps80 rfl fun F hF=>by
 conv=>whnf
 (repeat' (first | (refine⟨fun h=>?_,fun h=>?_⟩<;>(repeat (first | simp only[Aj]at h | simp only[decide_eq_true_eq]at h | simp only[decide_eq_false_iff_not]at h | simp only[beq_iff_eq]at h | simp only[beq_eq_false_iff_ne]at h | simp only[Bool.and_eq_true]at h | simp only[Bool.and_eq_false_iff]at h | simp only[Bool.not_eq_true']at h | simp only[Bool.not_eq_false']at h))<;>((refine rg ?_);(conv=>whnf);repeat((refine aT ?_);(refine rg ?_);(conv=>whnf)))) | (refine Ac rfl (.cons .tmp .nil) ?_ rfl) | (refine⟨qq,?_⟩;((conv=>whnf))) | (refine⟨by (omega),by (omega),?_⟩;((conv=>whnf))) | (refine Ag (Ic 6 At n.domains s.domain) F92 rfl rfl rfl rfl rfl ?_;((refine rg ?_);(conv=>whnf))) | (refine Ag (Mf 7 A5 n.ports s.port) F143 rfl rfl rfl rfl rfl ?_;((refine rg ?_);(conv=>whnf))) | (refine Ag (V8 (n.ports[s.port.toNat]'qn) (n.domains[s.domain.toNat]'qn).vlan (hn.tagged _ (List.getElem_mem _))) F93 rfl rfl rfl rfl rfl ?_;((refine rg ?_);(conv=>whnf)))))
 all_goals (refine congrArg Ad ?_;clear hF;grind [E4,Aj,Ah])
def Vt (n:Net) (i:Nat) (x:Irb):Bool :=
 Aj x.domain n.domains.length && Aj x.vrf n.vrfs.length && (nth n.domains x.domain).dev == (nth n.vrfs x.vrf).dev && (nth n.domains x.domain).irb == i && decide (1≤x.bits) && decide (x.bits≤30)
theorem Aj4 (n:Net) (i:Nat) (x:Irb):Sy.Spec Tryz.prog 88 [Al n,Aa i,Cg x] [] (Ad (Vt n i x)) []:=Ab Γ hm 100 F88 Tryz.ntmps88 rfl fun F hF=>by
 conv=>whnf
 (repeat' (first | (refine⟨fun h=>?_,fun h=>?_⟩<;>(repeat (first | simp only[Aj]at h | simp only[decide_eq_true_eq]at h | simp only[decide_eq_false_iff_not]at h | simp only[beq_iff_eq]at h | simp only[beq_eq_false_iff_ne]at h | simp only[Bool.and_eq_true]at h | simp only[Bool.and_eq_false_iff]at h))<;>((refine rd qq ?_);(conv=>whnf);repeat((refine aF ?_);(refine rd qq ?_);(conv=>whnf)))) | (refine Ac rfl (.cons .tmp .nil) ?_ rfl) | (refine⟨qq,?_⟩;((conv=>whnf))) | (refine⟨by (omega),by (omega),?_⟩;((conv=>whnf))) | (refine Aq (Ic 6 At n.domains x.domain) F92 rfl rfl rfl qq rfl ?_;((refine rd qq ?_);(conv=>whnf))) | (refine Aq (Afx 5 Cv n.vrfs x.vrf) F145 rfl rfl rfl qq rfl ?_;((refine rd qq ?_);(conv=>whnf)))))
 all_goals (refine congrArg Ad ?_;clear hF;grind [Vt,Aj,Ah])
def Kb (n:Net) (f:Flood):Bool:=Aj f.dev n.devices.length && decide (f.addrs.length≤16)
theorem right1 (n:Net) (i:Nat) (f:Flood):Sy.Spec Tryz.prog 82 [Aa i,Bw f,.ref 8 (Al n) 0] [] (Ad (Kb n f)) []:=Ab Γ hm 100 F82 Tryz.ntmps82 rfl fun F hF=>by
 conv=>whnf
 (repeat' (first | (refine⟨fun h=>?_,fun h=>?_⟩<;>(repeat (first | simp only[Aj]at h | simp only[decide_eq_true_eq]at h | simp only[decide_eq_false_iff_not]at h | simp only[Bool.and_eq_true]at h | simp only[Bool.and_eq_false_iff]at h))<;>((refine rg ?_);(conv=>whnf))) | (refine Ac rfl (.cons .tmp .nil) ?_ rfl) | (refine Ag (Ez 5 Bm n.devices f.dev) F83 rfl rfl rfl rfl rfl ?_;((refine rg ?_);(conv=>whnf)))))
 all_goals (refine congrArg Ad ?_;clear hF;grind [Kb,Aj])
def Acs (l:List Int) (most:Int):Bool:=decide (l.length=0) || C6 l 1 most
def Yn (n:Net) (v:Vrf):Bool:=Aj v.dev n.devices.length && Acs v.imports 65535 && Acs v.exports 65535
theorem right2 (n:Net) (i:Nat) (v:Vrf) (h1:An v.imports) (h2:An v.exports):Sy.Spec Tryz.prog 85 [Aa i,Cv v,.ref 8 (Al n) 0] [] (Ad (Yn n v)) []:=Ab Γ hm 100 F85 Tryz.ntmps85 rfl fun F hF=>by
 conv=>whnf
 (repeat' (first | (refine⟨fun h=>?_,fun h=>?_⟩<;>(repeat (first | simp only[Aj]at h | simp only[decide_eq_true_eq]at h | simp only[decide_eq_false_iff_not]at h | simp only[Bool.and_eq_true]at h | simp only[Bool.or_eq_true]at h | simp only[Bool.and_eq_false_iff]at h | simp only[Bool.or_eq_false_iff]at h))<;>((refine rg ?_);(conv=>whnf);repeat((refine aF ?_);(refine rg ?_);(conv=>whnf)))) | (refine Ac rfl (.cons .tmp .nil) ?_ rfl) | (refine Ag (Ez 5 Bm n.devices v.dev) F83 rfl rfl rfl rfl rfl ?_;((refine rg ?_);(conv=>whnf))) | (refine Ag (Aat v.imports 65535 h1) F86 rfl rfl rfl rfl rfl ?_;((refine rg ?_);(conv=>whnf))) | (refine Ag (Aat v.exports 65535 h2) F86 rfl rfl rfl rfl rfl ?_;((refine rg ?_);(conv=>whnf)))))
 all_goals (refine congrArg Ad ?_;clear hF;grind [Yn,Acs,Aj])
def Ae (n:Net):Bool :=
 Agu n && Co (Hy n) n.domains && Co (Mg n) n.domains && Co (Eh n) n.ports && Co (Jh n) n.links && Co (fun _=>E4 n) n.statics && Co (fun _=>Kb n) n.floods && Co (fun _=>Yn n) n.vrfs && Co (Vt n) n.irbs
theorem K0 {n:Net} (h:Co (Hy n) n.domains=true) {i:Nat} (hi:i<n.domains.length):Aj n.domains[i].dev n.devices.length=true:=by
 have:=allB_iff.1 h i hi
 simp only[Hy,Bool.and_eq_true]at this
 exact this.1.1.1.1.1.1
theorem Be (n:Net) (hn:n.Fin):Sy.Spec Tryz.prog 23 [Al n] [] (Ad (Ae n)) []:=Ab Γ hm 100 F23 Tryz.ntmps23 rfl fun F hF=>by
 conv=>whnf
 refine A3 1 8 (Al n) E E E ?_
 (repeat' (first | (refine⟨fun h=>?_,fun h=>?_⟩<;>((refine rg ?_);(conv=>whnf);repeat((refine aF ?_);(refine rg ?_);(conv=>whnf)))) | (refine Ac rfl (.cons .tmp .nil) ?_ rfl) | (refine Ag (fewS n) F71 rfl rfl rfl rfl rfl ?_;((refine rg ?_);(conv=>whnf))) | (refine Ag (Vn n.domains (Hy n) 73 [Al n] [] rfl (fun i h=>⟨⟨_,_,F73⟩,bareS n i n.domains[i] hn.domains⟩) hn.domains) F72 rfl rfl rfl rfl rfl ?_;((refine rg ?_);(conv=>whnf))) | (refine Ag (Vn n.domains (Mg n) 74 [Al n] [] rfl (fun i h=>⟨⟨_,_,F74⟩,peersS n i n.domains[i] hn (hn.peers _ (List.getElem_mem _)) (K0 ‹_› h)⟩) hn.domains) F72 rfl rfl rfl rfl rfl ?_;((refine rg ?_);(conv=>whnf))) | (refine Ag (Akr n.ports (Eh n) 76 [Al n] [] rfl (fun i h=>⟨⟨_,_,F76⟩,Agf n i n.ports[i] hn (hn.tagged _ (List.getElem_mem _))⟩) hn.ports) F75 rfl rfl rfl rfl rfl ?_;((refine rg ?_);(conv=>whnf))) | (refine Ag (Aks n.links (Jh n) 78 [Al n] [] rfl (fun i h=>⟨⟨_,_,F78⟩,Agg n i n.links[i]⟩) hn.links) F77 rfl rfl rfl rfl rfl ?_;((refine rg ?_);(conv=>whnf))) | (refine Ag (Ae0 n.statics (fun _=>E4 n) 80 [Al n] [] rfl (fun i h=>⟨⟨_,_,F80⟩,Aa8 n i n.statics[i] hn⟩) hn.statics) F79 rfl rfl rfl rfl rfl ?_;((refine rg ?_);(conv=>whnf))) | (refine Ag (Ahc n.floods (fun _=>Kb n) 82 [] [.ref 8 (Al n) 0] rfl (fun i h=>⟨⟨_,_,F82⟩,right1 n i n.floods[i]⟩) hn.floods) F81 rfl rfl rfl rfl rfl ?_;((refine rg ?_);(conv=>whnf))) | (refine Ag (Anq n.vrfs (fun _=>Yn n) 85 [] [.ref 8 (Al n) 0] rfl (fun i h=>⟨⟨_,_,F85⟩,right2 n i n.vrfs[i] (hn.imports _ (List.getElem_mem _)) (hn.exports _ (List.getElem_mem _))⟩) hn.vrfs) F84 rfl rfl rfl rfl rfl ?_;((refine rg ?_);(conv=>whnf))) | (refine Ag (Anr n.irbs (Vt n) 88 [Al n] [] rfl (fun i h=>⟨⟨_,_,F88⟩,Aj4 n i n.irbs[i]⟩) hn.irbs) F87 rfl rfl rfl rfl rfl ?_;((refine rg ?_);(conv=>whnf)))))
 all_goals (refine congrArg Ad ?_)
 all_goals (clear hF;simp_all[Ae])
theorem X4 {n:Net} (h:Ae n=true) {i:Nat} (hi:i<n.ports.length):Eh n i n.ports[i]=true:=by
 simp only[Ae,Bool.and_eq_true]at h
 exact allB_iff.1 h.1.1.1.1.1.2 i hi
theorem Apq {n:Net} (h:Ae n=true) {i:Nat} (hi:i<n.domains.length):Hy n i n.domains[i]=true:=by
 simp only[Ae,Bool.and_eq_true]at h
 exact allB_iff.1 h.1.1.1.1.1.1.1.2 i hi
theorem Ah8 {n:Net} (h:Ae n=true):n.devices.length≤8∧n.ports.length≤40∧n.links.length≤20∧n.domains.length≤48∧n.irbs.length≤48:=by
 simp only[Ae,Agu,Bool.and_eq_true,decide_eq_true_eq]at h
 omega
theorem Aei {n:Net} (h:Ae n=true) {i:Nat} (hi:i<n.domains.length) :
  (0≤n.domains[i].dev∧n.domains[i].dev.toNat<n.devices.length)∧(1≤n.domains[i].vlan∧n.domains[i].vlan≤4094)∧(0≤n.domains[i].vni∧n.domains[i].vni≤16777215)∧(n.domains[i].irb=-1∨0≤n.domains[i].irb∧n.domains[i].irb.toNat<n.irbs.length):=by
 have:=Apq h hi
 simp only[Hy,Aj,Bool.and_eq_true,Bool.or_eq_true,decide_eq_true_eq,beq_iff_eq]at this
 omega
def Cw (p:Nat→Bool) (j:Nat):List Int:=((List.range j).filter p).map Int.ofNat
theorem Jl (p:Nat→Bool) (j:Nat):Cw p (j+1)=if p j=true then Cw p j++[(j:Int)] else Cw p j:=by
 rw[Cw,List.range_succ,List.filter_append,List.map_append]
 split
 ·rename_i h
  rw[List.filter_cons_of_pos (by exact h),List.filter_nil];rfl
 ·rename_i h
  rw[List.filter_cons_of_neg (by exact h),List.filter_nil,List.map_nil,List.append_nil];rfl
theorem D1 (p:Nat→Bool) (j:Nat):(Cw p j).length≤j:=by
 have:=List.length_filter_le p (List.range j)
 simpa [Cw] using this
theorem filtI_mem {p:Nat→Bool} {j:Nat} {x:Int}:x∈Cw p j↔0≤x∧x<j∧p x.toNat=true:=by
 simp only[Cw,List.mem_map,List.mem_filter,List.mem_range]
 constructor
 ·rintro ⟨i,h1,rfl⟩
  exact⟨Int.natCast_nonneg i,by simp;omega,h1.2⟩
 ·rintro ⟨h1,h2,h3⟩
  exact⟨x.toNat,⟨by omega,h3⟩,Int.toNat_of_nonneg h1⟩
def It (n:Net) (d:Domain) (i:Nat):Bool:=(nth n.ports i).dev == d.dev && Cp (nth n.ports i) d.vlan
def A4 (n:Net) (i:Int):List Int:=Cw (It n (nth n.domains i)) n.ports.length
def Bd (n:Net) (i:Int):List Int:=if (0≤i∧i<n.domains.length)∧Ae n=true then A4 n i else []
theorem C5 (n:Net) (hn:n.Fin) (i:Int):An (Bd n i):=by
 have:=hn.ports
 unfold An at this ⊢
 unfold Bd
 split
 ·have:=D1 (It n (nth n.domains i)) n.ports.length
  unfold A4
  omega
 ·simp
theorem J4 (n:Net) (hn:n.Fin) (i:Int):Sy.Spec Tryz.prog 26 [Al n,Aa i] [] (.sl 1 Aa (Bd n i)) []:=Ab Γ hm 100 F26 Tryz.ntmps26 rfl fun F hF=>by
 have hr:=Be n hn
 have hpl:=Ic 6 At n.domains i
 have hsp:=hn.ports
 unfold An at hsp
 conv=>whnf
 refine Ag hr F23 E E E E E ?_
 cases hb:Ae n
 ·rw[Bd,if_neg (by simp[hb])]
  (refine rg ?_;(conv=>whnf);refine aT ?_;refine rg ?_;(conv=>whnf);refine aT ?_;refine rg ?_;conv=>whnf)
  refine Ap 4 1 Aa E ?_
  refine rg ?_;conv=>whnf
  exact Ac E (.cons .tmp .nil) E E
 (refine rg ?_;(conv=>whnf);refine aF ?_;refine rg ?_;conv=>whnf)
 refine Ag hpl F92 E E E E E ?_
 by_cases hi:0≤i∧i<n.domains.length
 rotate_left
 ·have h0:Aj i n.domains.length=false:=by simp only[Aj,Bool.and_eq_false_iff,decide_eq_false_iff_not];omega
  rw[Bd,if_neg (by simp[hb,hi]),h0]
  (refine rg ?_;(conv=>whnf);refine aT ?_;refine rg ?_;conv=>whnf)
  refine Ap 4 1 Aa E ?_
  refine rg ?_;conv=>whnf
  exact Ac E (.cons .tmp .nil) E E
 have h0:Aj i n.domains.length=true:=by simp only[Aj,Bool.and_eq_true,decide_eq_true_eq];exact hi
 rw[Bd,if_pos ⟨hi,hb⟩,h0]
 have hk:i.toNat<n.domains.length:=by omega
 have hf:=Aei hb hk
 have e1:nth n.domains i=n.domains[i.toNat]:=Ah hk
 rw[A4,e1]
 obtain ⟨d,hd⟩:∃ d,n.domains[i.toNat]=d:=⟨_,rfl⟩
 rw[hd]at hf ⊢
 refine A3 2 8 (Al n) E E E ?_
 (refine rg ?_;(conv=>whnf);refine aF ?_;refine rg ?_;conv=>whnf)
 refine B7 5 1000 1 Aa E E ?_
 refine Aw n.ports.length (fun j=>[(1,Aa i),(2,.ref 8 (Al n) 0),(5,.osl 1000),(19,.sl 7 A5 n.ports),(20,Aa n.ports.length),(21,Aa j)]) (fun j=>[(1000,.row 1 Aa (Cw (It n d) j))]) []
  ⟨⟨rfl,rfl,rfl,rfl,rfl,rfl,rfl,rfl,rfl,rfl,rfl,rfl,trivial⟩,⟨.inl rfl,rfl,trivial⟩,rfl,rfl⟩ ?_
 intro j hj
 refine rg ?_;conv=>whnf
 refine⟨fun h=>?_,fun h=>?_⟩
 ·have hlt:j<n.ports.length:=by simpa using h
  have hsucc:=Jl (It n d) j
  have hfl:=D1 (It n d) j
  have hin:It n d j=((n.ports[j]).dev == d.dev && Cp n.ports[j] d.vlan):=by
   rw[It,Ah (l:=n.ports) (i:=(j:Int)) (by simpa using hlt)];rfl
  rw[hin]at hsucc
  have e1:n.ports[(j:Int).toNat]'qn=n.ports[j]:=rfl
  have hms:=V8 n.ports[j] d.vlan (hn.tagged _ (List.getElem_mem _))
  obtain ⟨p,hp⟩:∃ p,n.ports[j]=p:=⟨_,rfl⟩
  rw[hp]at e1 hsucc hms
  obtain ⟨u,hu⟩:∃ u,Cw (It n d) j=u:=⟨_,rfl⟩
  rw[hu]at hsucc hfl ⊢
  refine rg ?_;conv=>whnf
  refine⟨E,by omega,by omega,?_⟩
  rw[e1]
  conv=>whnf
  refine⟨E,hi.1,hk,?_⟩
  rw[hd]
  conv=>whnf
  refine⟨fun h2=>?_,fun h2=>?_⟩
  ·have h3:∃ k:Nat,(k:Int)=i:=⟨i.toNat,by omega⟩
   rw[h2,Bool.true_and]at hsucc
   refine rd qq ?_;conv=>whnf
   refine⟨E,hi.1,hk,?_⟩
   rw[hd]
   conv=>whnf
   refine Aq hms F93 E E E qq E ?_
   refine rd qq ?_;conv=>whnf
   refine⟨qq,?_⟩
   conv=>whnf
   refine⟨fun h4=>?_,fun h4=>?_⟩
   ·rw[if_pos h4]at hsucc
    refine rg ?_;conv=>whnf
    refine Ai (Am Γ.toTy 48 E E E E E (.row E) (.lit (e:=Aa) (l:=[(j:Int)]) E E) qy (by simp;omega) (by simp;omega)) E E ?_
    refine rg ?_;conv=>whnf
    refine⟨by unfold I64;omega,?_⟩
    conv=>whnf
    exact Ar [(1000,48)] hlt ⟨⟨E,E,E,E,E,E,E,E,E,E,E,E,Y⟩,⟨.inl (congrArg (Ob.row 1 Aa) hsucc),E,Y⟩,E,E⟩
   ·rw[if_neg (by simp[h4])]at hsucc
    refine rg ?_;conv=>whnf
    refine⟨by unfold I64;omega,?_⟩
    conv=>whnf
    exact Ar [] hlt ⟨⟨E,E,E,E,E,E,E,E,E,E,E,E,Y⟩,⟨.inl (congrArg (Ob.row 1 Aa) hsucc),E,Y⟩,E,E⟩
  ·rw[if_neg (by simp[h2])]at hsucc
   refine rd qq ?_;conv=>whnf
   refine⟨qq,?_⟩
   ((conv=>whnf);refine aF ?_;refine rg ?_;conv=>whnf)
   refine⟨by unfold I64;omega,?_⟩
   conv=>whnf
   exact Ar [] hlt ⟨⟨E,E,E,E,E,E,E,E,E,E,E,E,Y⟩,⟨.inl (congrArg (Ob.row 1 Aa) hsucc),E,Y⟩,E,E⟩
 ·have:j=n.ports.length:=by have:=of_decide_eq_false h;omega
  subst this
  refine Au 1000 E ?_
  refine rg ?_;conv=>whnf
  exact Ac E (.cons .tmp .nil) E E
theorem Abf (n:Net) (hn:n.Fin) (l:List Domain) (p:Domain→Bool) (f:FuncId) (first cap:List SV) (hc:(SV.clo (.func f) first cap).inn []=true) (hf:∀ x∈l,Hz Tryz.prog f (first++[At x]++cap) (Ad (p x))) (hl:An l) :
  Sy.Spec Tryz.prog 146 [Al n,.sl 6 At l,.clo (.func f) first cap] [] (Aa (if Ae n=true then Ct p l else -1)) []:=Ab Γ hm 100 F146 Tryz.ntmps146 rfl fun F hF=>by
 have hr:=Be n hn
 have q:=Hu l p f first cap hc hf hl
 conv=>whnf
 refine Ag hr F23 E E E E E ?_
 cases hb:Ae n
 ·rw[if_neg qy]
  (refine rg ?_;(conv=>whnf);refine aT ?_;refine rg ?_;conv=>whnf)
  exact Ac E (.cons .tmp .nil) E E
 rw[if_pos rfl]
 (refine rg ?_;(conv=>whnf);refine aF ?_;refine rg ?_;conv=>whnf)
 refine Ag q F201 E E (by simp only[B8,hc,Bool.and_true];rfl) E E ?_
 refine rg ?_;conv=>whnf
 exact Ac E (.cons .tmp .nil) E E
theorem Aa2 (dev vlan:Int) (d:Domain):Sy.Spec Tryz.prog 147 [At d,.ref 1 (Aa dev) 0,.ref 1 (Aa vlan) 0] [] (Ad (d.dev == dev && d.vlan == vlan)) []:=Ab Γ hm 100 F147 Tryz.ntmps147 rfl fun F hF=>by
 conv=>whnf
 (repeat' (first | (refine⟨fun h=>?_,fun h=>?_⟩<;>(repeat (first | simp only[beq_iff_eq]at h | simp only[beq_eq_false_iff_ne]at h))<;>((refine rg ?_);(conv=>whnf))) | (refine Ac rfl (.cons .tmp .nil) ?_ rfl)))
 all_goals (refine congrArg Ad ?_)
 all_goals simp_all
def B5 (n:Net) (dev vlan:Int):Int:=if Ae n=true then Mx n dev vlan else -1
theorem I1 (n:Net) (hn:n.Fin) (dev vlan:Int):Sy.Spec Tryz.prog 89 [Al n,Aa dev,Aa vlan] [] (Aa (B5 n dev vlan)) []:=Ab Γ hm 100 F89 Tryz.ntmps89 rfl fun F hF=>by
 have q:=Abf n hn n.domains (fun d=>d.dev == dev && d.vlan == vlan) 147 [] [.ref 1 (Aa dev) 0,.ref 1 (Aa vlan) 0] rfl (fun d _=>⟨⟨_,_,F147⟩,Aa2 dev vlan d⟩) hn.domains
 conv=>whnf
 refine A3 4 1 (Aa dev) E E E ?_
 refine A3 5 1 (Aa vlan) E E E ?_
 refine Ag q F146 E E E E E ?_
 refine rg ?_;conv=>whnf
 exact Ac E (.cons .tmp .nil) E E
def Cn (n:Net) (i:Int):Int :=
 if (0≤i∧i<n.ports.length)∧0≤(nth n.ports i).link∧Ae n=true then
  (if (nth n.links (nth n.ports i).link).a=i then (nth n.links (nth n.ports i).link).b else (nth n.links (nth n.ports i).link).a) else -1
theorem Hl {n:Net} (h:Ae n=true) {i:Nat} (hi:i<n.ports.length) (hl:0≤n.ports[i].link) :
  n.ports[i].link.toNat<n.links.length∧((nth n.links n.ports[i].link).a=i∨(nth n.links n.ports[i].link).b=i):=by
 have:=X4 h hi
 simp only[Eh,Aj,Bool.and_eq_true,Bool.or_eq_true,decide_eq_true_eq,beq_iff_eq]at this
 rcases this.2 with h1 | h1
 ·omega
 ·exact⟨by omega,h1.2⟩
theorem S3 (n:Net) (hn:n.Fin) (i:Int):Sy.Spec Tryz.prog 268 [Al n,Aa i] [] (Aa (Cn n i)) []:=Ab Γ hm 100 F268 Tryz.ntmps268 rfl fun F hF=>by
 have hr:=Be n hn
 conv=>whnf
 refine⟨fun h=>?_,fun h=>?_⟩
 ·have h1:i<0:=of_decide_eq_true h
  rw[Cn,if_neg qn]
  (refine rg ?_;(conv=>whnf);refine aT ?_;refine rg ?_;(conv=>whnf);refine aT ?_;refine rg ?_;(conv=>whnf);refine aT ?_;refine rg ?_;conv=>whnf)
  exact Ac E (.cons .tmp .nil) E E
 have h1:0≤i:=by have:=of_decide_eq_false h;omega
 refine rg ?_;conv=>whnf
 refine⟨fun h=>?_,fun h=>?_⟩
 ·have h2:n.ports.length≤i:=of_decide_eq_true h
  rw[Cn,if_neg qn]
  (refine rg ?_;(conv=>whnf);refine aT ?_;refine rg ?_;(conv=>whnf);refine aT ?_;refine rg ?_;conv=>whnf)
  exact Ac E (.cons .tmp .nil) E E
 have h2:i<n.ports.length:=by have:=of_decide_eq_false h;omega
 have hk:i.toNat<n.ports.length:=by omega
 have e1:nth n.ports i=n.ports[i.toNat]:=Ah hk
 have hlk:=fun (hb:Ae n=true)=>Hl hb hk
 rw[Cn,e1]
 obtain ⟨p,hp⟩:∃ p,n.ports[i.toNat]=p:=⟨_,rfl⟩
 rw[hp]at hlk ⊢
 refine rg ?_;conv=>whnf
 refine⟨E,h1,hk,?_⟩
 rw[hp]
 conv=>whnf
 refine⟨fun h=>?_,fun h=>?_⟩
 ·have h3:p.link<0:=of_decide_eq_true h
  rw[if_neg qn]
  (refine rg ?_;(conv=>whnf);refine aT ?_;refine rg ?_;conv=>whnf)
  exact Ac E (.cons .tmp .nil) E E
 have h3:0≤p.link:=by have:=of_decide_eq_false h;omega
 refine rg ?_;conv=>whnf
 refine Ag hr F23 E E E E E ?_
 cases hb:Ae n
 ·rw[if_neg qy]
  (refine rg ?_;(conv=>whnf);refine aT ?_;refine rg ?_;conv=>whnf)
  exact Ac E (.cons .tmp .nil) E E
 rw[if_pos ⟨⟨h1,h2⟩,h3,rfl⟩]
 have hq:=hlk hb h3
 have e2:nth n.links p.link=n.links[p.link.toNat]:=Ah hq.1
 rw[e2]
 obtain ⟨l,hl⟩:∃ l,n.links[p.link.toNat]'hq.1=l:=⟨_,rfl⟩
 rw[hl]
 (refine rg ?_;(conv=>whnf);refine aF ?_;refine rg ?_;conv=>whnf)
 refine⟨E,h1,hk,?_⟩
 rw[hp]
 conv=>whnf
 refine⟨E,h3,hq.1,?_⟩
 rw[hl]
 conv=>whnf
 refine⟨qq,?_⟩
 conv=>whnf
 refine⟨fun h=>?_,fun h=>?_⟩
 ·have h4:l.a=i:=by simpa using h
  rw[if_pos h4]
  refine rg ?_;conv=>whnf
  exact Ac E (.cons .tmp .nil) E E
 ·have h4:¬ l.a=i:=by simpa using h
  rw[if_neg h4]
  refine rg ?_;conv=>whnf
  exact Ac E (.cons .tmp .nil) E E
theorem e_link {n:Net} (h:Ae n=true) {i:Nat} (hi:i<n.links.length):(0≤n.links[i].a∧n.links[i].a.toNat<n.ports.length)∧(0≤n.links[i].b∧n.links[i].b.toNat<n.ports.length):=by
 simp only[Ae,Bool.and_eq_true]at h
 have:=allB_iff.1 h.1.1.1.1.2 i hi
 simp only[Jh,Aj,Bool.and_eq_true,decide_eq_true_eq]at this
 omega
theorem Hs {n:Net} {i:Int} (h:0≤Cn n i):(0≤i∧i.toNat<n.ports.length)∧Ae n=true∧(Cn n i).toNat<n.ports.length:=by
 unfold Cn at h ⊢
 split at h
 ·rename_i hc
  rw[if_pos hc]
  have hk:i.toNat<n.ports.length:=by omega
  have e1:nth n.ports i=n.ports[i.toNat]:=Ah hk
  rw[e1]at hc h ⊢
  have hq:=Hl hc.2.2 hk hc.2.1
  have e2:nth n.links n.ports[i.toNat].link=n.links[n.ports[i.toNat].link.toNat]:=Ah hq.1
  have hl:=e_link hc.2.2 hq.1
  rw[e2]at h ⊢
  refine⟨by omega,hc.2.2,?_⟩
  split
  ·exact hl.2.2
  ·exact hl.1.2
 ·omega
def To (n:Net) (i v:Int):Int:=if v=(nth n.ports i).native then (nth n.ports (Cn n i)).native else if inB (nth n.ports (Cn n i)).tagged v=true then v else 0
def crossT (n:Net) (i v:Int):Int × Int × Bool :=
 if 0≤Cn n i∧Cp (nth n.ports i) v=true∧To n i v≠0 then (Cn n i,To n i v,true) else (0,0,false)
theorem Adt (n:Net) (hn:n.Fin) (i v:Int):Sy.Spec Tryz.prog 204 [Al n,Aa i,Aa v] [] (.tup [Aa (crossT n i v).1,Aa (crossT n i v).2.1,Ad (crossT n i v).2.2]) []:=Ab Γ hm 100 F204 Tryz.ntmps204 rfl fun F hF=>by
 have q:=S3 n hn i
 have hth:=Hs (n:=n) (i:=i)
 have hc:=crossT.eq_1 n i v
 unfold To at hc
 generalize crossT n i v=r at *
 obtain ⟨far,hfar⟩:∃ far,Cn n i=far:=⟨_,rfl⟩
 rw[hfar]at q hth hc
 ((conv=>whnf);repeat((first|refine aF ?_|refine aT ?_);(first|refine rG Γ hm ?_|refine rD Γ hm qq ?_);conv=>whnf))
 refine Ag q F268 E E E E E ?_
 ((first|refine rG Γ hm ?_|refine rD Γ hm qq ?_);(conv=>whnf);repeat((first|refine aF ?_|refine aT ?_);(first|refine rG Γ hm ?_|refine rD Γ hm qq ?_);conv=>whnf))
 refine⟨fun h=>?_,fun h=>?_⟩
 ·have h1:far<0:=of_decide_eq_true h
  rw[if_neg qn]at hc
  subst hc
  ((first|refine rG Γ hm ?_|refine rD Γ hm qq ?_);(conv=>whnf);repeat((first|refine aF ?_|refine aT ?_);(first|refine rG Γ hm ?_|refine rD Γ hm qq ?_);conv=>whnf))
  exact Ac E (.cons .tmp (.cons .tmp (.cons .tmp .nil))) E E
 have h1:0≤far:=by have:=of_decide_eq_false h;omega
 obtain ⟨⟨hi0,hk⟩,hb,hfk⟩:=hth h1
 have e1:nth n.ports i=n.ports[i.toNat]:=Ah hk
 have e2:nth n.ports far=n.ports[far.toNat]:=Ah hfk
 rw[e1,e2]at hc
 have ht1:=hn.tagged _ (List.getElem_mem hk)
 have ht2:=hn.tagged _ (List.getElem_mem hfk)
 obtain ⟨p,hp⟩:∃ p,n.ports[i.toNat]=p:=⟨_,rfl⟩
 obtain ⟨o,ho⟩:∃ o,n.ports[far.toNat]=o:=⟨_,rfl⟩
 rw[hp]at hc ht1
 rw[ho]at hc ht2
 have hms:=V8 p v ht1
 have hcs:=C2 o.tagged v ht2
 refine A3 3 8 (Al n) E E E ?_
 ((first|refine rG Γ hm ?_|refine rD Γ hm qq ?_);(conv=>whnf);repeat((first|refine aF ?_|refine aT ?_);(first|refine rG Γ hm ?_|refine rD Γ hm qq ?_);conv=>whnf))
 refine⟨E,hi0,hk,?_⟩
 rw[hp]
 ((conv=>whnf);repeat((first|refine aF ?_|refine aT ?_);(first|refine rG Γ hm ?_|refine rD Γ hm qq ?_);conv=>whnf))
 refine Ag hms F93 E E E E E ?_
 cases hm2:Cp p v
 ·rw[if_neg (by simp[hm2])]at hc
  subst hc
  ((first|refine rG Γ hm ?_|refine rD Γ hm qq ?_);(conv=>whnf);repeat((first|refine aF ?_|refine aT ?_);(first|refine rG Γ hm ?_|refine rD Γ hm qq ?_);conv=>whnf))
  exact Ac E (.cons .tmp (.cons .tmp (.cons .tmp .nil))) E E
 ((first|refine rG Γ hm ?_|refine rD Γ hm qq ?_);(conv=>whnf);repeat((first|refine aF ?_|refine aT ?_);(first|refine rG Γ hm ?_|refine rD Γ hm qq ?_);conv=>whnf))
 refine⟨E,h1,hfk,?_⟩
 rw[ho]
 ((conv=>whnf);repeat((first|refine aF ?_|refine aT ?_);(first|refine rG Γ hm ?_|refine rD Γ hm qq ?_);conv=>whnf))
 refine⟨E,hi0,hk,?_⟩
 rw[hp]
 ((conv=>whnf);repeat((first|refine aF ?_|refine aT ?_);(first|refine rG Γ hm ?_|refine rD Γ hm qq ?_);conv=>whnf))
 refine⟨fun h=>?_,fun h=>?_⟩
 ·have h2:v=p.native:=by simpa using h
  rw[if_pos h2]at hc
  ((first|refine rG Γ hm ?_|refine rD Γ hm qq ?_);(conv=>whnf);repeat((first|refine aF ?_|refine aT ?_);(first|refine rG Γ hm ?_|refine rD Γ hm qq ?_);conv=>whnf))
  refine⟨fun h=>?_,fun h=>?_⟩
  ·have h3:o.native=0:=by simpa using h
   rw[if_neg (fun hh=>hh.2.2 h3)]at hc
   subst hc
   ((first|refine rG Γ hm ?_|refine rD Γ hm qq ?_);(conv=>whnf);repeat((first|refine aF ?_|refine aT ?_);(first|refine rG Γ hm ?_|refine rD Γ hm qq ?_);conv=>whnf))
   exact Ac E (.cons .tmp (.cons .tmp (.cons .tmp .nil))) E E
  ·have h3:o.native≠0:=by simpa using h
   rw[if_pos ⟨h1,hm2,h3⟩]at hc
   subst hc
   ((first|refine rG Γ hm ?_|refine rD Γ hm qq ?_);(conv=>whnf);repeat((first|refine aF ?_|refine aT ?_);(first|refine rG Γ hm ?_|refine rD Γ hm qq ?_);conv=>whnf))
   exact Ac E (.cons .tmp (.cons .tmp (.cons .tmp .nil))) E E
 have h2:¬ v=p.native:=by simpa using h
 rw[if_neg h2]at hc
 ((first|refine rG Γ hm ?_|refine rD Γ hm qq ?_);(conv=>whnf);repeat((first|refine aF ?_|refine aT ?_);(first|refine rG Γ hm ?_|refine rD Γ hm qq ?_);conv=>whnf))
 refine Ag hcs F25 E E E E E ?_
 cases hin:inB o.tagged v
 ·rw[hin,if_neg qy]at hc
  subst hc
  ((first|refine rG Γ hm ?_|refine rD Γ hm qq ?_);(conv=>whnf);repeat((first|refine aF ?_|refine aT ?_);(first|refine rG Γ hm ?_|refine rD Γ hm qq ?_);conv=>whnf))
  exact Ac E (.cons .tmp (.cons .tmp (.cons .tmp .nil))) E E
 rw[hin,if_pos rfl]at hc
 ((first|refine rG Γ hm ?_|refine rD Γ hm qq ?_);(conv=>whnf);repeat((first|refine aF ?_|refine aT ?_);(first|refine rG Γ hm ?_|refine rD Γ hm qq ?_);conv=>whnf))
 refine⟨fun h=>?_,fun h=>?_⟩
 ·have h3:v=0:=by simpa using h
  rw[if_neg (fun hh=>hh.2.2 h3)]at hc
  subst hc
  ((first|refine rG Γ hm ?_|refine rD Γ hm qq ?_);(conv=>whnf);repeat((first|refine aF ?_|refine aT ?_);(first|refine rG Γ hm ?_|refine rD Γ hm qq ?_);conv=>whnf))
  exact Ac E (.cons .tmp (.cons .tmp (.cons .tmp .nil))) E E
 ·have h3:v≠0:=by simpa using h
  rw[if_pos ⟨h1,hm2,h3⟩]at hc
  subst hc
  ((first|refine rG Γ hm ?_|refine rD Γ hm qq ?_);(conv=>whnf);repeat((first|refine aF ?_|refine aT ?_);(first|refine rG Γ hm ?_|refine rD Γ hm qq ?_);conv=>whnf))
  exact Ac E (.cons .tmp (.cons .tmp (.cons .tmp .nil))) E E
def linkDomT (n:Net) (i v:Int):Int × Bool:=if (crossT n i v).2.2=true then (B5 n (nth n.ports (crossT n i v).1).dev (crossT n i v).2.1,true) else (0,false)
theorem Lq {n:Net} {i v:Int} (h:(crossT n i v).2.2=true):0≤(crossT n i v).1∧(crossT n i v).1.toNat<n.ports.length:=by
 unfold crossT at h ⊢
 split at h
 ·rename_i hc
  rw[if_pos hc]
  exact⟨hc.1,(Hs hc.1).2.2⟩
 ·cases h
theorem Aa6 (n:Net) (hn:n.Fin) (i v:Int):Sy.Spec Tryz.prog 149 [Al n,Aa i,Aa v] [] (.tup [Aa (linkDomT n i v).1,Ad (linkDomT n i v).2]) []:=Ab Γ hm 100 F149 Tryz.ntmps149 rfl fun F hF=>by
 have q:=Adt n hn i v
 have hth:=Lq (n:=n) (i:=i) (v:=v)
 have hc:=linkDomT.eq_1 n i v
 generalize linkDomT n i v=r at *
 generalize crossT n i v=x at *
 obtain ⟨far,to,ok⟩:=x
 ((conv=>whnf);repeat((first|refine aF ?_|refine aT ?_);(first|refine rG Γ hm ?_|refine rD Γ hm qq ?_);conv=>whnf))
 refine Ag q F204 E E E E E ?_
 cases ok
 ·rw[if_neg qy]at hc
  subst hc
  ((first|refine rG Γ hm ?_|refine rD Γ hm qq ?_);(conv=>whnf);repeat((first|refine aF ?_|refine aT ?_);(first|refine rG Γ hm ?_|refine rD Γ hm qq ?_);conv=>whnf))
  exact Ac E (.cons .tmp (.cons .tmp .nil)) E E
 rw[if_pos rfl]at hc
 have hf:=hth rfl
 dsimp only at hf hc
 have e2:nth n.ports far=n.ports[far.toNat]:=Ah hf.2
 rw[e2]at hc
 obtain ⟨o,ho⟩:∃ o,n.ports[far.toNat]'hf.2=o:=⟨_,rfl⟩
 rw[ho]at hc
 have q2:=I1 n hn o.dev to
 subst hc
 refine A3 3 8 (Al n) E E E ?_
 ((first|refine rG Γ hm ?_|refine rD Γ hm qq ?_);(conv=>whnf);repeat((first|refine aF ?_|refine aT ?_);(first|refine rG Γ hm ?_|refine rD Γ hm qq ?_);conv=>whnf))
 refine⟨E,hf.1,hf.2,?_⟩
 rw[ho]
 ((conv=>whnf);repeat((first|refine aF ?_|refine aT ?_);(first|refine rG Γ hm ?_|refine rD Γ hm qq ?_);conv=>whnf))
 refine Aq q2 F89 E E E qq E ?_
 ((first|refine rG Γ hm ?_|refine rD Γ hm qq ?_);(conv=>whnf);repeat((first|refine aF ?_|refine aT ?_);(first|refine rG Γ hm ?_|refine rD Γ hm qq ?_);conv=>whnf))
 refine⟨qq,?_⟩
 ((conv=>whnf);repeat((first|refine aF ?_|refine aT ?_);(first|refine rG Γ hm ?_|refine rD Γ hm qq ?_);conv=>whnf))
 exact Ac E (.cons .tmp (.cons .tmp .nil)) E E
end Go.Sy.YteinjapglfkamaaGreat
