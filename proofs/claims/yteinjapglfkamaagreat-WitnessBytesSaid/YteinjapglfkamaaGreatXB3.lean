/-
  Sy22 Ty N1 Sy25 Sy26 Sy27 Sy28 Sh E1 N2 N3 N4 E2 E3 N5 N6 N7 E4 E5 E6 E7 E8: parts of a proof, joined by program.
-/
import Derived.Test.YteinjapglfkamaaGreatXB2
import Derived.Test.YteinjapglfkamaaGreatProg
import Derived.ChangeKeysEq
import Derived.Below
import Derived.Lib.Join
import Derived.Lib.Strings
import Derived.Lib.Bytealg
namespace Go.Sy
mutual
def frb (d sz:Nat) (x:SV):SV→SV
 | .ptr k o=>bif Nat.beq k d then .ref sz x o else .ptr k o
 | .agg l=>.agg (Aac d sz x l)
 | .tup l=>.tup (Aac d sz x l)
 | .ifc t y=>.ifc t (frb d sz x y)
 | .clo f g l=>.clo f (Aac d sz x g) (Aac d sz x l)
 | y=>y
def Aac (d sz:Nat) (x:SV):List SV→List SV
 | []=>[]
 | y::l=>frb d sz x y::Aac d sz x l
end
mutual
theorem Afk {κ κ':Ka} {w:World} {K:Nat→Prop} {d sz:Nat} {x:SV} (st:Step K κ w κ' w) (hx:∀ o v,Rd κ w (.ptr d o) v→Rd κ' w (.ref sz x o) v):∀ (y:SV) (v:Value),Rd κ w y v→Rd κ' w (frb d sz x y) v
 | .ptr k o,v,h=>by
  unfold frb
  by_cases hk:k=d
  ·subst hk;rw[show Nat.beq k k=true from Nat.beq_refl k];exact hx o v h
  ·rw[show Nat.beq k d=false from by cases hb:Nat.beq k d with | false=>rfl | true=>exact absurd (Nat.eq_of_beq_eq_true hb) hk];exact Rd.step st _ _ h
 | .agg l,v,h=>by
  simp only[Rd]at h
  unfold frb
  simp only[Rd]
  obtain ⟨cs,h1,h2,h3⟩:=h
  exact⟨cs,h1,h2,Mt st hx l cs h3⟩
 | .tup l,v,h=>by
  simp only[Rd]at h
  unfold frb
  simp only[Rd]
  obtain ⟨cs,h1,h3⟩:=h
  exact⟨cs,h1,Mt st hx l cs h3⟩
 | .ifc t y,v,h=>by
  simp only[Rd]at h
  unfold frb
  simp only[Rd]
  obtain ⟨u,h1,h3⟩:=h
  exact⟨u,h1,Afk st hx y u h3⟩
 | .clo f g l,v,h=>by
  simp only[Rd]at h
  unfold frb
  simp only[Rd]
  obtain ⟨fs,cs,h1,h2,h3⟩:=h
  exact⟨fs,cs,h1,Mt st hx g fs h2,Mt st hx l cs h3⟩
 | .top,v,h=>by unfold frb;exact Rd.step st _ _ h
 | .val u,v,h=>by unfold frb;exact Rd.step st _ _ h
 | .sl sz e l,v,h=>by unfold frb;exact Rd.step st _ _ h
 | .ref sz z o,v,h=>by unfold frb;exact Rd.step st _ _ h
 | .rpt k sz i o,v,h=>by unfold frb;exact Rd.step st _ _ h
 | .osl k,v,h=>by unfold frb;exact Rd.step st _ _ h
theorem Mt {κ κ':Ka} {w:World} {K:Nat→Prop} {d sz:Nat} {x:SV} (st:Step K κ w κ' w) (hx:∀ o v,Rd κ w (.ptr d o) v→Rd κ' w (.ref sz x o) v):∀ (l:List SV) (vs:List Value),RdL κ w l vs→RdL κ' w (Aac d sz x l) vs
 | [],vs,h=>by
  unfold Aac
  simpa [RdL] using h
 | y::l,vs,h=>by
  simp only[RdL]at h
  unfold Aac
  simp only[RdL]
  obtain ⟨v,r,h1,h2,h3⟩:=h
  exact⟨v,r,h1,Afk st hx y v h2,Mt st hx l r h3⟩
end
def frbO (d sz:Nat) (x:SV):Ob→Ob
 | .box l=>.box (Aac d sz x l)
 | o=>o
theorem Afz {κ κ':Ka} {w:World} {d sz:Nat} {l:List SV} {x:SV} (h:ObOK κ w d (.box l)) (hl:cellsOf x=l) (hb:x.boxed=true) (_hd:J9 l=true) (hsz:l.length=sz) (ho:∀ b,b<w.heap.size→¬ Own κ b→¬ Own κ' b)
  (hdead:∀ b,(κ d).block? = some b→b<w.heap.size∧¬ Own κ' b) (hxd:x.data=true) (o:Nat) (v:Value) (hv:Rd κ w (.ptr d o) v):Rd κ' w (.ref sz x o) v:=by
 obtain ⟨b,cs,T,fr,e1,e2,e3,e4,e5⟩:=h
 simp only[Rd,e1]at hv
 obtain ⟨h1,h2⟩:=hdead b (by rw[e1];rfl)
 rw[← hl]at e5
 obtain ⟨u,f1,f2⟩:=Rd.of_cells hb e4 e5
 simp only[Rd,RdD]
 refine⟨b,0,u,by rw[Nat.zero_add];exact hv,h2,h1,RdD.keep ⟨Nat.le_refl _,fun _ _ _=>rfl,ho⟩ _ _ (Rd.data _ _ hxd f1),?_,by rw[f2];exact e4,fun j hj=>?_⟩
 ·have:=e5.length
  rw[← hsz,← hl,← this,← f2]
  simp
 ·rw[Nat.zero_add,cell_of_row w b _ cs.toArray T fr e2,← f2]
theorem Be {C:Cx} {k:List KI} {s:SS} (d sz:Nat) (x:SV) {l:List SV} (h:s.h d=.box l) (hl:cellsOf x=l) (hc:(x.boxed && x.data && J9 l && Nat.beq l.length sz)=true)
  (hg:G C k ⟨fun i=>frb d sz x (s.σ i),fun j=>bif Nat.beq j d then .non else frbO d sz x (s.h j)⟩):G C k s:=fun κ a w hs=>by
 simp only[Bool.and_eq_true]at hc
 obtain ⟨⟨⟨hb,hxd⟩,hd⟩,hsz⟩:=hc
 have hsz:=Nat.eq_of_beq_eq_true hsz
 have hob:=hs.obj d
 rw[h]at hob
 have st:=Eu (κ:=κ) (w:=w) (some d)
 have inv:=Hn hs.inv (some d)
 have hx:∀ o v,Rd κ w (.ptr d o) v→Rd (Cu κ d .dead) w (.ref sz x o) v:=fun o v hv =>
  Afz hob hl hb hd hsz st.keeps.out (fun b hb=>⟨hs.inv.bnd d b hb,by
   rintro (⟨q,hq⟩ | hq)
   ·by_cases hqd:q=d
    ·subst hqd;change (Cu κ q .dead q).block? = some b at hq;rw[Aq]at hq;cases hq
    ·change (Cu κ d .dead q).block? = some b at hq
     rw[Bq _ _ hqd]at hq
     exact hqd (hs.inv.inj q d b hq hb)
   ·exact hs.inv.apart d b hb hq⟩) hxd o v hv
 refine hg (Cu κ d .dead) a w ⟨hs.defers,hs.size,inv,hs.ctx.step inv st,fun j=>Afk st hx _ _ (hs.slot j),fun j=>?_⟩
 show ObOK _ w j (bif Nat.beq j d then .non else frbO d sz x (s.h j))
 by_cases hj:j=d
 ·subst hj;rw[show Nat.beq j j=true from Nat.beq_refl j];trivial
 ·rw[show Nat.beq j d=false from by cases hb:Nat.beq j d with | false=>rfl | true=>exact absurd (Nat.eq_of_beq_eq_true hb) hj]
  have hb:=ObOK.step st (fun e=>hj (Option.some.inj e).symm) _ (hs.obj j)
  have h0:=hs.obj j
  show ObOK _ w j (frbO d sz x (s.h j))
  cases hh:s.h j with
  | box m =>
   rw[hh]at h0 hb
   obtain ⟨b,cs,T,fr,e1,e2,e3,e4,e5⟩:=h0
   exact⟨b,cs,T,fr,by show Cu κ d .dead j=_;rw[Bq _ _ hj];exact e1,e2,e3,e4,Mt st hx m cs e5⟩
  | fresh=>rw[hh]at hb;exact hb
  | non=>rw[hh]at hb;exact hb
  | row sz' e' l'=>rw[hh]at hb;exact hb
  | lit sz' svs=>rw[hh]at hb;exact hb
  | glob sz' x' g'=>rw[hh]at hb;exact hb
  | pin b' n' cap' sz' e' l'=>rw[hh]at hb;exact hb
  | dat v' sz' e' l'=>rw[hh]at hb;exact hb
theorem Ao {C:Cx} {k:List KI} {s:SS} (d sz:Nat) {α:Type} (e:α→SV) (h:s.σ d=.val (.slice none 0 0)) (hg:G C k ⟨upd s.σ d (.sl sz e []),s.h⟩):G C k s :=
 G_set d (fun κ w v hv=>by
  rw[h]at hv
  simp only[Rd]at hv
  simp only[Rd,RdD]
  exact .inl ⟨Y,none,0,hv⟩) hg
end Go.Sy
namespace Go.Sy.YteinjapglfkamaaGreat
open Go.Proofs
set_option maxRecDepth 100000
theorem ty1:A8 Tryz.prog 1=some ⟨.func,1,[.nilFunc]⟩:=by kernel_rfl
theorem ty2:A8 Tryz.prog 2=some ⟨.int .i64,1,[.int .i64 0]⟩:=by kernel_rfl
theorem ty3:A8 Tryz.prog 3=some ⟨.int .i64,1,[.int .i64 0]⟩:=by kernel_rfl
theorem ty4:A8 Tryz.prog 4=some ⟨.bool,1,[.bool false]⟩:=by kernel_rfl
theorem ty5:A8 Tryz.prog 5=some ⟨.int .u8,1,[.int .u8 0]⟩:=by kernel_rfl
theorem ty9:A8 Tryz.prog 9=some ⟨.string,1,[.string .empty]⟩:=by kernel_rfl
theorem ty20:A8 Tryz.prog 20=some ⟨.iface,1,[.nilIface]⟩:=by kernel_rfl
theorem ty22:A8 Tryz.prog 22=some ⟨.slice 77 5 48 [.int .i64 0,.int .i64 0,.string .empty,.int .u64 0,.int .u32 0],1,[.slice none 0 0]⟩:=by kernel_rfl
theorem ty23:A8 Tryz.prog 23=some ⟨.slice 67 7 80 [.int .i64 0,.int .i64 0,.int .i64 0,.int .i64 0,.int .i64 0,.string .empty,.slice none 0 0],1,[.slice none 0 0]⟩:=by kernel_rfl
theorem ty24:A8 Tryz.prog 24=some ⟨.slice 167 3 24 [.int .i64 0,.int .i64 0,.int .i64 0],1,[.slice none 0 0]⟩:=by kernel_rfl
theorem ty25:A8 Tryz.prog 25=some ⟨.slice 69 6 64 [.int .i64 0,.int .i64 0,.int .i64 0,.int .i64 0,.int .i64 0,.slice none 0 0],1,[.slice none 0 0]⟩:=by kernel_rfl
theorem ty26:A8 Tryz.prog 26=some ⟨.slice 171 4 32 [.int .i64 0,.int .i64 0,.int .i64 0,.int .u64 0],1,[.slice none 0 0]⟩:=by kernel_rfl
theorem ty27:A8 Tryz.prog 27=some ⟨.slice 72 4 48 [.int .i64 0,.int .i64 0,.int .i64 0,.slice none 0 0],1,[.slice none 0 0]⟩:=by kernel_rfl
theorem ty28:A8 Tryz.prog 28=some ⟨.slice 74 5 80 [.int .i64 0,.int .i64 0,.string .empty,.slice none 0 0,.slice none 0 0],1,[.slice none 0 0]⟩:=by kernel_rfl
theorem ty29:A8 Tryz.prog 29=some ⟨.slice 119 5 40 [.int .i64 0,.int .i64 0,.int .i64 0,.int .u32 0,.int .i64 0],1,[.slice none 0 0]⟩:=by kernel_rfl
theorem ty31:A8 Tryz.prog 31=some ⟨.struct [(0,1),(1,1),(2,1),(3,1),(4,1),(5,1),(6,1),(7,1)],8,[.slice none 0 0,.slice none 0 0,.slice none 0 0,.slice none 0 0,.slice none 0 0,.slice none 0 0,.slice none 0 0,.slice none 0 0]⟩:=by kernel_rfl
theorem ty34:A8 Tryz.prog 34=some ⟨.slice 93 4 32 [.int .i64 0,.int .i64 0,.int .i64 0,.int .u32 0],1,[.slice none 0 0]⟩:=by kernel_rfl
theorem ty37:A8 Tryz.prog 37=some ⟨.slice 102 4 32 [.int .i64 0,.int .i64 0,.int .i64 0,.int .u32 0],1,[.slice none 0 0]⟩:=by kernel_rfl
theorem ty43:A8 Tryz.prog 43=some ⟨.slice 5 1 1 [.int .u8 0],1,[.slice none 0 0]⟩:=by kernel_rfl
theorem ty44:A8 Tryz.prog 44=some ⟨.int .i64,1,[.int .i64 0]⟩:=by kernel_rfl
theorem ty50:A8 Tryz.prog 50=some ⟨.slice 80 6 80 [.int .i64 0,.int .i64 0,.int .i64 0,.int .i64 0,.slice none 0 0,.slice none 0 0],1,[.slice none 0 0]⟩:=by kernel_rfl
theorem ty56:A8 Tryz.prog 56=some ⟨.slice 3 1 8 [.int .i64 0],1,[.slice none 0 0]⟩:=by kernel_rfl
theorem ty57:A8 Tryz.prog 57=some ⟨.int .u64,1,[.int .u64 0]⟩:=by kernel_rfl
theorem ty67:A8 Tryz.prog 67=some ⟨.struct [(0,1),(1,1),(2,1),(3,1),(4,1),(5,1),(6,1)],7,[.int .i64 0,.int .i64 0,.int .i64 0,.int .i64 0,.int .i64 0,.string .empty,.slice none 0 0]⟩:=by kernel_rfl
theorem ty69:A8 Tryz.prog 69=some ⟨.struct [(0,1),(1,1),(2,1),(3,1),(4,1),(5,1)],6,[.int .i64 0,.int .i64 0,.int .i64 0,.int .i64 0,.int .i64 0,.slice none 0 0]⟩:=by kernel_rfl
theorem ty70:A8 Tryz.prog 70=some ⟨.slice 75 1 4 [.int .u32 0],1,[.slice none 0 0]⟩:=by kernel_rfl
theorem ty72:A8 Tryz.prog 72=some ⟨.struct [(0,1),(1,1),(2,1),(3,1)],4,[.int .i64 0,.int .i64 0,.int .i64 0,.slice none 0 0]⟩:=by kernel_rfl
theorem ty74:A8 Tryz.prog 74=some ⟨.struct [(0,1),(1,1),(2,1),(3,1),(4,1)],5,[.int .i64 0,.int .i64 0,.string .empty,.slice none 0 0,.slice none 0 0]⟩:=by kernel_rfl
theorem ty75:A8 Tryz.prog 75=some ⟨.int .u32,1,[.int .u32 0]⟩:=by kernel_rfl
theorem ty77:A8 Tryz.prog 77=some ⟨.struct [(0,1),(1,1),(2,1),(3,1),(4,1)],5,[.int .i64 0,.int .i64 0,.string .empty,.int .u64 0,.int .u32 0]⟩:=by kernel_rfl
theorem ty78:A8 Tryz.prog 78=some ⟨.slice 4 1 1 [.bool false],1,[.slice none 0 0]⟩:=by kernel_rfl
theorem ty80:A8 Tryz.prog 80=some ⟨.struct [(0,1),(1,1),(2,1),(3,1),(4,1),(5,1)],6,[.int .i64 0,.int .i64 0,.int .i64 0,.int .i64 0,.slice none 0 0,.slice none 0 0]⟩:=by kernel_rfl
theorem ty82:A8 Tryz.prog 82=some ⟨.ptr,1,[.pointer none]⟩:=by kernel_rfl
theorem ty83:A8 Tryz.prog 83=some ⟨.array 78 2 1,2,[.slice none 0 0,.slice none 0 0]⟩:=by kernel_rfl
theorem ty84:A8 Tryz.prog 84=some ⟨.slice 95 7 56 [.int .i64 0,.int .i64 0,.int .i64 0,.int .i64 0,.int .i64 0,.int .u32 0,.int .i64 0],1,[.slice none 0 0]⟩:=by kernel_rfl
theorem ty86:A8 Tryz.prog 86=some ⟨.struct [(0,8),(8,2),(10,1)],11,[.slice none 0 0,.slice none 0 0,.slice none 0 0,.slice none 0 0,.slice none 0 0,.slice none 0 0,.slice none 0 0,.slice none 0 0,.slice none 0 0,.slice none 0 0,.slice none 0 0]⟩:=by kernel_rfl
theorem ty91:A8 Tryz.prog 91=some ⟨.struct [(0,1),(1,1)],2,[.int .i64 0,.int .i64 0]⟩:=by kernel_rfl
theorem ty93:A8 Tryz.prog 93=some ⟨.struct [(0,1),(1,1),(2,1),(3,1)],4,[.int .i64 0,.int .i64 0,.int .i64 0,.int .u32 0]⟩:=by kernel_rfl
theorem ty95:A8 Tryz.prog 95=some ⟨.struct [(0,2),(2,4),(6,1)],7,[.int .i64 0,.int .i64 0,.int .i64 0,.int .i64 0,.int .i64 0,.int .u32 0,.int .i64 0]⟩:=by kernel_rfl
theorem ty102:A8 Tryz.prog 102=some ⟨.struct [(0,1),(1,1),(2,1),(3,1)],4,[.int .i64 0,.int .i64 0,.int .i64 0,.int .u32 0]⟩:=by kernel_rfl
theorem ty110:A8 Tryz.prog 110=some ⟨.struct [(0,1),(1,1),(2,1),(3,1)],4,[.int .u64 0,.int .u64 0,.int .i64 0,.slice none 0 0]⟩:=by kernel_rfl
theorem ty112:A8 Tryz.prog 112=some ⟨.func,1,[.nilFunc]⟩:=by kernel_rfl
theorem ty115:A8 Tryz.prog 115=some ⟨.struct [(0,1),(1,1),(2,1),(3,1),(4,1),(5,1),(6,1)],7,[.int .i64 0,.int .i64 0,.int .i64 0,.int .i64 0,.int .u32 0,.int .u32 0,.slice none 0 0]⟩:=by kernel_rfl
theorem ty117:A8 Tryz.prog 117=some ⟨.struct [(0,1),(1,1)],2,[.int .u32 0,.int .i64 0]⟩:=by kernel_rfl
theorem ty119:A8 Tryz.prog 119=some ⟨.struct [(0,1),(1,1),(2,1),(3,2)],5,[.int .i64 0,.int .i64 0,.int .i64 0,.int .u32 0,.int .i64 0]⟩:=by kernel_rfl
theorem ty122:A8 Tryz.prog 122=some ⟨.func,1,[.nilFunc]⟩:=by kernel_rfl
theorem ty125:A8 Tryz.prog 125=some ⟨.ptr,1,[.pointer none]⟩:=by kernel_rfl
theorem ty128:A8 Tryz.prog 128=some ⟨.slice 263 3 40 [.int .i64 0,.int .i64 0,.slice none 0 0],1,[.slice none 0 0]⟩:=by kernel_rfl
theorem ty131:A8 Tryz.prog 131=some ⟨.func,1,[.nilFunc]⟩:=by kernel_rfl
theorem ty132:A8 Tryz.prog 132=some ⟨.slice 229 7 72 [.int .i64 0,.int .i64 0,.int .i64 0,.int .u64 0,.int .u64 0,.int .i64 0,.slice none 0 0],1,[.slice none 0 0]⟩:=by kernel_rfl
theorem ty160:A8 Tryz.prog 160=some ⟨.struct [(0,8)],8,[.slice none 0 0,.slice none 0 0,.slice none 0 0,.slice none 0 0,.slice none 0 0,.slice none 0 0,.slice none 0 0,.slice none 0 0]⟩:=by kernel_rfl
theorem ty162:A8 Tryz.prog 162=some ⟨.func,1,[.nilFunc]⟩:=by kernel_rfl
theorem ty164:A8 Tryz.prog 164=some ⟨.func,1,[.nilFunc]⟩:=by kernel_rfl
theorem ty167:A8 Tryz.prog 167=some ⟨.struct [(0,1),(1,1),(2,1)],3,[.int .i64 0,.int .i64 0,.int .i64 0]⟩:=by kernel_rfl
theorem ty168:A8 Tryz.prog 168=some ⟨.func,1,[.nilFunc]⟩:=by kernel_rfl
theorem ty171:A8 Tryz.prog 171=some ⟨.struct [(0,1),(1,1),(2,1),(3,1)],4,[.int .i64 0,.int .i64 0,.int .i64 0,.int .u64 0]⟩:=by kernel_rfl
theorem ty172:A8 Tryz.prog 172=some ⟨.func,1,[.nilFunc]⟩:=by kernel_rfl
theorem ty175:A8 Tryz.prog 175=some ⟨.func,1,[.nilFunc]⟩:=by kernel_rfl
theorem ty177:A8 Tryz.prog 177=some ⟨.func,1,[.nilFunc]⟩:=by kernel_rfl
theorem ty179:A8 Tryz.prog 179=some ⟨.func,1,[.nilFunc]⟩:=by kernel_rfl
theorem ty186:A8 Tryz.prog 186=some ⟨.slice 188 3 24 [.int .i64 0,.int .i64 0,.int .u32 0],1,[.slice none 0 0]⟩:=by kernel_rfl
theorem ty188:A8 Tryz.prog 188=some ⟨.struct [(0,1),(1,1),(2,1)],3,[.int .i64 0,.int .i64 0,.int .u32 0]⟩:=by kernel_rfl
theorem ty195:A8 Tryz.prog 195=some ⟨.int .u64,1,[.int .u64 0]⟩:=by kernel_rfl
theorem ty204:A8 Tryz.prog 204=some ⟨.ptr,1,[.pointer none]⟩:=by kernel_rfl
theorem ty209:A8 Tryz.prog 209=some ⟨.struct [(0,0),(0,1)],1,[.int .u32 0]⟩:=by kernel_rfl
theorem ty213:A8 Tryz.prog 213=some ⟨.struct [(0,0),(0,2)],2,[.int .i32 0,.int .u32 0]⟩:=by kernel_rfl
theorem ty215:A8 Tryz.prog 215=some ⟨.struct [(0,0),(0,1),(1,2)],3,[.int .u32 0,.int .i32 0,.int .u32 0]⟩:=by kernel_rfl
theorem ty217:A8 Tryz.prog 217=some ⟨.struct [(0,1),(1,3),(4,1)],5,[.slice none 0 0,.int .u32 0,.int .i32 0,.int .u32 0,.slice none 0 0]⟩:=by kernel_rfl
theorem ty218:A8 Tryz.prog 218=some ⟨.slice 251 1 24 [.slice none 0 0],1,[.slice none 0 0]⟩:=by kernel_rfl
theorem ty219:A8 Tryz.prog 219=some ⟨.slice 132 1 24 [.slice none 0 0],1,[.slice none 0 0]⟩:=by kernel_rfl
theorem ty222:A8 Tryz.prog 222=some ⟨.struct [(0,0),(0,0),(0,1)],1,[.int .i64 0]⟩:=by kernel_rfl
theorem ty223:A8 Tryz.prog 223=some ⟨.array 222 64 1,64,[.int .i64 0,.int .i64 0,.int .i64 0,.int .i64 0,.int .i64 0,.int .i64 0,.int .i64 0,.int .i64 0,.int .i64 0,.int .i64 0,.int .i64 0,.int .i64 0,.int .i64 0,.int .i64 0,.int .i64 0,.int .i64 0,.int .i64 0,.int .i64 0,.int .i64 0,.int .i64 0,.int .i64 0,.int .i64 0,.int .i64 0,.int .i64 0,.int .i64 0,.int .i64 0,.int .i64 0,.int .i64 0,.int .i64 0,.int .i64 0,.int .i64 0,.int .i64 0,.int .i64 0,.int .i64 0,.int .i64 0,.int .i64 0,.int .i64 0,.int .i64 0,.int .i64 0,.int .i64 0,.int .i64 0,.int .i64 0,.int .i64 0,.int .i64 0,.int .i64 0,.int .i64 0,.int .i64 0,.int .i64 0,.int .i64 0,.int .i64 0,.int .i64 0,.int .i64 0,.int .i64 0,.int .i64 0,.int .i64 0,.int .i64 0,.int .i64 0,.int .i64 0,.int .i64 0,.int .i64 0,.int .i64 0,.int .i64 0,.int .i64 0,.int .i64 0]⟩:=by kernel_rfl
theorem ty225:A8 Tryz.prog 225=some ⟨.struct [(0,8),(8,1),(9,1),(10,1),(11,1),(12,1),(13,64)],77,[.slice none 0 0,.slice none 0 0,.slice none 0 0,.slice none 0 0,.slice none 0 0,.slice none 0 0,.slice none 0 0,.slice none 0 0,.pointer none,.slice none 0 0,.slice none 0 0,.int .i64 0,.int .i64 0,.int .i64 0,.int .i64 0,.int .i64 0,.int .i64 0,.int .i64 0,.int .i64 0,.int .i64 0,.int .i64 0,.int .i64 0,.int .i64 0,.int .i64 0,.int .i64 0,.int .i64 0,.int .i64 0,.int .i64 0,.int .i64 0,.int .i64 0,.int .i64 0,.int .i64 0,.int .i64 0,.int .i64 0,.int .i64 0,.int .i64 0,.int .i64 0,.int .i64 0,.int .i64 0,.int .i64 0,.int .i64 0,.int .i64 0,.int .i64 0,.int .i64 0,.int .i64 0,.int .i64 0,.int .i64 0,.int .i64 0,.int .i64 0,.int .i64 0,.int .i64 0,.int .i64 0,.int .i64 0,.int .i64 0,.int .i64 0,.int .i64 0,.int .i64 0,.int .i64 0,.int .i64 0,.int .i64 0,.int .i64 0,.int .i64 0,.int .i64 0,.int .i64 0,.int .i64 0,.int .i64 0,.int .i64 0,.int .i64 0,.int .i64 0,.int .i64 0,.int .i64 0,.int .i64 0,.int .i64 0,.int .i64 0,.int .i64 0,.int .i64 0,.int .i64 0]⟩:=by kernel_rfl
theorem ty229:A8 Tryz.prog 229=some ⟨.struct [(0,1),(1,1),(2,1),(3,4)],7,[.int .i64 0,.int .i64 0,.int .i64 0,.int .u64 0,.int .u64 0,.int .i64 0,.slice none 0 0]⟩:=by kernel_rfl
theorem ty233:A8 Tryz.prog 233=some ⟨.func,1,[.nilFunc]⟩:=by kernel_rfl
theorem ty251:A8 Tryz.prog 251=some ⟨.slice 327 3 24 [.int .u64 0,.int .i64 0,.int .i64 0],1,[.slice none 0 0]⟩:=by kernel_rfl
theorem ty253:A8 Tryz.prog 253=some ⟨.func,1,[.nilFunc]⟩:=by kernel_rfl
theorem ty263:A8 Tryz.prog 263=some ⟨.struct [(0,1),(1,1),(2,1)],3,[.int .i64 0,.int .i64 0,.slice none 0 0]⟩:=by kernel_rfl
theorem ty265:A8 Tryz.prog 265=some ⟨.func,1,[.nilFunc]⟩:=by kernel_rfl
theorem ty273:A8 Tryz.prog 273=some ⟨.func,1,[.nilFunc]⟩:=by kernel_rfl
theorem ty280:A8 Tryz.prog 280=some ⟨.ptr,1,[.pointer none]⟩:=by kernel_rfl
theorem ty298:A8 Tryz.prog 298=some ⟨.slice 304 9 104 [.int .i64 0,.int .i64 0,.int .i64 0,.slice none 0 0,.int .u64 0,.int .u64 0,.int .i64 0,.slice none 0 0,.int .i64 0],1,[.slice none 0 0]⟩:=by kernel_rfl
theorem ty304:A8 Tryz.prog 304=some ⟨.struct [(0,1),(1,1),(2,1),(3,1),(4,4),(8,1)],9,[.int .i64 0,.int .i64 0,.int .i64 0,.slice none 0 0,.int .u64 0,.int .u64 0,.int .i64 0,.slice none 0 0,.int .i64 0]⟩:=by kernel_rfl
theorem ty327:A8 Tryz.prog 327=some ⟨.struct [(0,1),(1,1),(2,1)],3,[.int .u64 0,.int .i64 0,.int .i64 0]⟩:=by kernel_rfl
theorem ty334:A8 Tryz.prog 334=some ⟨.func,1,[.nilFunc]⟩:=by kernel_rfl
theorem ty345:A8 Tryz.prog 345=some ⟨.struct [(0,8),(8,1),(9,1),(10,1),(11,1)],12,[.slice none 0 0,.slice none 0 0,.slice none 0 0,.slice none 0 0,.slice none 0 0,.slice none 0 0,.slice none 0 0,.slice none 0 0,.slice none 0 0,.slice none 0 0,.slice none 0 0,.slice none 0 0]⟩:=by kernel_rfl
theorem ty363:A8 Tryz.prog 363=some ⟨.func,1,[.nilFunc]⟩:=by kernel_rfl
theorem ty393:A8 Tryz.prog 393=some ⟨.func,1,[.nilFunc]⟩:=by kernel_rfl
theorem ty397:A8 Tryz.prog 397=some ⟨.ptr,1,[.pointer none]⟩:=by kernel_rfl
theorem ty399:A8 Tryz.prog 399=some ⟨.slice 402 3 24 [.int .i64 0,.int .i64 0,.int .i64 0],1,[.slice none 0 0]⟩:=by kernel_rfl
theorem ty402:A8 Tryz.prog 402=some ⟨.struct [(0,1),(1,1),(2,1)],3,[.int .i64 0,.int .i64 0,.int .i64 0]⟩:=by kernel_rfl
theorem ty405:A8 Tryz.prog 405=some ⟨.slice 406 5 40 [.int .i64 0,.int .i64 0,.int .i64 0,.int .i64 0,.int .i64 0],1,[.slice none 0 0]⟩:=by kernel_rfl
theorem ty406:A8 Tryz.prog 406=some ⟨.struct [(0,1),(1,1),(2,1),(3,1),(4,1)],5,[.int .i64 0,.int .i64 0,.int .i64 0,.int .i64 0,.int .i64 0]⟩:=by kernel_rfl
theorem ty410:A8 Tryz.prog 410=some ⟨.ptr,1,[.pointer none]⟩:=by kernel_rfl
theorem ty415:A8 Tryz.prog 415=some ⟨.struct [(0,8),(8,1),(9,1),(10,1),(11,1)],12,[.slice none 0 0,.slice none 0 0,.slice none 0 0,.slice none 0 0,.slice none 0 0,.slice none 0 0,.slice none 0 0,.slice none 0 0,.slice none 0 0,.int .i64 0,.int .i64 0,.slice none 0 0]⟩:=by kernel_rfl
theorem ty423:A8 Tryz.prog 423=some ⟨.struct [(0,8)],8,[.slice none 0 0,.slice none 0 0,.slice none 0 0,.slice none 0 0,.slice none 0 0,.slice none 0 0,.slice none 0 0,.slice none 0 0]⟩:=by kernel_rfl
theorem ty427:A8 Tryz.prog 427=some ⟨.ptr,1,[.pointer none]⟩:=by kernel_rfl
theorem ty428:A8 Tryz.prog 428=some ⟨.ptr,1,[.pointer none]⟩:=by kernel_rfl
theorem ty430:A8 Tryz.prog 430=some ⟨.ptr,1,[.pointer none]⟩:=by kernel_rfl
theorem ty455:A8 Tryz.prog 455=some ⟨.iface,1,[.nilIface]⟩:=by kernel_rfl
theorem ty470:A8 Tryz.prog 470=some ⟨.ptr,1,[.pointer none]⟩:=by kernel_rfl
theorem ty472:A8 Tryz.prog 472=some ⟨.ptr,1,[.pointer none]⟩:=by kernel_rfl
theorem ty474:A8 Tryz.prog 474=some ⟨.ptr,1,[.pointer none]⟩:=by kernel_rfl
theorem ty476:A8 Tryz.prog 476=some ⟨.struct [(0,7),(7,1)],8,[.int .i64 0,.int .i64 0,.int .i64 0,.int .i64 0,.int .u32 0,.int .u32 0,.slice none 0 0,.int .i64 0]⟩:=by kernel_rfl
theorem ty478:A8 Tryz.prog 478=some ⟨.struct [(0,8),(8,1)],9,[.int .i64 0,.int .i64 0,.int .i64 0,.int .i64 0,.int .u32 0,.int .u32 0,.slice none 0 0,.int .i64 0,.int .i64 0]⟩:=by kernel_rfl
theorem ty481:A8 Tryz.prog 481=some ⟨.func,1,[.nilFunc]⟩:=by kernel_rfl
theorem ty491:A8 Tryz.prog 491=some ⟨.array 3 4 1,4,[.int .i64 0,.int .i64 0,.int .i64 0,.int .i64 0]⟩:=by kernel_rfl
theorem ty502:A8 Tryz.prog 502=some ⟨.func,1,[.nilFunc]⟩:=by kernel_rfl
theorem tq77:I6 Tryz.prog 77=some [.int .i64,.int .i64,.string,.int .u64,.int .u32]:=by kernel_rfl
theorem tq91:I6 Tryz.prog 91=some [.int .i64,.int .i64]:=by kernel_rfl
theorem tq93:I6 Tryz.prog 93=some [.int .i64,.int .i64,.int .i64,.int .u32]:=by kernel_rfl
theorem tq102:I6 Tryz.prog 102=some [.int .i64,.int .i64,.int .i64,.int .u32]:=by kernel_rfl
theorem tq117:I6 Tryz.prog 117=some [.int .u32,.int .i64]:=by kernel_rfl
theorem tq167:I6 Tryz.prog 167=some [.int .i64,.int .i64,.int .i64]:=by kernel_rfl
theorem tq171:I6 Tryz.prog 171=some [.int .i64,.int .i64,.int .i64,.int .u64]:=by kernel_rfl
theorem tq188:I6 Tryz.prog 188=some [.int .i64,.int .i64,.int .u32]:=by kernel_rfl
theorem tq327:I6 Tryz.prog 327=some [.int .u64,.int .i64,.int .i64]:=by kernel_rfl
theorem tq402:I6 Tryz.prog 402=some [.int .i64,.int .i64,.int .i64]:=by kernel_rfl
theorem tq406:I6 Tryz.prog 406=some [.int .i64,.int .i64,.int .i64,.int .i64,.int .i64]:=by kernel_rfl
def tab:Tr TI:=(.nd 168 (⟨.func,1,[.nilFunc]⟩) (.nd 74 (⟨.struct [(0,1),(1,1),(2,1),(3,1),(4,1)],5,[.int .i64 0,.int .i64 0,.string .empty,.slice none 0 0,.slice none 0 0]⟩) (.nd 28 (⟨.slice 74 5 80 [.int .i64 0,.int .i64 0,.string .empty,.slice none 0 0,.slice none 0 0],1,[.slice none 0 0]⟩) (.nd 20 (⟨.iface,1,[.nilIface]⟩) (.nd 4 (⟨.bool,1,[.bool false]⟩) (.nd 2 (⟨.int .i64,1,[.int .i64 0]⟩) (.nd 1 (⟨.func,1,[.nilFunc]⟩) .lf .lf) (.nd 3 (⟨.int .i64,1,[.int .i64 0]⟩) .lf .lf)) (.nd 9 (⟨.string,1,[.string .empty]⟩) (.nd 5 (⟨.int .u8,1,[.int .u8 0]⟩) .lf .lf) .lf)) (.nd 25 (⟨.slice 69 6 64 [.int .i64 0,.int .i64 0,.int .i64 0,.int .i64 0,.int .i64 0,.slice none 0 0],1,[.slice none 0 0]⟩) (.nd 23 (⟨.slice 67 7 80 [.int .i64 0,.int .i64 0,.int .i64 0,.int .i64 0,.int .i64 0,.string .empty,.slice none 0 0],1,[.slice none 0 0]⟩) (.nd 22 (⟨.slice 77 5 48 [.int .i64 0,.int .i64 0,.string .empty,.int .u64 0,.int .u32 0],1,[.slice none 0 0]⟩) .lf .lf) (.nd 24 (⟨.slice 167 3 24 [.int .i64 0,.int .i64 0,.int .i64 0],1,[.slice none 0 0]⟩) .lf .lf)) (.nd 27 (⟨.slice 72 4 48 [.int .i64 0,.int .i64 0,.int .i64 0,.slice none 0 0],1,[.slice none 0 0]⟩) (.nd 26 (⟨.slice 171 4 32 [.int .i64 0,.int .i64 0,.int .i64 0,.int .u64 0],1,[.slice none 0 0]⟩) .lf .lf) .lf))) (.nd 50 (⟨.slice 80 6 80 [.int .i64 0,.int .i64 0,.int .i64 0,.int .i64 0,.slice none 0 0,.slice none 0 0],1,[.slice none 0 0]⟩) (.nd 37 (⟨.slice 102 4 32 [.int .i64 0,.int .i64 0,.int .i64 0,.int .u32 0],1,[.slice none 0 0]⟩) (.nd 31 (⟨.struct [(0,1),(1,1),(2,1),(3,1),(4,1),(5,1),(6,1),(7,1)],8,[.slice none 0 0,.slice none 0 0,.slice none 0 0,.slice none 0 0,.slice none 0 0,.slice none 0 0,.slice none 0 0,.slice none 0 0]⟩) (.nd 29 (⟨.slice 119 5 40 [.int .i64 0,.int .i64 0,.int .i64 0,.int .u32 0,.int .i64 0],1,[.slice none 0 0]⟩) .lf .lf) (.nd 34 (⟨.slice 93 4 32 [.int .i64 0,.int .i64 0,.int .i64 0,.int .u32 0],1,[.slice none 0 0]⟩) .lf .lf)) (.nd 44 (⟨.int .i64,1,[.int .i64 0]⟩) (.nd 43 (⟨.slice 5 1 1 [.int .u8 0],1,[.slice none 0 0]⟩) .lf .lf) .lf)) (.nd 69 (⟨.struct [(0,1),(1,1),(2,1),(3,1),(4,1),(5,1)],6,[.int .i64 0,.int .i64 0,.int .i64 0,.int .i64 0,.int .i64 0,.slice none 0 0]⟩) (.nd 57 (⟨.int .u64,1,[.int .u64 0]⟩) (.nd 56 (⟨.slice 3 1 8 [.int .i64 0],1,[.slice none 0 0]⟩) .lf .lf) (.nd 67 (⟨.struct [(0,1),(1,1),(2,1),(3,1),(4,1),(5,1),(6,1)],7,[.int .i64 0,.int .i64 0,.int .i64 0,.int .i64 0,.int .i64 0,.string .empty,.slice none 0 0]⟩) .lf .lf)) (.nd 72 (⟨.struct [(0,1),(1,1),(2,1),(3,1)],4,[.int .i64 0,.int .i64 0,.int .i64 0,.slice none 0 0]⟩) (.nd 70 (⟨.slice 75 1 4 [.int .u32 0],1,[.slice none 0 0]⟩) .lf .lf) .lf)))) (.nd 112 (⟨.func,1,[.nilFunc]⟩) (.nd 84 (⟨.slice 95 7 56 [.int .i64 0,.int .i64 0,.int .i64 0,.int .i64 0,.int .i64 0,.int .u32 0,.int .i64 0],1,[.slice none 0 0]⟩) (.nd 80 (⟨.struct [(0,1),(1,1),(2,1),(3,1),(4,1),(5,1)],6,[.int .i64 0,.int .i64 0,.int .i64 0,.int .i64 0,.slice none 0 0,.slice none 0 0]⟩) (.nd 77 (⟨.struct [(0,1),(1,1),(2,1),(3,1),(4,1)],5,[.int .i64 0,.int .i64 0,.string .empty,.int .u64 0,.int .u32 0]⟩) (.nd 75 (⟨.int .u32,1,[.int .u32 0]⟩) .lf .lf) (.nd 78 (⟨.slice 4 1 1 [.bool false],1,[.slice none 0 0]⟩) .lf .lf)) (.nd 83 (⟨.array 78 2 1,2,[.slice none 0 0,.slice none 0 0]⟩) (.nd 82 (⟨.ptr,1,[.pointer none]⟩) .lf .lf) .lf)) (.nd 95 (⟨.struct [(0,2),(2,4),(6,1)],7,[.int .i64 0,.int .i64 0,.int .i64 0,.int .i64 0,.int .i64 0,.int .u32 0,.int .i64 0]⟩) (.nd 91 (⟨.struct [(0,1),(1,1)],2,[.int .i64 0,.int .i64 0]⟩) (.nd 86 (⟨.struct [(0,8),(8,2),(10,1)],11,[.slice none 0 0,.slice none 0 0,.slice none 0 0,.slice none 0 0,.slice none 0 0,.slice none 0 0,.slice none 0 0,.slice none 0 0,.slice none 0 0,.slice none 0 0,.slice none 0 0]⟩) .lf .lf) (.nd 93 (⟨.struct [(0,1),(1,1),(2,1),(3,1)],4,[.int .i64 0,.int .i64 0,.int .i64 0,.int .u32 0]⟩) .lf .lf)) (.nd 110 (⟨.struct [(0,1),(1,1),(2,1),(3,1)],4,[.int .u64 0,.int .u64 0,.int .i64 0,.slice none 0 0]⟩) (.nd 102 (⟨.struct [(0,1),(1,1),(2,1),(3,1)],4,[.int .i64 0,.int .i64 0,.int .i64 0,.int .u32 0]⟩) .lf .lf) .lf))) (.nd 131 (⟨.func,1,[.nilFunc]⟩) (.nd 122 (⟨.func,1,[.nilFunc]⟩) (.nd 117 (⟨.struct [(0,1),(1,1)],2,[.int .u32 0,.int .i64 0]⟩) (.nd 115 (⟨.struct [(0,1),(1,1),(2,1),(3,1),(4,1),(5,1),(6,1)],7,[.int .i64 0,.int .i64 0,.int .i64 0,.int .i64 0,.int .u32 0,.int .u32 0,.slice none 0 0]⟩) .lf .lf) (.nd 119 (⟨.struct [(0,1),(1,1),(2,1),(3,2)],5,[.int .i64 0,.int .i64 0,.int .i64 0,.int .u32 0,.int .i64 0]⟩) .lf .lf)) (.nd 128 (⟨.slice 263 3 40 [.int .i64 0,.int .i64 0,.slice none 0 0],1,[.slice none 0 0]⟩) (.nd 125 (⟨.ptr,1,[.pointer none]⟩) .lf .lf) .lf)) (.nd 162 (⟨.func,1,[.nilFunc]⟩) (.nd 160 (⟨.struct [(0,8)],8,[.slice none 0 0,.slice none 0 0,.slice none 0 0,.slice none 0 0,.slice none 0 0,.slice none 0 0,.slice none 0 0,.slice none 0 0]⟩) (.nd 132 (⟨.slice 229 7 72 [.int .i64 0,.int .i64 0,.int .i64 0,.int .u64 0,.int .u64 0,.int .i64 0,.slice none 0 0],1,[.slice none 0 0]⟩) .lf .lf) .lf) (.nd 167 (⟨.struct [(0,1),(1,1),(2,1)],3,[.int .i64 0,.int .i64 0,.int .i64 0]⟩) (.nd 164 (⟨.func,1,[.nilFunc]⟩) .lf .lf) .lf))))) (.nd 298 (⟨.slice 304 9 104 [.int .i64 0,.int .i64 0,.int .i64 0,.slice none 0 0,.int .u64 0,.int .u64 0,.int .i64 0,.slice none 0 0,.int .i64 0],1,[.slice none 0 0]⟩) (.nd 218 (⟨.slice 251 1 24 [.slice none 0 0],1,[.slice none 0 0]⟩) (.nd 188 (⟨.struct [(0,1),(1,1),(2,1)],3,[.int .i64 0,.int .i64 0,.int .u32 0]⟩) (.nd 177 (⟨.func,1,[.nilFunc]⟩) (.nd 172 (⟨.func,1,[.nilFunc]⟩) (.nd 171 (⟨.struct [(0,1),(1,1),(2,1),(3,1)],4,[.int .i64 0,.int .i64 0,.int .i64 0,.int .u64 0]⟩) .lf .lf) (.nd 175 (⟨.func,1,[.nilFunc]⟩) .lf .lf)) (.nd 186 (⟨.slice 188 3 24 [.int .i64 0,.int .i64 0,.int .u32 0],1,[.slice none 0 0]⟩) (.nd 179 (⟨.func,1,[.nilFunc]⟩) .lf .lf) .lf)) (.nd 213 (⟨.struct [(0,0),(0,2)],2,[.int .i32 0,.int .u32 0]⟩) (.nd 204 (⟨.ptr,1,[.pointer none]⟩) (.nd 195 (⟨.int .u64,1,[.int .u64 0]⟩) .lf .lf) (.nd 209 (⟨.struct [(0,0),(0,1)],1,[.int .u32 0]⟩) .lf .lf)) (.nd 217 (⟨.struct [(0,1),(1,3),(4,1)],5,[.slice none 0 0,.int .u32 0,.int .i32 0,.int .u32 0,.slice none 0 0]⟩) (.nd 215 (⟨.struct [(0,0),(0,1),(1,2)],3,[.int .u32 0,.int .i32 0,.int .u32 0]⟩) .lf .lf) .lf))) (.nd 251 (⟨.slice 327 3 24 [.int .u64 0,.int .i64 0,.int .i64 0],1,[.slice none 0 0]⟩) (.nd 225 (⟨.struct [(0,8),(8,1),(9,1),(10,1),(11,1),(12,1),(13,64)],77,[.slice none 0 0,.slice none 0 0,.slice none 0 0,.slice none 0 0,.slice none 0 0,.slice none 0 0,.slice none 0 0,.slice none 0 0,.pointer none,.slice none 0 0,.slice none 0 0,.int .i64 0,.int .i64 0,.int .i64 0,.int .i64 0,.int .i64 0,.int .i64 0,.int .i64 0,.int .i64 0,.int .i64 0,.int .i64 0,.int .i64 0,.int .i64 0,.int .i64 0,.int .i64 0,.int .i64 0,.int .i64 0,.int .i64 0,.int .i64 0,.int .i64 0,.int .i64 0,.int .i64 0,.int .i64 0,.int .i64 0,.int .i64 0,.int .i64 0,.int .i64 0,.int .i64 0,.int .i64 0,.int .i64 0,.int .i64 0,.int .i64 0,.int .i64 0,.int .i64 0,.int .i64 0,.int .i64 0,.int .i64 0,.int .i64 0,.int .i64 0,.int .i64 0,.int .i64 0,.int .i64 0,.int .i64 0,.int .i64 0,.int .i64 0,.int .i64 0,.int .i64 0,.int .i64 0,.int .i64 0,.int .i64 0,.int .i64 0,.int .i64 0,.int .i64 0,.int .i64 0,.int .i64 0,.int .i64 0,.int .i64 0,.int .i64 0,.int .i64 0,.int .i64 0,.int .i64 0,.int .i64 0,.int .i64 0,.int .i64 0,.int .i64 0,.int .i64 0,.int .i64 0]⟩) (.nd 222 (⟨.struct [(0,0),(0,0),(0,1)],1,[.int .i64 0]⟩) (.nd 219 (⟨.slice 132 1 24 [.slice none 0 0],1,[.slice none 0 0]⟩) .lf .lf) (.nd 223 (⟨.array 222 64 1,64,[.int .i64 0,.int .i64 0,.int .i64 0,.int .i64 0,.int .i64 0,.int .i64 0,.int .i64 0,.int .i64 0,.int .i64 0,.int .i64 0,.int .i64 0,.int .i64 0,.int .i64 0,.int .i64 0,.int .i64 0,.int .i64 0,.int .i64 0,.int .i64 0,.int .i64 0,.int .i64 0,.int .i64 0,.int .i64 0,.int .i64 0,.int .i64 0,.int .i64 0,.int .i64 0,.int .i64 0,.int .i64 0,.int .i64 0,.int .i64 0,.int .i64 0,.int .i64 0,.int .i64 0,.int .i64 0,.int .i64 0,.int .i64 0,.int .i64 0,.int .i64 0,.int .i64 0,.int .i64 0,.int .i64 0,.int .i64 0,.int .i64 0,.int .i64 0,.int .i64 0,.int .i64 0,.int .i64 0,.int .i64 0,.int .i64 0,.int .i64 0,.int .i64 0,.int .i64 0,.int .i64 0,.int .i64 0,.int .i64 0,.int .i64 0,.int .i64 0,.int .i64 0,.int .i64 0,.int .i64 0,.int .i64 0,.int .i64 0,.int .i64 0,.int .i64 0]⟩) .lf .lf)) (.nd 233 (⟨.func,1,[.nilFunc]⟩) (.nd 229 (⟨.struct [(0,1),(1,1),(2,1),(3,4)],7,[.int .i64 0,.int .i64 0,.int .i64 0,.int .u64 0,.int .u64 0,.int .i64 0,.slice none 0 0]⟩) .lf .lf) .lf)) (.nd 265 (⟨.func,1,[.nilFunc]⟩) (.nd 263 (⟨.struct [(0,1),(1,1),(2,1)],3,[.int .i64 0,.int .i64 0,.slice none 0 0]⟩) (.nd 253 (⟨.func,1,[.nilFunc]⟩) .lf .lf) .lf) (.nd 280 (⟨.ptr,1,[.pointer none]⟩) (.nd 273 (⟨.func,1,[.nilFunc]⟩) .lf .lf) .lf)))) (.nd 423 (⟨.struct [(0,8)],8,[.slice none 0 0,.slice none 0 0,.slice none 0 0,.slice none 0 0,.slice none 0 0,.slice none 0 0,.slice none 0 0,.slice none 0 0]⟩) (.nd 397 (⟨.ptr,1,[.pointer none]⟩) (.nd 345 (⟨.struct [(0,8),(8,1),(9,1),(10,1),(11,1)],12,[.slice none 0 0,.slice none 0 0,.slice none 0 0,.slice none 0 0,.slice none 0 0,.slice none 0 0,.slice none 0 0,.slice none 0 0,.slice none 0 0,.slice none 0 0,.slice none 0 0,.slice none 0 0]⟩) (.nd 327 (⟨.struct [(0,1),(1,1),(2,1)],3,[.int .u64 0,.int .i64 0,.int .i64 0]⟩) (.nd 304 (⟨.struct [(0,1),(1,1),(2,1),(3,1),(4,4),(8,1)],9,[.int .i64 0,.int .i64 0,.int .i64 0,.slice none 0 0,.int .u64 0,.int .u64 0,.int .i64 0,.slice none 0 0,.int .i64 0]⟩) .lf .lf) (.nd 334 (⟨.func,1,[.nilFunc]⟩) .lf .lf)) (.nd 393 (⟨.func,1,[.nilFunc]⟩) (.nd 363 (⟨.func,1,[.nilFunc]⟩) .lf .lf) .lf)) (.nd 406 (⟨.struct [(0,1),(1,1),(2,1),(3,1),(4,1)],5,[.int .i64 0,.int .i64 0,.int .i64 0,.int .i64 0,.int .i64 0]⟩) (.nd 402 (⟨.struct [(0,1),(1,1),(2,1)],3,[.int .i64 0,.int .i64 0,.int .i64 0]⟩) (.nd 399 (⟨.slice 402 3 24 [.int .i64 0,.int .i64 0,.int .i64 0],1,[.slice none 0 0]⟩) .lf .lf) (.nd 405 (⟨.slice 406 5 40 [.int .i64 0,.int .i64 0,.int .i64 0,.int .i64 0,.int .i64 0],1,[.slice none 0 0]⟩) .lf .lf)) (.nd 415 (⟨.struct [(0,8),(8,1),(9,1),(10,1),(11,1)],12,[.slice none 0 0,.slice none 0 0,.slice none 0 0,.slice none 0 0,.slice none 0 0,.slice none 0 0,.slice none 0 0,.slice none 0 0,.slice none 0 0,.int .i64 0,.int .i64 0,.slice none 0 0]⟩) (.nd 410 (⟨.ptr,1,[.pointer none]⟩) .lf .lf) .lf))) (.nd 474 (⟨.ptr,1,[.pointer none]⟩) (.nd 455 (⟨.iface,1,[.nilIface]⟩) (.nd 428 (⟨.ptr,1,[.pointer none]⟩) (.nd 427 (⟨.ptr,1,[.pointer none]⟩) .lf .lf) (.nd 430 (⟨.ptr,1,[.pointer none]⟩) .lf .lf)) (.nd 472 (⟨.ptr,1,[.pointer none]⟩) (.nd 470 (⟨.ptr,1,[.pointer none]⟩) .lf .lf) .lf)) (.nd 481 (⟨.func,1,[.nilFunc]⟩) (.nd 478 (⟨.struct [(0,8),(8,1)],9,[.int .i64 0,.int .i64 0,.int .i64 0,.int .i64 0,.int .u32 0,.int .u32 0,.slice none 0 0,.int .i64 0,.int .i64 0]⟩) (.nd 476 (⟨.struct [(0,7),(7,1)],8,[.int .i64 0,.int .i64 0,.int .i64 0,.int .i64 0,.int .u32 0,.int .u32 0,.slice none 0 0,.int .i64 0]⟩) .lf .lf) .lf) (.nd 502 (⟨.func,1,[.nilFunc]⟩) (.nd 491 (⟨.array 3 4 1,4,[.int .i64 0,.int .i64 0,.int .i64 0,.int .i64 0]⟩) .lf .lf) .lf))))))
def etab:Tr (List EK):=(.nd 167 ([.int .i64,.int .i64,.int .i64]) (.nd 93 ([.int .i64,.int .i64,.int .i64,.int .u32]) (.nd 91 ([.int .i64,.int .i64]) (.nd 77 ([.int .i64,.int .i64,.string,.int .u64,.int .u32]) .lf .lf) .lf) (.nd 117 ([.int .u32,.int .i64]) (.nd 102 ([.int .i64,.int .i64,.int .i64,.int .u32]) .lf .lf) .lf)) (.nd 327 ([.int .u64,.int .i64,.int .i64]) (.nd 188 ([.int .i64,.int .i64,.int .u32]) (.nd 171 ([.int .i64,.int .i64,.int .i64,.int .u64]) .lf .lf) .lf) (.nd 406 ([.int .i64,.int .i64,.int .i64,.int .i64,.int .i64]) (.nd 402 ([.int .i64,.int .i64,.int .i64]) .lf .lf) .lf)))
theorem tab_ok:tab.all (fun t i=>A8 Tryz.prog t=some i):=⟨ty168,⟨ty74,⟨ty28,⟨ty20,⟨ty4,⟨ty2,⟨ty1,trivial,trivial⟩,⟨ty3,trivial,trivial⟩⟩,⟨ty9,⟨ty5,trivial,trivial⟩,trivial⟩⟩,⟨ty25,⟨ty23,⟨ty22,trivial,trivial⟩,⟨ty24,trivial,trivial⟩⟩,⟨ty27,⟨ty26,trivial,trivial⟩,trivial⟩⟩⟩,⟨ty50,⟨ty37,⟨ty31,⟨ty29,trivial,trivial⟩,⟨ty34,trivial,trivial⟩⟩,⟨ty44,⟨ty43,trivial,trivial⟩,trivial⟩⟩,⟨ty69,⟨ty57,⟨ty56,trivial,trivial⟩,⟨ty67,trivial,trivial⟩⟩,⟨ty72,⟨ty70,trivial,trivial⟩,trivial⟩⟩⟩⟩,⟨ty112,⟨ty84,⟨ty80,⟨ty77,⟨ty75,trivial,trivial⟩,⟨ty78,trivial,trivial⟩⟩,⟨ty83,⟨ty82,trivial,trivial⟩,trivial⟩⟩,⟨ty95,⟨ty91,⟨ty86,trivial,trivial⟩,⟨ty93,trivial,trivial⟩⟩,⟨ty110,⟨ty102,trivial,trivial⟩,trivial⟩⟩⟩,⟨ty131,⟨ty122,⟨ty117,⟨ty115,trivial,trivial⟩,⟨ty119,trivial,trivial⟩⟩,⟨ty128,⟨ty125,trivial,trivial⟩,trivial⟩⟩,⟨ty162,⟨ty160,⟨ty132,trivial,trivial⟩,trivial⟩,⟨ty167,⟨ty164,trivial,trivial⟩,trivial⟩⟩⟩⟩⟩,⟨ty298,⟨ty218,⟨ty188,⟨ty177,⟨ty172,⟨ty171,trivial,trivial⟩,⟨ty175,trivial,trivial⟩⟩,⟨ty186,⟨ty179,trivial,trivial⟩,trivial⟩⟩,⟨ty213,⟨ty204,⟨ty195,trivial,trivial⟩,⟨ty209,trivial,trivial⟩⟩,⟨ty217,⟨ty215,trivial,trivial⟩,trivial⟩⟩⟩,⟨ty251,⟨ty225,⟨ty222,⟨ty219,trivial,trivial⟩,⟨ty223,trivial,trivial⟩⟩,⟨ty233,⟨ty229,trivial,trivial⟩,trivial⟩⟩,⟨ty265,⟨ty263,⟨ty253,trivial,trivial⟩,trivial⟩,⟨ty280,⟨ty273,trivial,trivial⟩,trivial⟩⟩⟩⟩,⟨ty423,⟨ty397,⟨ty345,⟨ty327,⟨ty304,trivial,trivial⟩,⟨ty334,trivial,trivial⟩⟩,⟨ty393,⟨ty363,trivial,trivial⟩,trivial⟩⟩,⟨ty406,⟨ty402,⟨ty399,trivial,trivial⟩,⟨ty405,trivial,trivial⟩⟩,⟨ty415,⟨ty410,trivial,trivial⟩,trivial⟩⟩⟩,⟨ty474,⟨ty455,⟨ty428,⟨ty427,trivial,trivial⟩,⟨ty430,trivial,trivial⟩⟩,⟨ty472,⟨ty470,trivial,trivial⟩,trivial⟩⟩,⟨ty481,⟨ty478,⟨ty476,trivial,trivial⟩,trivial⟩,⟨ty502,⟨ty491,trivial,trivial⟩,trivial⟩⟩⟩⟩⟩⟩
theorem Anx:etab.all (fun t i=>I6 Tryz.prog t=some i):=⟨tq167,⟨tq93,⟨tq91,⟨tq77,trivial,trivial⟩,trivial⟩,⟨tq117,⟨tq102,trivial,trivial⟩,trivial⟩⟩,⟨tq327,⟨tq188,⟨tq171,trivial,trivial⟩,trivial⟩,⟨tq406,⟨tq402,trivial,trivial⟩,trivial⟩⟩⟩
def Γ:TyE Tryz.prog:=⟨⟨fun t=>tab.look t,fun _ _ h=>Am1 (Tr.look_ok tab_ok h)⟩,fun t=>etab.look t,fun _ _ h=>Al1 (Tr.look_ok Anx h)⟩
theorem hm:Tryz.prog.follows .mixedOrders=true:=by kernel_rfl
theorem F4:Fun Tryz.prog 4 Tryz.f4 (Ae Tryz.f4):=⟨Tryz.func4,rfl,by kernel_rfl⟩
theorem F7:Fun Tryz.prog 7 Tryz.f7 (Ae Tryz.f7):=⟨Tryz.func7,rfl,by kernel_rfl⟩
theorem F8:Fun Tryz.prog 8 Tryz.f8 (Ae Tryz.f8):=⟨Tryz.func8,rfl,by kernel_rfl⟩
theorem F9:Fun Tryz.prog 9 Tryz.f9 (Ae Tryz.f9):=⟨Tryz.func9,rfl,by kernel_rfl⟩
theorem F10:Fun Tryz.prog 10 Tryz.f10 (Ae Tryz.f10):=⟨Tryz.func10,rfl,by kernel_rfl⟩
theorem F13:Fun Tryz.prog 13 Tryz.f13 (Ae Tryz.f13):=⟨Tryz.func13,rfl,by kernel_rfl⟩
theorem F14:Fun Tryz.prog 14 Tryz.f14 (Ae Tryz.f14):=⟨Tryz.func14,rfl,by kernel_rfl⟩
theorem F15:Fun Tryz.prog 15 Tryz.f15 (Ae Tryz.f15):=⟨Tryz.func15,rfl,by kernel_rfl⟩
theorem F16:Fun Tryz.prog 16 Tryz.f16 (Ae Tryz.f16):=⟨Tryz.func16,rfl,by kernel_rfl⟩
theorem F22:Fun Tryz.prog 22 Tryz.f22 (Ae Tryz.f22):=⟨Tryz.func22,rfl,by kernel_rfl⟩
theorem F23:Fun Tryz.prog 23 Tryz.f23 (Ae Tryz.f23):=⟨Tryz.func23,rfl,by kernel_rfl⟩
theorem F24:Fun Tryz.prog 24 Tryz.f24 (Ae Tryz.f24):=⟨Tryz.func24,rfl,by kernel_rfl⟩
theorem F25:Fun Tryz.prog 25 Tryz.f25 (Ae Tryz.f25):=⟨Tryz.func25,rfl,by kernel_rfl⟩
theorem F26:Fun Tryz.prog 26 Tryz.f26 (Ae Tryz.f26):=⟨Tryz.func26,rfl,by kernel_rfl⟩
theorem F27:Fun Tryz.prog 27 Tryz.f27 (Ae Tryz.f27):=⟨Tryz.func27,rfl,by kernel_rfl⟩
theorem F28:Fun Tryz.prog 28 Tryz.f28 (Ae Tryz.f28):=⟨Tryz.func28,rfl,by kernel_rfl⟩
theorem F29:Fun Tryz.prog 29 Tryz.f29 (Ae Tryz.f29):=⟨Tryz.func29,rfl,by kernel_rfl⟩
theorem F30:Fun Tryz.prog 30 Tryz.f30 (Ae Tryz.f30):=⟨Tryz.func30,rfl,by kernel_rfl⟩
theorem F31:Fun Tryz.prog 31 Tryz.f31 (Ae Tryz.f31):=⟨Tryz.func31,rfl,by kernel_rfl⟩
theorem F32:Fun Tryz.prog 32 Tryz.f32 (Ae Tryz.f32):=⟨Tryz.func32,rfl,by kernel_rfl⟩
theorem F35:Fun Tryz.prog 35 Tryz.f35 (Ae Tryz.f35):=⟨Tryz.func35,rfl,by kernel_rfl⟩
theorem F36:Fun Tryz.prog 36 Tryz.f36 (Ae Tryz.f36):=⟨Tryz.func36,rfl,by kernel_rfl⟩
theorem F41:Fun Tryz.prog 41 Tryz.f41 (Ae Tryz.f41):=⟨Tryz.func41,rfl,by kernel_rfl⟩
theorem F42:Fun Tryz.prog 42 Tryz.f42 (Ae Tryz.f42):=⟨Tryz.func42,rfl,by kernel_rfl⟩
theorem F43:Fun Tryz.prog 43 Tryz.f43 (Ae Tryz.f43):=⟨Tryz.func43,rfl,by kernel_rfl⟩
theorem F44:Fun Tryz.prog 44 Tryz.f44 (Ae Tryz.f44):=⟨Tryz.func44,rfl,by kernel_rfl⟩
theorem F45:Fun Tryz.prog 45 Tryz.f45 (Ae Tryz.f45):=⟨Tryz.func45,rfl,by kernel_rfl⟩
theorem F46:Fun Tryz.prog 46 Tryz.f46 (Ae Tryz.f46):=⟨Tryz.func46,rfl,by kernel_rfl⟩
theorem F47:Fun Tryz.prog 47 Tryz.f47 (Ae Tryz.f47):=⟨Tryz.func47,rfl,by kernel_rfl⟩
theorem F48:Fun Tryz.prog 48 Tryz.f48 (Ae Tryz.f48):=⟨Tryz.func48,rfl,by kernel_rfl⟩
theorem F49:Fun Tryz.prog 49 Tryz.f49 (Ae Tryz.f49):=⟨Tryz.func49,rfl,by kernel_rfl⟩
theorem F50:Fun Tryz.prog 50 Tryz.f50 (Ae Tryz.f50):=⟨Tryz.func50,rfl,by kernel_rfl⟩
theorem F51:Fun Tryz.prog 51 Tryz.f51 (Ae Tryz.f51):=⟨Tryz.func51,rfl,by kernel_rfl⟩
theorem F52:Fun Tryz.prog 52 Tryz.f52 (Ae Tryz.f52):=⟨Tryz.func52,rfl,by kernel_rfl⟩
theorem F53:Fun Tryz.prog 53 Tryz.f53 (Ae Tryz.f53):=⟨Tryz.func53,rfl,by kernel_rfl⟩
theorem F54:Fun Tryz.prog 54 Tryz.f54 (Ae Tryz.f54):=⟨Tryz.func54,rfl,by kernel_rfl⟩
theorem F55:Fun Tryz.prog 55 Tryz.f55 (Ae Tryz.f55):=⟨Tryz.func55,rfl,by kernel_rfl⟩
theorem F71:Fun Tryz.prog 71 Tryz.f71 (Ae Tryz.f71):=⟨Tryz.func71,rfl,by kernel_rfl⟩
theorem F72:Fun Tryz.prog 72 Tryz.f72 (Ae Tryz.f72):=⟨Tryz.func72,rfl,by kernel_rfl⟩
theorem F73:Fun Tryz.prog 73 Tryz.f73 (Ae Tryz.f73):=⟨Tryz.func73,rfl,by kernel_rfl⟩
theorem F74:Fun Tryz.prog 74 Tryz.f74 (Ae Tryz.f74):=⟨Tryz.func74,rfl,by kernel_rfl⟩
theorem F75:Fun Tryz.prog 75 Tryz.f75 (Ae Tryz.f75):=⟨Tryz.func75,rfl,by kernel_rfl⟩
theorem F76:Fun Tryz.prog 76 Tryz.f76 (Ae Tryz.f76):=⟨Tryz.func76,rfl,by kernel_rfl⟩
theorem F77:Fun Tryz.prog 77 Tryz.f77 (Ae Tryz.f77):=⟨Tryz.func77,rfl,by kernel_rfl⟩
theorem F78:Fun Tryz.prog 78 Tryz.f78 (Ae Tryz.f78):=⟨Tryz.func78,rfl,by kernel_rfl⟩
theorem F79:Fun Tryz.prog 79 Tryz.f79 (Ae Tryz.f79):=⟨Tryz.func79,rfl,by kernel_rfl⟩
theorem F80:Fun Tryz.prog 80 Tryz.f80 (Ae Tryz.f80):=⟨Tryz.func80,rfl,by kernel_rfl⟩
theorem F81:Fun Tryz.prog 81 Tryz.f81 (Ae Tryz.f81):=⟨Tryz.func81,rfl,by kernel_rfl⟩
theorem F82:Fun Tryz.prog 82 Tryz.f82 (Ae Tryz.f82):=⟨Tryz.func82,rfl,by kernel_rfl⟩
theorem F83:Fun Tryz.prog 83 Tryz.f83 (Ae Tryz.f83):=⟨Tryz.func83,rfl,by kernel_rfl⟩
theorem F84:Fun Tryz.prog 84 Tryz.f84 (Ae Tryz.f84):=⟨Tryz.func84,rfl,by kernel_rfl⟩
theorem F85:Fun Tryz.prog 85 Tryz.f85 (Ae Tryz.f85):=⟨Tryz.func85,rfl,by kernel_rfl⟩
theorem F86:Fun Tryz.prog 86 Tryz.f86 (Ae Tryz.f86):=⟨Tryz.func86,rfl,by kernel_rfl⟩
theorem F87:Fun Tryz.prog 87 Tryz.f87 (Ae Tryz.f87):=⟨Tryz.func87,rfl,by kernel_rfl⟩
theorem F88:Fun Tryz.prog 88 Tryz.f88 (Ae Tryz.f88):=⟨Tryz.func88,rfl,by kernel_rfl⟩
theorem F89:Fun Tryz.prog 89 Tryz.f89 (Ae Tryz.f89):=⟨Tryz.func89,rfl,by kernel_rfl⟩
theorem F90:Fun Tryz.prog 90 Tryz.f90 (Ae Tryz.f90):=⟨Tryz.func90,rfl,by kernel_rfl⟩
theorem F91:Fun Tryz.prog 91 Tryz.f91 (Ae Tryz.f91):=⟨Tryz.func91,rfl,by kernel_rfl⟩
theorem F92:Fun Tryz.prog 92 Tryz.f92 (Ae Tryz.f92):=⟨Tryz.func92,rfl,by kernel_rfl⟩
theorem F93:Fun Tryz.prog 93 Tryz.f93 (Ae Tryz.f93):=⟨Tryz.func93,rfl,by kernel_rfl⟩
theorem F94:Fun Tryz.prog 94 Tryz.f94 (Ae Tryz.f94):=⟨Tryz.func94,rfl,by kernel_rfl⟩
theorem F95:Fun Tryz.prog 95 Tryz.f95 (Ae Tryz.f95):=⟨Tryz.func95,rfl,by kernel_rfl⟩
theorem F96:Fun Tryz.prog 96 Tryz.f96 (Ae Tryz.f96):=⟨Tryz.func96,rfl,by kernel_rfl⟩
theorem F97:Fun Tryz.prog 97 Tryz.f97 (Ae Tryz.f97):=⟨Tryz.func97,rfl,by kernel_rfl⟩
theorem F98:Fun Tryz.prog 98 Tryz.f98 (Ae Tryz.f98):=⟨Tryz.func98,rfl,by kernel_rfl⟩
theorem F99:Fun Tryz.prog 99 Tryz.f99 (Ae Tryz.f99):=⟨Tryz.func99,rfl,by kernel_rfl⟩
theorem F103:Fun Tryz.prog 103 Tryz.f103 (Ae Tryz.f103):=⟨Tryz.func103,rfl,by kernel_rfl⟩
theorem F104:Fun Tryz.prog 104 Tryz.f104 (Ae Tryz.f104):=⟨Tryz.func104,rfl,by kernel_rfl⟩
theorem F105:Fun Tryz.prog 105 Tryz.f105 (Ae Tryz.f105):=⟨Tryz.func105,rfl,by kernel_rfl⟩
theorem F106:Fun Tryz.prog 106 Tryz.f106 (Ae Tryz.f106):=⟨Tryz.func106,rfl,by kernel_rfl⟩
theorem F107:Fun Tryz.prog 107 Tryz.f107 (Ae Tryz.f107):=⟨Tryz.func107,rfl,by kernel_rfl⟩
theorem F108:Fun Tryz.prog 108 Tryz.f108 (Ae Tryz.f108):=⟨Tryz.func108,rfl,by kernel_rfl⟩
theorem F109:Fun Tryz.prog 109 Tryz.f109 (Ae Tryz.f109):=⟨Tryz.func109,rfl,by kernel_rfl⟩
theorem F110:Fun Tryz.prog 110 Tryz.f110 (Ae Tryz.f110):=⟨Tryz.func110,rfl,by kernel_rfl⟩
theorem F111:Fun Tryz.prog 111 Tryz.f111 (Ae Tryz.f111):=⟨Tryz.func111,rfl,by kernel_rfl⟩
theorem F112:Fun Tryz.prog 112 Tryz.f112 (Ae Tryz.f112):=⟨Tryz.func112,rfl,by kernel_rfl⟩
theorem F113:Fun Tryz.prog 113 Tryz.f113 (Ae Tryz.f113):=⟨Tryz.func113,rfl,by kernel_rfl⟩
theorem F114:Fun Tryz.prog 114 Tryz.f114 (Ae Tryz.f114):=⟨Tryz.func114,rfl,by kernel_rfl⟩
theorem F115:Fun Tryz.prog 115 Tryz.f115 (Ae Tryz.f115):=⟨Tryz.func115,rfl,by kernel_rfl⟩
theorem F116:Fun Tryz.prog 116 Tryz.f116 (Ae Tryz.f116):=⟨Tryz.func116,rfl,by kernel_rfl⟩
theorem F117:Fun Tryz.prog 117 Tryz.f117 (Ae Tryz.f117):=⟨Tryz.func117,rfl,by kernel_rfl⟩
theorem F118:Fun Tryz.prog 118 Tryz.f118 (Ae Tryz.f118):=⟨Tryz.func118,rfl,by kernel_rfl⟩
theorem F119:Fun Tryz.prog 119 Tryz.f119 (Ae Tryz.f119):=⟨Tryz.func119,rfl,by kernel_rfl⟩
theorem F120:Fun Tryz.prog 120 Tryz.f120 (Ae Tryz.f120):=⟨Tryz.func120,rfl,by kernel_rfl⟩
theorem F121:Fun Tryz.prog 121 Tryz.f121 (Ae Tryz.f121):=⟨Tryz.func121,rfl,by kernel_rfl⟩
theorem F122:Fun Tryz.prog 122 Tryz.f122 (Ae Tryz.f122):=⟨Tryz.func122,rfl,by kernel_rfl⟩
theorem F137:Fun Tryz.prog 137 Tryz.f137 (Ae Tryz.f137):=⟨Tryz.func137,rfl,by kernel_rfl⟩
theorem F138:Fun Tryz.prog 138 Tryz.f138 (Ae Tryz.f138):=⟨Tryz.func138,rfl,by kernel_rfl⟩
theorem F139:Fun Tryz.prog 139 Tryz.f139 (Ae Tryz.f139):=⟨Tryz.func139,rfl,by kernel_rfl⟩
theorem F140:Fun Tryz.prog 140 Tryz.f140 (Ae Tryz.f140):=⟨Tryz.func140,rfl,by kernel_rfl⟩
theorem F141:Fun Tryz.prog 141 Tryz.f141 (Ae Tryz.f141):=⟨Tryz.func141,rfl,by kernel_rfl⟩
theorem F142:Fun Tryz.prog 142 Tryz.f142 (Ae Tryz.f142):=⟨Tryz.func142,rfl,by kernel_rfl⟩
theorem F143:Fun Tryz.prog 143 Tryz.f143 (Ae Tryz.f143):=⟨Tryz.func143,rfl,by kernel_rfl⟩
theorem F144:Fun Tryz.prog 144 Tryz.f144 (Ae Tryz.f144):=⟨Tryz.func144,rfl,by kernel_rfl⟩
theorem F145:Fun Tryz.prog 145 Tryz.f145 (Ae Tryz.f145):=⟨Tryz.func145,rfl,by kernel_rfl⟩
theorem F146:Fun Tryz.prog 146 Tryz.f146 (Ae Tryz.f146):=⟨Tryz.func146,rfl,by kernel_rfl⟩
theorem F147:Fun Tryz.prog 147 Tryz.f147 (Ae Tryz.f147):=⟨Tryz.func147,rfl,by kernel_rfl⟩
theorem F148:Fun Tryz.prog 148 Tryz.f148 (Ae Tryz.f148):=⟨Tryz.func148,rfl,by kernel_rfl⟩
theorem F149:Fun Tryz.prog 149 Tryz.f149 (Ae Tryz.f149):=⟨Tryz.func149,rfl,by kernel_rfl⟩
theorem F150:Fun Tryz.prog 150 Tryz.f150 (Ae Tryz.f150):=⟨Tryz.func150,rfl,by kernel_rfl⟩
theorem F151:Fun Tryz.prog 151 Tryz.f151 (Ae Tryz.f151):=⟨Tryz.func151,rfl,by kernel_rfl⟩
theorem F156:Fun Tryz.prog 156 Tryz.f156 (Ae Tryz.f156):=⟨Tryz.func156,rfl,by kernel_rfl⟩
theorem F157:Fun Tryz.prog 157 Tryz.f157 (Ae Tryz.f157):=⟨Tryz.func157,rfl,by kernel_rfl⟩
theorem F158:Fun Tryz.prog 158 Tryz.f158 (Ae Tryz.f158):=⟨Tryz.func158,rfl,by kernel_rfl⟩
theorem F159:Fun Tryz.prog 159 Tryz.f159 (Ae Tryz.f159):=⟨Tryz.func159,rfl,by kernel_rfl⟩
theorem F160:Fun Tryz.prog 160 Tryz.f160 (Ae Tryz.f160):=⟨Tryz.func160,rfl,by kernel_rfl⟩
theorem F161:Fun Tryz.prog 161 Tryz.f161 (Ae Tryz.f161):=⟨Tryz.func161,rfl,by kernel_rfl⟩
theorem F162:Fun Tryz.prog 162 Tryz.f162 (Ae Tryz.f162):=⟨Tryz.func162,rfl,by kernel_rfl⟩
theorem F163:Fun Tryz.prog 163 Tryz.f163 (Ae Tryz.f163):=⟨Tryz.func163,rfl,by kernel_rfl⟩
theorem F164:Fun Tryz.prog 164 Tryz.f164 (Ae Tryz.f164):=⟨Tryz.func164,rfl,by kernel_rfl⟩
theorem F165:Fun Tryz.prog 165 Tryz.f165 (Ae Tryz.f165):=⟨Tryz.func165,rfl,by kernel_rfl⟩
theorem F166:Fun Tryz.prog 166 Tryz.f166 (Ae Tryz.f166):=⟨Tryz.func166,rfl,by kernel_rfl⟩
theorem F167:Fun Tryz.prog 167 Tryz.f167 (Ae Tryz.f167):=⟨Tryz.func167,rfl,by kernel_rfl⟩
theorem F168:Fun Tryz.prog 168 Tryz.f168 (Ae Tryz.f168):=⟨Tryz.func168,rfl,by kernel_rfl⟩
theorem F169:Fun Tryz.prog 169 Tryz.f169 (Ae Tryz.f169):=⟨Tryz.func169,rfl,by kernel_rfl⟩
theorem F170:Fun Tryz.prog 170 Tryz.f170 (Ae Tryz.f170):=⟨Tryz.func170,rfl,by kernel_rfl⟩
theorem F171:Fun Tryz.prog 171 Tryz.f171 (Ae Tryz.f171):=⟨Tryz.func171,rfl,by kernel_rfl⟩
theorem F172:Fun Tryz.prog 172 Tryz.f172 (Ae Tryz.f172):=⟨Tryz.func172,rfl,by kernel_rfl⟩
theorem F173:Fun Tryz.prog 173 Tryz.f173 (Ae Tryz.f173):=⟨Tryz.func173,rfl,by kernel_rfl⟩
theorem F174:Fun Tryz.prog 174 Tryz.f174 (Ae Tryz.f174):=⟨Tryz.func174,rfl,by kernel_rfl⟩
theorem F175:Fun Tryz.prog 175 Tryz.f175 (Ae Tryz.f175):=⟨Tryz.func175,rfl,by kernel_rfl⟩
theorem F176:Fun Tryz.prog 176 Tryz.f176 (Ae Tryz.f176):=⟨Tryz.func176,rfl,by kernel_rfl⟩
theorem F177:Fun Tryz.prog 177 Tryz.f177 (Ae Tryz.f177):=⟨Tryz.func177,rfl,by kernel_rfl⟩
theorem F178:Fun Tryz.prog 178 Tryz.f178 (Ae Tryz.f178):=⟨Tryz.func178,rfl,by kernel_rfl⟩
theorem F179:Fun Tryz.prog 179 Tryz.f179 (Ae Tryz.f179):=⟨Tryz.func179,rfl,by kernel_rfl⟩
theorem F180:Fun Tryz.prog 180 Tryz.f180 (Ae Tryz.f180):=⟨Tryz.func180,rfl,by kernel_rfl⟩
theorem F181:Fun Tryz.prog 181 Tryz.f181 (Ae Tryz.f181):=⟨Tryz.func181,rfl,by kernel_rfl⟩
theorem F182:Fun Tryz.prog 182 Tryz.f182 (Ae Tryz.f182):=⟨Tryz.func182,rfl,by kernel_rfl⟩
theorem F201:Fun Tryz.prog 201 Tryz.f201 (Ae Tryz.f201):=⟨Tryz.func201,rfl,by kernel_rfl⟩
theorem F202:Fun Tryz.prog 202 Tryz.f202 (Ae Tryz.f202):=⟨Tryz.func202,rfl,by kernel_rfl⟩
theorem F203:Fun Tryz.prog 203 Tryz.f203 (Ae Tryz.f203):=⟨Tryz.func203,rfl,by kernel_rfl⟩
theorem F204:Fun Tryz.prog 204 Tryz.f204 (Ae Tryz.f204):=⟨Tryz.func204,rfl,by kernel_rfl⟩
theorem F205:Fun Tryz.prog 205 Tryz.f205 (Ae Tryz.f205):=⟨Tryz.func205,rfl,by kernel_rfl⟩
theorem F206:Fun Tryz.prog 206 Tryz.f206 (Ae Tryz.f206):=⟨Tryz.func206,rfl,by kernel_rfl⟩
theorem F207:Fun Tryz.prog 207 Tryz.f207 (Ae Tryz.f207):=⟨Tryz.func207,rfl,by kernel_rfl⟩
theorem F208:Fun Tryz.prog 208 Tryz.f208 (Ae Tryz.f208):=⟨Tryz.func208,rfl,by kernel_rfl⟩
theorem F209:Fun Tryz.prog 209 Tryz.f209 (Ae Tryz.f209):=⟨Tryz.func209,rfl,by kernel_rfl⟩
theorem F210:Fun Tryz.prog 210 Tryz.f210 (Ae Tryz.f210):=⟨Tryz.func210,rfl,by kernel_rfl⟩
theorem F216:Fun Tryz.prog 216 Tryz.f216 (Ae Tryz.f216):=⟨Tryz.func216,rfl,by kernel_rfl⟩
theorem F218:Fun Tryz.prog 218 Tryz.f218 (Ae Tryz.f218):=⟨Tryz.func218,rfl,by kernel_rfl⟩
theorem F219:Fun Tryz.prog 219 Tryz.f219 (Ae Tryz.f219):=⟨Tryz.func219,rfl,by kernel_rfl⟩
theorem F220:Fun Tryz.prog 220 Tryz.f220 (Ae Tryz.f220):=⟨Tryz.func220,rfl,by kernel_rfl⟩
theorem F221:Fun Tryz.prog 221 Tryz.f221 (Ae Tryz.f221):=⟨Tryz.func221,rfl,by kernel_rfl⟩
theorem F222:Fun Tryz.prog 222 Tryz.f222 (Ae Tryz.f222):=⟨Tryz.func222,rfl,by kernel_rfl⟩
theorem F223:Fun Tryz.prog 223 Tryz.f223 (Ae Tryz.f223):=⟨Tryz.func223,rfl,by kernel_rfl⟩
theorem F224:Fun Tryz.prog 224 Tryz.f224 (Ae Tryz.f224):=⟨Tryz.func224,rfl,by kernel_rfl⟩
theorem F225:Fun Tryz.prog 225 Tryz.f225 (Ae Tryz.f225):=⟨Tryz.func225,rfl,by kernel_rfl⟩
theorem F226:Fun Tryz.prog 226 Tryz.f226 (Ae Tryz.f226):=⟨Tryz.func226,rfl,by kernel_rfl⟩
theorem F227:Fun Tryz.prog 227 Tryz.f227 (Ae Tryz.f227):=⟨Tryz.func227,rfl,by kernel_rfl⟩
theorem F228:Fun Tryz.prog 228 Tryz.f228 (Ae Tryz.f228):=⟨Tryz.func228,rfl,by kernel_rfl⟩
theorem F229:Fun Tryz.prog 229 Tryz.f229 (Ae Tryz.f229):=⟨Tryz.func229,rfl,by kernel_rfl⟩
theorem F230:Fun Tryz.prog 230 Tryz.f230 (Ae Tryz.f230):=⟨Tryz.func230,rfl,by kernel_rfl⟩
theorem F231:Fun Tryz.prog 231 Tryz.f231 (Ae Tryz.f231):=⟨Tryz.func231,rfl,by kernel_rfl⟩
theorem F232:Fun Tryz.prog 232 Tryz.f232 (Ae Tryz.f232):=⟨Tryz.func232,rfl,by kernel_rfl⟩
theorem F233:Fun Tryz.prog 233 Tryz.f233 (Ae Tryz.f233):=⟨Tryz.func233,rfl,by kernel_rfl⟩
theorem F234:Fun Tryz.prog 234 Tryz.f234 (Ae Tryz.f234):=⟨Tryz.func234,rfl,by kernel_rfl⟩
theorem F235:Fun Tryz.prog 235 Tryz.f235 (Ae Tryz.f235):=⟨Tryz.func235,rfl,by kernel_rfl⟩
theorem F236:Fun Tryz.prog 236 Tryz.f236 (Ae Tryz.f236):=⟨Tryz.func236,rfl,by kernel_rfl⟩
theorem F237:Fun Tryz.prog 237 Tryz.f237 (Ae Tryz.f237):=⟨Tryz.func237,rfl,by kernel_rfl⟩
theorem F238:Fun Tryz.prog 238 Tryz.f238 (Ae Tryz.f238):=⟨Tryz.func238,rfl,by kernel_rfl⟩
theorem F239:Fun Tryz.prog 239 Tryz.f239 (Ae Tryz.f239):=⟨Tryz.func239,rfl,by kernel_rfl⟩
theorem F240:Fun Tryz.prog 240 Tryz.f240 (Ae Tryz.f240):=⟨Tryz.func240,rfl,by kernel_rfl⟩
theorem F241:Fun Tryz.prog 241 Tryz.f241 (Ae Tryz.f241):=⟨Tryz.func241,rfl,by kernel_rfl⟩
theorem F242:Fun Tryz.prog 242 Tryz.f242 (Ae Tryz.f242):=⟨Tryz.func242,rfl,by kernel_rfl⟩
theorem F243:Fun Tryz.prog 243 Tryz.f243 (Ae Tryz.f243):=⟨Tryz.func243,rfl,by kernel_rfl⟩
theorem F244:Fun Tryz.prog 244 Tryz.f244 (Ae Tryz.f244):=⟨Tryz.func244,rfl,by kernel_rfl⟩
theorem F245:Fun Tryz.prog 245 Tryz.f245 (Ae Tryz.f245):=⟨Tryz.func245,rfl,by kernel_rfl⟩
theorem F246:Fun Tryz.prog 246 Tryz.f246 (Ae Tryz.f246):=⟨Tryz.func246,rfl,by kernel_rfl⟩
theorem F247:Fun Tryz.prog 247 Tryz.f247 (Ae Tryz.f247):=⟨Tryz.func247,rfl,by kernel_rfl⟩
theorem F268:Fun Tryz.prog 268 Tryz.f268 (Ae Tryz.f268):=⟨Tryz.func268,rfl,by kernel_rfl⟩
theorem F269:Fun Tryz.prog 269 Tryz.f269 (Ae Tryz.f269):=⟨Tryz.func269,rfl,by kernel_rfl⟩
theorem F270:Fun Tryz.prog 270 Tryz.f270 (Ae Tryz.f270):=⟨Tryz.func270,rfl,by kernel_rfl⟩
theorem F271:Fun Tryz.prog 271 Tryz.f271 (Ae Tryz.f271):=⟨Tryz.func271,rfl,by kernel_rfl⟩
theorem F272:Fun Tryz.prog 272 Tryz.f272 (Ae Tryz.f272):=⟨Tryz.func272,rfl,by kernel_rfl⟩
theorem F273:Fun Tryz.prog 273 Tryz.f273 (Ae Tryz.f273):=⟨Tryz.func273,rfl,by kernel_rfl⟩
theorem F278:Fun Tryz.prog 278 Tryz.f278 (Ae Tryz.f278):=⟨Tryz.func278,rfl,by kernel_rfl⟩
theorem F279:Fun Tryz.prog 279 Tryz.f279 (Ae Tryz.f279):=⟨Tryz.func279,rfl,by kernel_rfl⟩
theorem F280:Fun Tryz.prog 280 Tryz.f280 (Ae Tryz.f280):=⟨Tryz.func280,rfl,by kernel_rfl⟩
theorem F281:Fun Tryz.prog 281 Tryz.f281 (Ae Tryz.f281):=⟨Tryz.func281,rfl,by kernel_rfl⟩
theorem F282:Fun Tryz.prog 282 Tryz.f282 (Ae Tryz.f282):=⟨Tryz.func282,rfl,by kernel_rfl⟩
theorem F283:Fun Tryz.prog 283 Tryz.f283 (Ae Tryz.f283):=⟨Tryz.func283,rfl,by kernel_rfl⟩
theorem F284:Fun Tryz.prog 284 Tryz.f284 (Ae Tryz.f284):=⟨Tryz.func284,rfl,by kernel_rfl⟩
theorem F285:Fun Tryz.prog 285 Tryz.f285 (Ae Tryz.f285):=⟨Tryz.func285,rfl,by kernel_rfl⟩
theorem F286:Fun Tryz.prog 286 Tryz.f286 (Ae Tryz.f286):=⟨Tryz.func286,rfl,by kernel_rfl⟩
theorem F287:Fun Tryz.prog 287 Tryz.f287 (Ae Tryz.f287):=⟨Tryz.func287,rfl,by kernel_rfl⟩
theorem F288:Fun Tryz.prog 288 Tryz.f288 (Ae Tryz.f288):=⟨Tryz.func288,rfl,by kernel_rfl⟩
theorem F289:Fun Tryz.prog 289 Tryz.f289 (Ae Tryz.f289):=⟨Tryz.func289,rfl,by kernel_rfl⟩
theorem F290:Fun Tryz.prog 290 Tryz.f290 (Ae Tryz.f290):=⟨Tryz.func290,rfl,by kernel_rfl⟩
theorem F291:Fun Tryz.prog 291 Tryz.f291 (Ae Tryz.f291):=⟨Tryz.func291,rfl,by kernel_rfl⟩
theorem F292:Fun Tryz.prog 292 Tryz.f292 (Ae Tryz.f292):=⟨Tryz.func292,rfl,by kernel_rfl⟩
theorem F293:Fun Tryz.prog 293 Tryz.f293 (Ae Tryz.f293):=⟨Tryz.func293,rfl,by kernel_rfl⟩
theorem F294:Fun Tryz.prog 294 Tryz.f294 (Ae Tryz.f294):=⟨Tryz.func294,rfl,by kernel_rfl⟩
theorem F295:Fun Tryz.prog 295 Tryz.f295 (Ae Tryz.f295):=⟨Tryz.func295,rfl,by kernel_rfl⟩
theorem F296:Fun Tryz.prog 296 Tryz.f296 (Ae Tryz.f296):=⟨Tryz.func296,rfl,by kernel_rfl⟩
theorem F297:Fun Tryz.prog 297 Tryz.f297 (Ae Tryz.f297):=⟨Tryz.func297,rfl,by kernel_rfl⟩
theorem F298:Fun Tryz.prog 298 Tryz.f298 (Ae Tryz.f298):=⟨Tryz.func298,rfl,by kernel_rfl⟩
theorem F299:Fun Tryz.prog 299 Tryz.f299 (Ae Tryz.f299):=⟨Tryz.func299,rfl,by kernel_rfl⟩
theorem F300:Fun Tryz.prog 300 Tryz.f300 (Ae Tryz.f300):=⟨Tryz.func300,rfl,by kernel_rfl⟩
theorem F301:Fun Tryz.prog 301 Tryz.f301 (Ae Tryz.f301):=⟨Tryz.func301,rfl,by kernel_rfl⟩
theorem F302:Fun Tryz.prog 302 Tryz.f302 (Ae Tryz.f302):=⟨Tryz.func302,rfl,by kernel_rfl⟩
theorem F303:Fun Tryz.prog 303 Tryz.f303 (Ae Tryz.f303):=⟨Tryz.func303,rfl,by kernel_rfl⟩
theorem F304:Fun Tryz.prog 304 Tryz.f304 (Ae Tryz.f304):=⟨Tryz.func304,rfl,by kernel_rfl⟩
theorem F305:Fun Tryz.prog 305 Tryz.f305 (Ae Tryz.f305):=⟨Tryz.func305,rfl,by kernel_rfl⟩
theorem F306:Fun Tryz.prog 306 Tryz.f306 (Ae Tryz.f306):=⟨Tryz.func306,rfl,by kernel_rfl⟩
theorem F308:Fun Tryz.prog 308 Tryz.f308 (Ae Tryz.f308):=⟨Tryz.func308,rfl,by kernel_rfl⟩
theorem F309:Fun Tryz.prog 309 Tryz.f309 (Ae Tryz.f309):=⟨Tryz.func309,rfl,by kernel_rfl⟩
theorem F310:Fun Tryz.prog 310 Tryz.f310 (Ae Tryz.f310):=⟨Tryz.func310,rfl,by kernel_rfl⟩
theorem F326:Fun Tryz.prog 326 Tryz.f326 (Ae Tryz.f326):=⟨Tryz.func326,rfl,by kernel_rfl⟩
theorem F327:Fun Tryz.prog 327 Tryz.f327 (Ae Tryz.f327):=⟨Tryz.func327,rfl,by kernel_rfl⟩
theorem F328:Fun Tryz.prog 328 Tryz.f328 (Ae Tryz.f328):=⟨Tryz.func328,rfl,by kernel_rfl⟩
theorem F329:Fun Tryz.prog 329 Tryz.f329 (Ae Tryz.f329):=⟨Tryz.func329,rfl,by kernel_rfl⟩
theorem F330:Fun Tryz.prog 330 Tryz.f330 (Ae Tryz.f330):=⟨Tryz.func330,rfl,by kernel_rfl⟩
theorem F331:Fun Tryz.prog 331 Tryz.f331 (Ae Tryz.f331):=⟨Tryz.func331,rfl,by kernel_rfl⟩
theorem F332:Fun Tryz.prog 332 Tryz.f332 (Ae Tryz.f332):=⟨Tryz.func332,rfl,by kernel_rfl⟩
theorem F333:Fun Tryz.prog 333 Tryz.f333 (Ae Tryz.f333):=⟨Tryz.func333,rfl,by kernel_rfl⟩
theorem F334:Fun Tryz.prog 334 Tryz.f334 (Ae Tryz.f334):=⟨Tryz.func334,rfl,by kernel_rfl⟩
theorem F335:Fun Tryz.prog 335 Tryz.f335 (Ae Tryz.f335):=⟨Tryz.func335,rfl,by kernel_rfl⟩
theorem F336:Fun Tryz.prog 336 Tryz.f336 (Ae Tryz.f336):=⟨Tryz.func336,rfl,by kernel_rfl⟩
theorem F337:Fun Tryz.prog 337 Tryz.f337 (Ae Tryz.f337):=⟨Tryz.func337,rfl,by kernel_rfl⟩
theorem F338:Fun Tryz.prog 338 Tryz.f338 (Ae Tryz.f338):=⟨Tryz.func338,rfl,by kernel_rfl⟩
theorem F339:Fun Tryz.prog 339 Tryz.f339 (Ae Tryz.f339):=⟨Tryz.func339,rfl,by kernel_rfl⟩
theorem F340:Fun Tryz.prog 340 Tryz.f340 (Ae Tryz.f340):=⟨Tryz.func340,rfl,by kernel_rfl⟩
theorem F341:Fun Tryz.prog 341 Tryz.f341 (Ae Tryz.f341):=⟨Tryz.func341,rfl,by kernel_rfl⟩
theorem F342:Fun Tryz.prog 342 Tryz.f342 (Ae Tryz.f342):=⟨Tryz.func342,rfl,by kernel_rfl⟩
theorem F343:Fun Tryz.prog 343 Tryz.f343 (Ae Tryz.f343):=⟨Tryz.func343,rfl,by kernel_rfl⟩
theorem F344:Fun Tryz.prog 344 Tryz.f344 (Ae Tryz.f344):=⟨Tryz.func344,rfl,by kernel_rfl⟩
theorem F345:Fun Tryz.prog 345 Tryz.f345 (Ae Tryz.f345):=⟨Tryz.func345,rfl,by kernel_rfl⟩
theorem F346:Fun Tryz.prog 346 Tryz.f346 (Ae Tryz.f346):=⟨Tryz.func346,rfl,by kernel_rfl⟩
theorem F347:Fun Tryz.prog 347 Tryz.f347 (Ae Tryz.f347):=⟨Tryz.func347,rfl,by kernel_rfl⟩
theorem F348:Fun Tryz.prog 348 Tryz.f348 (Ae Tryz.f348):=⟨Tryz.func348,rfl,by kernel_rfl⟩
theorem F349:Fun Tryz.prog 349 Tryz.f349 (Ae Tryz.f349):=⟨Tryz.func349,rfl,by kernel_rfl⟩
theorem F350:Fun Tryz.prog 350 Tryz.f350 (Ae Tryz.f350):=⟨Tryz.func350,rfl,by kernel_rfl⟩
theorem F351:Fun Tryz.prog 351 Tryz.f351 (Ae Tryz.f351):=⟨Tryz.func351,rfl,by kernel_rfl⟩
theorem F352:Fun Tryz.prog 352 Tryz.f352 (Ae Tryz.f352):=⟨Tryz.func352,rfl,by kernel_rfl⟩
theorem F357:Fun Tryz.prog 357 Tryz.f357 (Ae Tryz.f357):=⟨Tryz.func357,rfl,by kernel_rfl⟩
theorem F358:Fun Tryz.prog 358 Tryz.f358 (Ae Tryz.f358):=⟨Tryz.func358,rfl,by kernel_rfl⟩
theorem F359:Fun Tryz.prog 359 Tryz.f359 (Ae Tryz.f359):=⟨Tryz.func359,rfl,by kernel_rfl⟩
theorem F360:Fun Tryz.prog 360 Tryz.f360 (Ae Tryz.f360):=⟨Tryz.func360,rfl,by kernel_rfl⟩
theorem F361:Fun Tryz.prog 361 Tryz.f361 (Ae Tryz.f361):=⟨Tryz.func361,rfl,by kernel_rfl⟩
theorem F362:Fun Tryz.prog 362 Tryz.f362 (Ae Tryz.f362):=⟨Tryz.func362,rfl,by kernel_rfl⟩
theorem F363:Fun Tryz.prog 363 Tryz.f363 (Ae Tryz.f363):=⟨Tryz.func363,rfl,by kernel_rfl⟩
theorem F372:Fun Tryz.prog 372 Tryz.f372 (Ae Tryz.f372):=⟨Tryz.func372,rfl,by kernel_rfl⟩
theorem F373:Fun Tryz.prog 373 Tryz.f373 (Ae Tryz.f373):=⟨Tryz.func373,rfl,by kernel_rfl⟩
theorem F375:Fun Tryz.prog 375 Tryz.f375 (Ae Tryz.f375):=⟨Tryz.func375,rfl,by kernel_rfl⟩
theorem F380:Fun Tryz.prog 380 Tryz.f380 (Ae Tryz.f380):=⟨Tryz.func380,rfl,by kernel_rfl⟩
theorem F381:Fun Tryz.prog 381 Tryz.f381 (Ae Tryz.f381):=⟨Tryz.func381,rfl,by kernel_rfl⟩
theorem F382:Fun Tryz.prog 382 Tryz.f382 (Ae Tryz.f382):=⟨Tryz.func382,rfl,by kernel_rfl⟩
theorem F383:Fun Tryz.prog 383 Tryz.f383 (Ae Tryz.f383):=⟨Tryz.func383,rfl,by kernel_rfl⟩
theorem F384:Fun Tryz.prog 384 Tryz.f384 (Ae Tryz.f384):=⟨Tryz.func384,rfl,by kernel_rfl⟩
theorem F386:Fun Tryz.prog 386 Tryz.f386 (Ae Tryz.f386):=⟨Tryz.func386,rfl,by kernel_rfl⟩
theorem F387:Fun Tryz.prog 387 Tryz.f387 (Ae Tryz.f387):=⟨Tryz.func387,rfl,by kernel_rfl⟩
theorem F421:Fun Tryz.prog 421 Tryz.f421 (Ae Tryz.f421):=⟨Tryz.func421,rfl,by kernel_rfl⟩
theorem F422:Fun Tryz.prog 422 Tryz.f422 (Ae Tryz.f422):=⟨Tryz.func422,rfl,by kernel_rfl⟩
theorem F423:Fun Tryz.prog 423 Tryz.f423 (Ae Tryz.f423):=⟨Tryz.func423,rfl,by kernel_rfl⟩
theorem F424:Fun Tryz.prog 424 Tryz.f424 (Ae Tryz.f424):=⟨Tryz.func424,rfl,by kernel_rfl⟩
theorem rg {F:Fr} {n:Nat} {B:Exit→Act→World→Prop} {bn:List Nat} {hbn:∀ k,F.k0 k≠.new→k∈bn} {k:List KI} {s:SS} (h:J7 ⟨Tryz.prog,Γ.toTy,F,n,B,bn,hbn⟩ Γ 400 k s):G ⟨Tryz.prog,Γ.toTy,F,n,B,bn,hbn⟩ k s:=rG Γ hm h
theorem rd {F:Fr} {n:Nat} {B:Exit→Act→World→Prop} {bn:List Nat} {hbn:∀ k,F.k0 k≠.new→k∈bn} {k:List KI} {s:SS} {all:Array Oper} {done:List Stp} {rest:List Oper} (hs:all.toList=done.map (·.o)++rest) (h:Ss ⟨Tryz.prog,Γ.toTy,F,n,B,bn,hbn⟩ Γ 400 k all done rest s):DR ⟨Tryz.prog,Γ.toTy,F,n,B,bn,hbn⟩ k all done rest s:=rD Γ hm hs h
end Go.Sy.YteinjapglfkamaaGreat
namespace Go.Sy.YteinjapglfkamaaGreat
open Go.Proofs
structure Device where
 (row prio:Int) (name:ByteArray) (mac vtep:Int)
structure Port where
 (row dev native cost link:Int) (name:ByteArray) (tagged:List Int)
structure Link where
 (row a b:Int)
structure Domain where
 (dev vlan vni irb row:Int) (peers:List Int)
structure Static where
 (row domain port mac:Int)
structure Flood where
 (row dev vni:Int) (addrs:List Int)
structure Vrf where
 (row dev:Int) (name:ByteArray) (imports exports:List Int)
structure Irb where
 (row domain vrf addr bits:Int)
structure Net where
 (devices:List Device) (ports:List Port) (links:List Link) (domains:List Domain) (statics:List Static) (floods:List Flood) (vrfs:List Vrf) (irbs:List Irb)
def Bj (d:Device):SV:=.agg [Aa d.row,Aa d.prio,Yg d.name,A9 d.mac,Bm d.vtep]
def A6 (p:Port):SV:=.agg [Aa p.row,Aa p.dev,Aa p.native,Aa p.cost,Aa p.link,Yg p.name,.sl 1 Aa p.tagged]
def Ce (l:Link):SV:=.agg [Aa l.row,Aa l.a,Aa l.b]
def Ar (d:Domain):SV:=.agg [Aa d.dev,Aa d.vlan,Aa d.vni,Aa d.irb,Aa d.row,.sl 1 Aa d.peers]
def Bh (s:Static):SV:=.agg [Aa s.row,Aa s.domain,Aa s.port,A9 s.mac]
def Bv (f:Flood):SV:=.agg [Aa f.row,Aa f.dev,Aa f.vni,.sl 1 Bm f.addrs]
def Cq (v:Vrf):SV:=.agg [Aa v.row,Aa v.dev,Yg v.name,.sl 1 Aa v.imports,.sl 1 Aa v.exports]
def Cd (i:Irb):SV:=.agg [Aa i.row,Aa i.domain,Aa i.vrf,Bm i.addr,Aa i.bits]
def Ak7 (n:Net):List SV:=[.sl 5 Bj n.devices,.sl 7 A6 n.ports,.sl 3 Ce n.links,.sl 6 Ar n.domains,.sl 4 Bh n.statics,.sl 4 Bv n.floods,.sl 5 Cq n.vrfs,.sl 5 Cd n.irbs]
def Ap (n:Net):SV:=.agg [.sl 5 Bj n.devices,.sl 7 A6 n.ports,.sl 3 Ce n.links,.sl 6 Ar n.domains,.sl 4 Bh n.statics,.sl 4 Bv n.floods,.sl 5 Cq n.vrfs,.sl 5 Cd n.irbs]
instance:Inhabited Device:=⟨⟨0,0,.empty,0,0⟩⟩
instance:Inhabited Port:=⟨⟨0,0,0,0,0,.empty,[]⟩⟩
instance:Inhabited Link:=⟨⟨0,0,0⟩⟩
instance:Inhabited Domain:=⟨⟨0,0,0,0,0,[]⟩⟩
instance:Inhabited Static:=⟨⟨0,0,0,0⟩⟩
instance:Inhabited Flood:=⟨⟨0,0,0,[]⟩⟩
instance:Inhabited Vrf:=⟨⟨0,0,.empty,[],[]⟩⟩
instance:Inhabited Irb:=⟨⟨0,0,0,0,0⟩⟩
def Ak (i:Int) (n:Nat):Bool:=decide (0≤i) && decide (i<n)
def inB (l:List Int) (x:Int):Bool:=l.any (· == x)
def nth {α:Type} [Inhabited α] (l:List α) (i:Int):α:=(l[i.toNat]?).getD default
theorem Am {α:Type} [Inhabited α] {l:List α} {i:Int} (h:i.toNat<l.length):nth l i=l[i.toNat]:=by
 simp[nth,h]
def Cb {α:Type} (p:α→Bool) (l:List α):Int:=match l.findIdx? p with | some i=>(i:Int) | none=>-1
theorem C9 {α:Type} {p:α→Bool} {l:List α} {j:Nat} (h:j<l.length) (h1:∀ i (hi:i<l.length),i<j→p l[i]=false) (h2:p l[j]=true):Cb p l=j:=by
 have:l.findIdx? p=some j:=by
  rw[List.findIdx?_eq_some_iff_getElem]
  exact⟨h,h2,fun i hi=>by simp[h1 i qn hi]⟩
 simp[Cb,this]
theorem Dv {α:Type} {p:α→Bool} {l:List α} (h1:∀ i (hi:i<l.length),p l[i]=false):Cb p l=-1:=by
 have:l.findIdx? p=none:=by
  rw[List.findIdx?_eq_none_iff]
  intro x hx
  obtain ⟨i,hi,rfl⟩:=List.mem_iff_getElem.1 hx
  exact h1 i hi
 simp[Cb,this]
theorem D6 {α:Type} (p:α→Bool) (l:List α):Cb p l<l.length:=by
 unfold Cb
 split
 ·rename_i i h
  rw[List.findIdx?_eq_some_iff_getElem]at h
  obtain ⟨h,_⟩:=h
  omega
 ·omega
theorem Anr {α:Type} (p:α→Bool) (l:List α):-1≤Cb p l:=by
 unfold Cb
 split<;>omega
theorem Acu {α:Type} (p:α→Bool) (l:List α):decide (0≤Cb p l)=l.any p:=by
 unfold Cb
 split
 ·rename_i i h
  rw[List.findIdx?_eq_some_iff_getElem]at h
  obtain ⟨h,h2,_⟩:=h
  have:l.any p=true:=List.any_eq_true.2 ⟨_,List.getElem_mem h,h2⟩
  rw[this]
  simp
 ·rename_i h
  rw[List.findIdx?_eq_none_iff]at h
  have:l.any p=false:=by
   rw[List.any_eq_false]
   intro x hx
   simp[h x hx]
  rw[this]
  simp
def Cj {α:Type} (p:Nat→α→Bool) (l:List α):Bool:=l.zipIdx.all fun q=>p q.2 q.1
theorem allB_iff {α:Type} {p:Nat→α→Bool} {l:List α}:Cj p l=true↔∀ i (h:i<l.length),p i l[i]=true:=by
 simp only[Cj,List.all_eq_true]
 constructor
 ·intro h i hi
  exact h (l[i],i) (by rw[List.mk_mem_zipIdx_iff_getElem?];simp[hi])
 ·rintro h ⟨x,i⟩ hx
  rw[List.mk_mem_zipIdx_iff_getElem?]at hx
  obtain ⟨hi,rfl⟩:=List.getElem?_eq_some_iff.1 hx
  exact h i hi
theorem Ajk {α:Type} {p:Nat→α→Bool} {l:List α} (h:∀ i (h:i<l.length),p i l[i]=true):Cj p l=true:=allB_iff.2 h
theorem A5 {α:Type} {p:Nat→α→Bool} {l:List α} {i:Nat} (h:i<l.length) (h1:p i l[i]=false):Cj p l=false:=by
 cases hh:Cj p l with
 | false=>rfl
 | true=>have:=allB_iff.1 hh i h;rw[h1]at this;cases this
def C7 {α:Type} (p:Nat→α→Bool) (l:List α) (j:Nat):Prop:=∀ i (h:i<l.length),i<j→p i l[i]=true
theorem Ax {α:Type} (p:Nat→α→Bool) (l:List α):C7 p l 0:=fun i h hj=>absurd hj qn
theorem As {α:Type} {p:Nat→α→Bool} {l:List α} {j:Nat} (hI:C7 p l j) (hj:j<l.length) (h:p j l[j]=true):C7 p l (j+1):=by
 intro i hi hij
 rcases Nat.lt_or_ge i j with h1 | h1
 ·exact hI i hi h1
 ·have:i=j:=by omega
  subst this
  exact h
theorem B4 {α:Type} {p:Nat→α→Bool} {l:List α} {j:Nat} (hI:C7 p l j) (hj:l.length≤j):Cj p l=true:=Ajk fun i hi=>hI i hi qn
def An {α:Type} (l:List α):Prop:=l.length<2147483648
end Go.Sy.YteinjapglfkamaaGreat
namespace Go.Sy
theorem Xm {M:Nat→Prop} {w:World} {sz:Nat} {α:Type} {e:α→SV} {v:Value} (h:v=.slice none 0 0):RdD M w (.sl sz e []) v:=by
 simp only[RdD]
 exact .inl ⟨Y,none,0,h⟩
theorem Ad0 {C:Cx} {k:List KI} {s:SS} (d:Nat) {sz:Nat} {α β:Type} {e:α→SV} {l:List α} {e':β→SV} {l':List β} (h:s.h d=.row sz e l) (hl:l'.length=l.length)
  (hv:∀ (M:Nat→Prop) (w:World) (i:Nat) (h1:i<l.length) (h2:i<l'.length) (v:Value),RdD M w (e l[i]) v→RdD M w (e' l'[i]) v) (hg:G C k ⟨s.σ,upd s.h d (.row sz e' l')⟩):G C k s:=fun κ a w hs =>
 hg κ a w ⟨hs.defers,hs.size,hs.inv,hs.ctx,hs.slot,fun i=>by
  show ObOK κ w i (upd s.h d (.row sz e' l') i)
  by_cases hi:i=d
  ·subst hi
   rw[Bg]
   have:=hs.obj i
   rw[h]at this
   rcases this with ⟨h1,rfl⟩ | ⟨b,cap,cs,T,fr,e1,e2,e3,e4,e5,e6⟩
   ·exact .inl ⟨h1,List.eq_nil_of_length_eq_zero (by simpa using hl)⟩
   ·refine .inr ⟨b,cap,cs,T,fr,by rw[hl];exact e1,e2,e3,e4,by omega,fun i x hx=>?_⟩
    obtain ⟨hi2,rfl⟩:=hx
    obtain ⟨_,u,hu,hrest⟩:=e6 i (e (l[i]'qn)) ⟨by omega,rfl⟩
    exact⟨hi2,u,hv _ _ i qn hi2 u hu,hrest⟩
  ·rw[Bz _ _ hi];exact hs.obj i⟩
theorem Ag4 {κ:Ka} {w:World} {x:SV}:∀ {l:List SV} {cs:List Value} {i:Nat},RdL κ w l cs→(∀ y v,l[i]? = some y→Rd κ w y v→Rd κ w x v)→RdL κ w (l.set i x) cs
 | [],_,_,h,_=>h
 | y::l,cs,0,h,hx=>by
  simp only[RdL,List.set_cons_zero]at h ⊢
  obtain ⟨v,r,e1,e2,e3⟩:=h
  exact⟨v,r,e1,hx y v E e2,e3⟩
 | y::l,cs,i+1,h,hx=>by
  simp only[RdL,List.set_cons_succ]at h ⊢
  obtain ⟨v,r,e1,e2,e3⟩:=h
  exact⟨v,r,e1,e2,Ag4 e3 (fun z u hz hu=>hx z u hz hu)⟩
theorem Ad1 {C:Cx} {k:List KI} {s:SS} (b i d sz:Nat) {α:Type} (e:α→SV) {l:List SV} (hb:s.h b=.box l) (h:l[i]? = some (.val (.slice none 0 0))) (hd:s.h d=.fresh) (hbd:Nat.beq b d=false)
  (hg:G C k ⟨s.σ,upd (upd s.h b (.box (l.set i (.osl d)))) d (.row sz e [])⟩):G C k s:=fun κ a w hs=>by
 have hne:b≠d:=fun e=>by rw[e,Nat.beq_refl]at hbd;cases hbd
 have hnew:κ d=.new:=by have:=hs.obj d;rwa [hd]at this
 obtain ⟨st,inv⟩:=E1 hs.inv hnew (e:=.nil) (Grew.refl w) (fun b hb=>by cases hb)
 refine hg (Cu κ d .nil) a w ⟨hs.defers,hs.size,inv,hs.ctx.step inv st,fun j=>Rd.step st _ _ (hs.slot j),fun j=>?_⟩
 show ObOK _ w j (upd (upd s.h b (.box (l.set i (.osl d)))) d (.row sz e []) j)
 by_cases hj:j=d
 ·subst hj;rw[Bg];exact .inl ⟨Aq _ _ _,rfl⟩
 ·rw[Bz _ _ hj]
  by_cases hjb:j=b
  ·subst hjb
   rw[Bg]
   have:=ObOK.step st hj _ (hs.obj j)
   rw[hb]at this
   obtain ⟨b',cs,T,fr,e1,e2,e3,e4,e5⟩:=this
   refine⟨b',cs,T,fr,e1,e2,e3,e4,Ag4 e5 fun y v hy hv=>?_⟩
   rw[h]at hy
   cases hy
   simp only[Rd]at hv
   simp only[Rd,Aq]
   exact hv
  ·rw[Bz _ _ hjb];exact ObOK.step st hj _ (hs.obj j)
theorem Mz {P:Program} (w:World) {t e:TypeId} (h:P.underlying t=some (.slice e)) (ad:Option Addr) (n cap c1 c2:Nat):(Op.equal t (.slice ad n cap) (.slice none c1 c2)).run P w=.ok ad.isNone w:=by
 have key:∀ d,(Op.equalIn (d+1) t (.slice ad n cap) (.slice none c1 c2)).run P w=.ok ad.isNone w:=fun d=>by
  cases ad<;>simp[Op.equalIn,run_underlying h]
 exact key 9999
inductive NilT (s:SS):SV→List Nat→Nat→Prop
 | sl {sz:Nat} {α:Type} {e:α→SV} {l:List α}:NilT s (.sl sz e l) [] l.length
 | row {k sz:Nat} {α:Type} {e:α→SV} {l:List α} (h:s.h k=.row sz e l):NilT s (.osl k) [k] l.length
theorem NilT.at {C:Cx} {s:SS} {κ:Ka} {a:Act} {w:World} {x:Operand} {rd:List Nat} {n:Nat} (hs:St C.F C.n s κ a w) (hx:NilT s (ev s x) rd n):∃ (ad:Option Addr) (m cap:Nat),a.eval x=.slice ad m cap∧(ad.isNone=true→n=0):=by
 have h1:Rd κ w (ev s x) (a.eval x):=hs.ev x
 generalize ev s x=y at *
 cases hx with
 | @sl sz α e l =>
  simp only[Rd,RdD]at h1
  rcases h1 with ⟨rfl,a',cap,h1⟩ | ⟨b,off,cap,h1,_⟩
  ·exact⟨_,_,_,h1,fun _=>rfl⟩
  ·exact⟨_,_,_,h1,fun h=>by cases h⟩
 | @row k' sz α e l hr =>
  have hob:=hs.obj k'
  rw[hr]at hob
  simp only[Rd]at h1
  rcases hob with ⟨hκ,hl⟩ | ⟨b,cap,_,_,_,hκ,_⟩
  ·rw[hκ]at h1
   exact⟨_,_,_,h1,fun _=>by rw[hl];rfl⟩
  ·rw[hκ]at h1
   exact⟨_,_,_,h1,fun h=>by cases h⟩
theorem Dz {C:Cx} {k:List KI} {s:SS} {all:Array Oper} {o:Oper} {rest:List Oper} {op:BinOp} {t yt:TypeId} {ti:TI} {et:TypeId} {sz eb n:Nat} {ez:List Value} {x y:Operand} {rd:List Nat} (h:o.op=.binOp op t x y yt) (hop:op=.eql∨op=.neq)
  (ht:C.Γ.get t=some ti) (hk:ti.k=.slice et sz eb ez) (hy:ev s y=.val (.slice none 0 0)) (hx:NilT s (ev s x) rd n) (hd:Oo C.n o=true) (hw:Dn C.n all o s=some true)
  (hg:∀ b:Bool,(b=true→n=0)→G C (.ops all rest::k) (s.upd o.dst ⟨.val (.bool (if op=.eql then b else !b)),rd,[]⟩)):G C (.ops all (o::rest)::k) s:=fun κ a w hs=>by
 have h2:Rd κ w (ev s y) (a.eval y):=hs.ev y
 rw[hy]at h2
 obtain ⟨ad,m,cap,e1,e2⟩:=hx.at hs
 obtain ⟨d,info,z,k1,k2,_⟩:=C.Γ.ok t ti ht
 rw[hk]at k2
 simp only[TK.ok]at k2
 have hrun:=Mz (P:=C.P) w (t:=t) (e:=et) (by first | exact k2.1 ▸ k1 | (rw[k1,k2.1])) ad m cap 0 0
 have hG:=hg ad.isNone e2
 have hv:=h2.val
 refine wpList_step fun K hK=>?_
 rw[if_pos (Qh hs (Dw hw).2 (Dw hw).1)]
 have hx':(execOp a.eval o).run C.P w=.ok (.value (.bool (if op=.eql then ad.isNone else !ad.isNone))) w:=by
  rcases hop with rfl | rfl<;>simp[execOp,h,e1,hv,eqGuard,binOp,hrun]
 simp only[Oper.wp,hx',Oper.upon]
 exact hK _ _ (hG κ _ w (hs.put (U:=⟨.val (.bool (if op=.eql then ad.isNone else !ad.isNone)),rd,[]⟩) (W3 hd) (Step.refl _ κ w) hs.inv (by simp[Rd]) (fun p hp=>by cases hp)))
def KeepL (s:SS):List (Nat × Ob)→Prop
 | []=>True
 | (k,o)::r=>s.h k=o∧KeepL s r
theorem KeepL.all {s:SS}:∀ {l:List (Nat × Ob)},KeepL s l→∀ p∈l,s.h p.1=p.2
 | [],_,p,hp=>by cases hp
 | (k,o)::r,h,p,hp=>by
  rcases List.mem_cons.1 hp with rfl | hp
  ·exact h.1
  ·exact KeepL.all h.2 p hp
theorem stepD2 {C:Cx} {k:List KI} {s:SS} {all:Array Oper} {done:List Stp} {o:Oper} {rest:List Oper} {U:Up} (hg:Good C.P o s U) (hk:KeepL s U.objs) (hi:all[done.length]? = some o) (hw:Dn C.n all o s=some true)
  (h:DR C k all (done++[⟨done.length,o,⟨U.v,U.rd++U.ws,[]⟩,true⟩]) rest (s.upd o.dst ⟨U.v,U.rd++U.ws,[]⟩)) (hn:(Ex o || Jh o)=false:=by rfl):DR C k all done (o::rest) s :=
 Amr _ (.of2 (hg.keep hk.all) hn) hi (Dw hw).1 h
theorem Ahi {κ:Ka} {w w':World} (hi:Inv κ w) (g:Grew w w'):Step (fun _=>False) κ w κ w'∧Inv κ w' :=
 ⟨⟨g.size,g.os,g.tape,g.output,rfl,fun b hb=>g.blk b (hi.mbnd b hb),fun b hb _=>g.blk b hb,fun k b _ hb=>g.blk b (hi.bnd k b hb),fun _ _=>rfl,fun _ h=>h.elim,fun _ h=>.inl h⟩,
  ⟨hi.inj,fun k b h=>Nat.lt_of_lt_of_le (hi.bnd k b h) g.size,hi.apart,fun b h=>Nat.lt_of_lt_of_le (hi.mbnd b h) g.size⟩⟩
theorem Alu {P:Program} {o:Oper} {s:SS} {x y:Operand} {at_:Array TypeId} {k k':IntKind} {m n:Int} (h:o.op=.call ⟨.builtin .min,#[x,y],at_⟩)
  (hx:ev s x=.val (.int k m)) (hy:ev s y=.val (.int k' n)):Good P o s ⟨.val (.int k (if n<m then n else m)),[],[]⟩ :=
 Good.pure fun κ a w _ hr ho=>by
  have h1:=hr x (by simp[h,Op.operands,Call.operands])
  have h2:=hr y (by simp[h,Op.operands,Call.operands])
  rw[hx]at h1
  rw[hy]at h2
  refine⟨.int k (if n<m then n else m),?_,by simp[Rd]⟩
  simp[execOp,h,resolve,invoke,builtin,Builtin.min_,Builtin.min2,h1.val,h2.val]
end Go.Sy
namespace Go.Sy.YteinjapglfkamaaGreat
open Go.Proofs
attribute [local irreducible] Go.Sy.G Go.Sy.DR
set_option maxRecDepth 20000
set_option maxHeartbeats 4000000
theorem Eg {α:Type} (sz:Nat) (e:α→SV) (l:List α) (i:Int):Sy.Spec Tryz.prog 83 [.sl sz e l,Aa i] [] (Ad (Ak i l.length)) []:=Ab Γ hm 100 F83 Tryz.ntmps83 rfl fun F hF=>by
 conv=>whnf
 (repeat' (first | (refine⟨fun h=>?_,fun h=>?_⟩<;>(repeat (first | simp only[decide_eq_true_eq]at h | simp only[decide_eq_false_iff_not]at h))<;>((refine rg ?_);(conv=>whnf))) | (refine Ac rfl (.cons .tmp .nil) ?_ rfl)))
 all_goals (refine congrArg Ad ?_)
 all_goals grind [Ak]
theorem Aes {α:Type} (sz:Nat) (e:α→SV) (l:List α) (i:Int):Sy.Spec Tryz.prog 137 [.sl sz e l,Aa i] [] (Ad (Ak i l.length)) []:=Ab Γ hm 100 F137 Tryz.ntmps137 rfl fun F hF=>by
 conv=>whnf
 (repeat' (first | (refine⟨fun h=>?_,fun h=>?_⟩<;>(repeat (first | simp only[decide_eq_true_eq]at h | simp only[decide_eq_false_iff_not]at h))<;>((refine rg ?_);(conv=>whnf))) | (refine Ac rfl (.cons .tmp .nil) ?_ rfl)))
 all_goals (refine congrArg Ad ?_)
 all_goals grind [Ak]
theorem Abz {α:Type} (sz:Nat) (e:α→SV) (l:List α) (i:Int):Sy.Spec Tryz.prog 142 [.sl sz e l,Aa i] [] (Ad (Ak i l.length)) []:=Ab Γ hm 100 F142 Tryz.ntmps142 rfl fun F hF=>by
 conv=>whnf
 (repeat' (first | (refine⟨fun h=>?_,fun h=>?_⟩<;>(repeat (first | simp only[decide_eq_true_eq]at h | simp only[decide_eq_false_iff_not]at h))<;>((refine rg ?_);(conv=>whnf))) | (refine Ac rfl (.cons .tmp .nil) ?_ rfl)))
 all_goals (refine congrArg Ad ?_)
 all_goals grind [Ak]
theorem Ls {α:Type} (sz:Nat) (e:α→SV) (l:List α) (i:Int):Sy.Spec Tryz.prog 143 [.sl sz e l,Aa i] [] (Ad (Ak i l.length)) []:=Ab Γ hm 100 F143 Tryz.ntmps143 rfl fun F hF=>by
 conv=>whnf
 (repeat' (first | (refine⟨fun h=>?_,fun h=>?_⟩<;>(repeat (first | simp only[decide_eq_true_eq]at h | simp only[decide_eq_false_iff_not]at h))<;>((refine rg ?_);(conv=>whnf))) | (refine Ac rfl (.cons .tmp .nil) ?_ rfl)))
 all_goals (refine congrArg Ad ?_)
 all_goals grind [Ak]
theorem Hg {α:Type} (sz:Nat) (e:α→SV) (l:List α) (i:Int):Sy.Spec Tryz.prog 92 [.sl sz e l,Aa i] [] (Ad (Ak i l.length)) []:=Ab Γ hm 100 F92 Tryz.ntmps92 rfl fun F hF=>by
 conv=>whnf
 (repeat' (first | (refine⟨fun h=>?_,fun h=>?_⟩<;>(repeat (first | simp only[decide_eq_true_eq]at h | simp only[decide_eq_false_iff_not]at h))<;>((refine rg ?_);(conv=>whnf))) | (refine Ac rfl (.cons .tmp .nil) ?_ rfl)))
 all_goals (refine congrArg Ad ?_)
 all_goals grind [Ak]
theorem Aer {α:Type} (sz:Nat) (e:α→SV) (l:List α) (i:Int):Sy.Spec Tryz.prog 145 [.sl sz e l,Aa i] [] (Ad (Ak i l.length)) []:=Ab Γ hm 100 F145 Tryz.ntmps145 rfl fun F hF=>by
 conv=>whnf
 (repeat' (first | (refine⟨fun h=>?_,fun h=>?_⟩<;>(repeat (first | simp only[decide_eq_true_eq]at h | simp only[decide_eq_false_iff_not]at h))<;>((refine rg ?_);(conv=>whnf))) | (refine Ac rfl (.cons .tmp .nil) ?_ rfl)))
 all_goals (refine congrArg Ad ?_)
 all_goals grind [Ak]
theorem Alm (l:List Int) (x:Int) (hl:An l):Sy.Spec Tryz.prog 91 [.sl 1 Aa l,Aa x] [] (Aa (Cb (· == x) l)) []:=Ab Γ hm 100 F91 Tryz.ntmps91 rfl fun F hF=>by
 unfold An at hl
 conv=>whnf
 refine A2 l.length (fun j=>∀ i (h:i<l.length),i<j→(l[i] == x)=false) (fun j=>[(0,.sl 1 Aa l),(1,Aa x),(7,Aa l.length),(8,Aa j)]) (fun _=>[]) [] (fun i h hj=>absurd hj qn) ⟨⟨E,E,E,E,E,E,E,E,Y⟩,Y,E,E⟩ ?_
 intro j hj hI
 refine rg ?_;conv=>whnf
 (repeat' (first | (refine⟨fun h=>?_,fun h=>?_⟩<;>(repeat (first | simp only[decide_eq_true_eq]at h | simp only[decide_eq_false_iff_not]at h | simp only[beq_iff_eq]at h | simp only[beq_eq_false_iff_ne]at h))<;>((refine rg ?_);(conv=>whnf))) | (refine Ac rfl (.cons .tmp .nil) ?_ rfl) | (refine⟨qq,?_⟩;((conv=>whnf))) | (refine⟨by (omega),by (omega),?_⟩;((conv=>whnf))) | (refine⟨by (unfold I64;omega),?_⟩;((conv=>whnf))) | refine A0 [] hI qn ?_ ⟨⟨rfl,rfl,rfl,rfl,rfl,rfl,rfl,rfl,trivial⟩,trivial,rfl,rfl⟩))
 all_goals try (refine congrArg Aa ?_)
 ·exact C9 qn hI (by simpa using h.symm)
 ·intro i hi hij
  rcases Nat.lt_or_ge i j with h1 | h1
  ·exact hI i hi h1
  ·have:i=j:=by omega
   subst this
   simpa using Ne.symm h
 ·exact Dv (fun i hi=>hI i hi qn)
theorem Ct (l:List Int) (x:Int) (hl:An l):Sy.Spec Tryz.prog 25 [.sl 1 Aa l,Aa x] [] (Ad (inB l x)) []:=Ab Γ hm 100 F25 Tryz.ntmps25 rfl fun F hF=>by
 conv=>whnf
 (repeat' (first | (refine Ac rfl (.cons .tmp .nil) ?_ rfl) | (refine Ag (Alm _ _ hl) F91 rfl rfl rfl rfl rfl ?_;((refine rg ?_);(conv=>whnf)))))
 exact congrArg Ad (Acu _ _).symm
def Dm (p:Port) (v:Int):Bool:=v != 0 && (v == p.native || inB p.tagged v)
theorem U5 (p:Port) (v:Int) (hl:An p.tagged):Sy.Spec Tryz.prog 93 [A6 p,Aa v] [] (Ad (Dm p v)) []:=Ab Γ hm 100 F93 Tryz.ntmps93 rfl fun F hF=>by
 conv=>whnf
 (repeat' (first | (refine⟨fun h=>?_,fun h=>?_⟩<;>(repeat (first | simp only[beq_iff_eq]at h | simp only[beq_eq_false_iff_ne]at h | simp only[bne_iff_ne]at h | simp only[bne_eq_false_iff_eq]at h))<;>((refine rg ?_);(conv=>whnf))) | (refine Ac rfl (.cons .tmp .nil) ?_ rfl) | (refine Ag (Ct _ _ hl) F25 rfl rfl rfl rfl rfl ?_;((refine rg ?_);(conv=>whnf)))))
 all_goals (refine congrArg Ad ?_)
 all_goals grind [Dm]
def Js (l:List Int) (least most:Int) (i:Nat) (x:Int):Bool:=decide (least≤x) && decide (x≤most) && (i == 0 || decide (nth l ((i:Int)-1)<x))
def C3 (l:List Int) (least most:Int):Bool:=decide (0<l.length) && decide (l.length≤16) && Cj (Js l least most) l
theorem Ae0 (l:List Int) (least most:Int) (hl:An l):Sy.Spec Tryz.prog 144 [.sl 1 Aa l,Aa least,Aa most] [] (Ad (C3 l least most)) []:=Ab Γ hm 100 F144 Tryz.ntmps144 rfl fun F hF=>by
 unfold An at hl
 conv=>whnf
 refine A2 l.length (fun j=>C7 (Js l least most) l j) (fun j=>[(0,.sl 1 Aa l),(1,Aa least),(2,Aa most),(9,.sl 1 Aa l),(10,Aa l.length),(11,Aa j)]) (fun _=>[]) [] (Ax _ _) ⟨⟨E,E,E,E,E,E,E,E,E,E,E,E,Y⟩,Y,E,E⟩ ?_
 intro j hj hI
 refine rg ?_;conv=>whnf
 (repeat' (first | (refine⟨fun h=>?_,fun h=>?_⟩<;>(repeat (first | simp only[decide_eq_true_eq]at h | simp only[decide_eq_false_iff_not]at h))<;>((refine rg ?_);(conv=>whnf);repeat((first|refine aF ?_|refine aT ?_);(refine rg ?_);(conv=>whnf)))) | (refine Ac rfl (.cons .tmp .nil) ?_ rfl) | (refine⟨qq,?_⟩;((conv=>whnf))) | (refine⟨by (first | (unfold I64;omega) | omega),by (omega),?_⟩;((conv=>whnf))) | (refine⟨by (unfold I64;omega),?_⟩;((conv=>whnf))) | refine A0 [] hI qn ?_ ⟨⟨rfl,rfl,rfl,rfl,rfl,rfl,rfl,rfl,rfl,rfl,rfl,rfl,trivial⟩,trivial,rfl,rfl⟩))
 all_goals try (refine congrArg Ad ?_)
 all_goals try simp only[Int.toNat_natCast,Int.pred_toNat]at *
 ·rw[C3,A5 (i:=j) qn (by simp[Js];omega)];simp
 ·rw[C3,A5 (i:=j) qn (by simp[Js];omega)];simp
 ·rw[C3,A5 (i:=j) qn (by simp only[Js,Am (show ((j:Int)-1).toNat<l.length by omega),Int.pred_toNat,Int.toNat_natCast];simp;omega)];simp
 ·exact As hI qn (by simp only[Js,Am (show ((j:Int)-1).toNat<l.length by omega),Int.pred_toNat,Int.toNat_natCast];simp;omega)
 ·exact As hI qn (by simp[Js];omega)
 ·rw[C3,B4 hI qn,Bool.eq_iff_iff];simp;omega
 ·rw[C3];simp;omega
theorem Zo (l:List Int) (most:Int) (hl:An l):Sy.Spec Tryz.prog 86 [.sl 1 Aa l,Aa most] [] (Ad (decide (l.length=0) || C3 l 1 most)) []:=Ab Γ hm 100 F86 Tryz.ntmps86 rfl fun F hF=>by
 conv=>whnf
 (repeat' (first | (refine⟨fun h=>?_,fun h=>?_⟩<;>(repeat (first | simp only[beq_iff_eq]at h | simp only[beq_eq_false_iff_ne]at h))<;>((refine rg ?_);(conv=>whnf))) | (refine Ac rfl (.cons .tmp .nil) ?_ rfl) | (refine Ag (Ae0 l 1 most hl) F144 rfl rfl rfl rfl rfl ?_;((refine rg ?_);(conv=>whnf)))))
 all_goals (refine congrArg Ad ?_)
 all_goals grind
theorem L2 {K:List Nat}:∀ (a b:List SV),B8 K (a++b)=(B8 K a && B8 K b)
 | [],b=>by simp[B8]
 | x::a,b=>by simp[B8,L2 a b,Bool.and_assoc]
theorem Cn {f:FuncId} {first cap xs:List SV} (hc:(SV.clo (.func f) first cap).inn []=true) (hx:B8 [] xs=true):B8 [] (first++xs++cap)=true:=by
 simp only[SV.inn,Bool.and_eq_true]at hc
 rw[L2,L2,hc.1,hc.2,hx]
 rfl
theorem E4 (l:List Domain) (p:Domain→Bool) (f:FuncId) (first cap:List SV) (hc:(SV.clo (.func f) first cap).inn []=true) (hf:∀ x∈l,E9 Tryz.prog f (first++[Ar x]++cap) (Ad (p x))) (hl:An l) :
  Sy.Spec Tryz.prog 201 [.sl 6 Ar l,.clo (.func f) first cap] [] (Aa (Cb p l)) []:=Ab Γ hm 100 F201 Tryz.ntmps201 rfl fun F hF=>by
 unfold An at hl
 have hin:∀ x:Domain,B8 [] (first++[Ar x]++cap)=true:=fun x=>Cn hc rfl
 conv=>whnf
 refine A2 l.length (fun j=>C7 (fun _ x=>!(p x)) l j) (fun j=>[(0,.sl 6 Ar l),(1,.clo (.func f) first cap),(7,Aa l.length),(8,Aa j)]) (fun _=>[]) [] (Ax _ _) ⟨⟨E,E,Bb _,hc,E,E,E,E,Y⟩,Y,E,E⟩ ?_
 intro j hj hI
 refine rg ?_;conv=>whnf
 refine⟨fun h=>?_,fun h=>?_⟩
 ·have h:=of_decide_eq_true h
  have hj2:j<l.length:=by omega
  refine rg ?_;conv=>whnf
  refine⟨E,by omega,by omega,?_⟩
  conv=>whnf
  refine Ds (hf l[j] (List.getElem_mem hj2)) E E E (by simp only[hin];rfl) E E ?_
  refine rg ?_;conv=>whnf
  refine⟨fun h2=>?_,fun h2=>?_⟩
  ·refine rg ?_;conv=>whnf
   refine Ac E (.cons .tmp .nil) (congrArg Aa ?_) E
   exact C9 hj2 (fun i hi hij=>by simpa using hI i hi hij) h2
  ·refine rg ?_;conv=>whnf
   refine⟨by unfold I64;omega,?_⟩
   conv=>whnf
   exact A0 [] hI hj2 (As hI hj2 (by simp[h2])) ⟨⟨E,E,Bb _,hc,E,E,E,E,Y⟩,Y,E,E⟩
 ·have h:=of_decide_eq_false h
  refine rg ?_;conv=>whnf
  refine Ac E (.cons .tmp .nil) (congrArg Aa ?_) E
  exact Dv (fun i hi=>by simpa using hI i hi qn)
theorem Uw (l:List Port) (p:Port→Bool) (f:FuncId) (first cap:List SV) (hc:(SV.clo (.func f) first cap).inn []=true) (hf:∀ x∈l,E9 Tryz.prog f (first++[A6 x]++cap) (Ad (p x))) (hl:An l) :
  Sy.Spec Tryz.prog 332 [.sl 7 A6 l,.clo (.func f) first cap] [] (Aa (Cb p l)) []:=Ab Γ hm 100 F332 Tryz.ntmps332 rfl fun F hF=>by
 unfold An at hl
 have hin:∀ x:Port,B8 [] (first++[A6 x]++cap)=true:=fun x=>Cn hc rfl
 conv=>whnf
 refine A2 l.length (fun j=>C7 (fun _ x=>!(p x)) l j) (fun j=>[(0,.sl 7 A6 l),(1,.clo (.func f) first cap),(7,Aa l.length),(8,Aa j)]) (fun _=>[]) [] (Ax _ _) ⟨⟨E,E,Bb _,hc,E,E,E,E,Y⟩,Y,E,E⟩ ?_
 intro j hj hI
 refine rg ?_;conv=>whnf
 refine⟨fun h=>?_,fun h=>?_⟩
 ·have h:=of_decide_eq_true h
  have hj2:j<l.length:=by omega
  refine rg ?_;conv=>whnf
  refine⟨E,by omega,by omega,?_⟩
  conv=>whnf
  refine Ds (hf l[j] (List.getElem_mem hj2)) E E E (by simp only[hin];rfl) E E ?_
  refine rg ?_;conv=>whnf
  refine⟨fun h2=>?_,fun h2=>?_⟩
  ·refine rg ?_;conv=>whnf
   refine Ac E (.cons .tmp .nil) (congrArg Aa ?_) E
   exact C9 hj2 (fun i hi hij=>by simpa using hI i hi hij) h2
  ·refine rg ?_;conv=>whnf
   refine⟨by unfold I64;omega,?_⟩
   conv=>whnf
   exact A0 [] hI hj2 (As hI hj2 (by simp[h2])) ⟨⟨E,E,Bb _,hc,E,E,E,E,Y⟩,Y,E,E⟩
 ·have h:=of_decide_eq_false h
  refine rg ?_;conv=>whnf
  refine Ac E (.cons .tmp .nil) (congrArg Aa ?_) E
  exact Dv (fun i hi=>by simpa using hI i hi qn)
theorem Aji (l:List Port) (p:Nat→Port→Bool) (f:FuncId) (first cap:List SV) (hc:(SV.clo (.func f) first cap).inn []=true) (hf:∀ i (h:i<l.length),E9 Tryz.prog f (first++[Aa i,A6 l[i]]++cap) (Ad (p i l[i]))) (hl:An l) :
  Sy.Spec Tryz.prog 75 [.sl 7 A6 l,.clo (.func f) first cap] [] (Ad (Cj p l)) []:=Ab Γ hm 100 F75 Tryz.ntmps75 rfl fun F hF=>by
 unfold An at hl
 have hin:∀ (i:Nat) (x:Port),B8 [] (first++[Aa i,A6 x]++cap)=true:=fun i x=>Cn hc rfl
 conv=>whnf
 refine A2 l.length (fun j=>C7 p l j) (fun j=>[(0,.sl 7 A6 l),(1,.clo (.func f) first cap),(7,.sl 7 A6 l),(8,Aa l.length),(9,Aa j)]) (fun _=>[]) [] (Ax _ _) ⟨⟨E,E,Bb _,hc,E,E,E,E,E,E,Y⟩,Y,E,E⟩ ?_
 intro j hj hI
 refine rg ?_;conv=>whnf
 refine⟨fun h=>?_,fun h=>?_⟩
 ·have h:=of_decide_eq_true h
  have hj2:j<l.length:=by omega
  refine rg ?_;conv=>whnf
  refine⟨E,by omega,by omega,?_⟩
  conv=>whnf
  refine Ds (hf j hj2) E E E (by simp only[hin];rfl) E E ?_
  refine rg ?_;conv=>whnf
  refine⟨fun h2=>?_,fun h2=>?_⟩
  ·refine rg ?_;conv=>whnf
   refine Ac E (.cons .tmp .nil) (congrArg Ad ?_) E
   exact A5 hj2 (by simpa using h2)
  ·refine rg ?_;conv=>whnf
   refine⟨by unfold I64;omega,?_⟩
   conv=>whnf
   exact A0 [] hI hj2 (As hI hj2 (by simpa using h2)) ⟨⟨E,E,Bb _,hc,E,E,E,E,E,E,Y⟩,Y,E,E⟩
 ·have h:=of_decide_eq_false h
  refine rg ?_;conv=>whnf
  refine Ac E (.cons .tmp .nil) (congrArg Ad ?_) E
  exact B4 hI qn
theorem Ajj (l:List Link) (p:Nat→Link→Bool) (f:FuncId) (first cap:List SV) (hc:(SV.clo (.func f) first cap).inn []=true) (hf:∀ i (h:i<l.length),E9 Tryz.prog f (first++[Aa i,Ce l[i]]++cap) (Ad (p i l[i]))) (hl:An l) :
  Sy.Spec Tryz.prog 77 [.sl 3 Ce l,.clo (.func f) first cap] [] (Ad (Cj p l)) []:=Ab Γ hm 100 F77 Tryz.ntmps77 rfl fun F hF=>by
 unfold An at hl
 have hin:∀ (i:Nat) (x:Link),B8 [] (first++[Aa i,Ce x]++cap)=true:=fun i x=>Cn hc rfl
 conv=>whnf
 refine A2 l.length (fun j=>C7 p l j) (fun j=>[(0,.sl 3 Ce l),(1,.clo (.func f) first cap),(7,.sl 3 Ce l),(8,Aa l.length),(9,Aa j)]) (fun _=>[]) [] (Ax _ _) ⟨⟨E,E,Bb _,hc,E,E,E,E,E,E,Y⟩,Y,E,E⟩ ?_
 intro j hj hI
 refine rg ?_;conv=>whnf
 refine⟨fun h=>?_,fun h=>?_⟩
 ·have h:=of_decide_eq_true h
  have hj2:j<l.length:=by omega
  refine rg ?_;conv=>whnf
  refine⟨E,by omega,by omega,?_⟩
  conv=>whnf
  refine Ds (hf j hj2) E E E (by simp only[hin];rfl) E E ?_
  refine rg ?_;conv=>whnf
  refine⟨fun h2=>?_,fun h2=>?_⟩
  ·refine rg ?_;conv=>whnf
   refine Ac E (.cons .tmp .nil) (congrArg Ad ?_) E
   exact A5 hj2 (by simpa using h2)
  ·refine rg ?_;conv=>whnf
   refine⟨by unfold I64;omega,?_⟩
   conv=>whnf
   exact A0 [] hI hj2 (As hI hj2 (by simpa using h2)) ⟨⟨E,E,Bb _,hc,E,E,E,E,E,E,Y⟩,Y,E,E⟩
 ·have h:=of_decide_eq_false h
  refine rg ?_;conv=>whnf
  refine Ac E (.cons .tmp .nil) (congrArg Ad ?_) E
  exact B4 hI qn
theorem Ur (l:List Domain) (p:Nat→Domain→Bool) (f:FuncId) (first cap:List SV) (hc:(SV.clo (.func f) first cap).inn []=true) (hf:∀ i (h:i<l.length),E9 Tryz.prog f (first++[Aa i,Ar l[i]]++cap) (Ad (p i l[i]))) (hl:An l) :
  Sy.Spec Tryz.prog 72 [.sl 6 Ar l,.clo (.func f) first cap] [] (Ad (Cj p l)) []:=Ab Γ hm 100 F72 Tryz.ntmps72 rfl fun F hF=>by
 unfold An at hl
 have hin:∀ (i:Nat) (x:Domain),B8 [] (first++[Aa i,Ar x]++cap)=true:=fun i x=>Cn hc rfl
 conv=>whnf
 refine A2 l.length (fun j=>C7 p l j) (fun j=>[(0,.sl 6 Ar l),(1,.clo (.func f) first cap),(7,.sl 6 Ar l),(8,Aa l.length),(9,Aa j)]) (fun _=>[]) [] (Ax _ _) ⟨⟨E,E,Bb _,hc,E,E,E,E,E,E,Y⟩,Y,E,E⟩ ?_
 intro j hj hI
 refine rg ?_;conv=>whnf
 refine⟨fun h=>?_,fun h=>?_⟩
 ·have h:=of_decide_eq_true h
  have hj2:j<l.length:=by omega
  refine rg ?_;conv=>whnf
  refine⟨E,by omega,by omega,?_⟩
  conv=>whnf
  refine Ds (hf j hj2) E E E (by simp only[hin];rfl) E E ?_
  refine rg ?_;conv=>whnf
  refine⟨fun h2=>?_,fun h2=>?_⟩
  ·refine rg ?_;conv=>whnf
   refine Ac E (.cons .tmp .nil) (congrArg Ad ?_) E
   exact A5 hj2 (by simpa using h2)
  ·refine rg ?_;conv=>whnf
   refine⟨by unfold I64;omega,?_⟩
   conv=>whnf
   exact A0 [] hI hj2 (As hI hj2 (by simpa using h2)) ⟨⟨E,E,Bb _,hc,E,E,E,E,E,E,Y⟩,Y,E,E⟩
 ·have h:=of_decide_eq_false h
  refine rg ?_;conv=>whnf
  refine Ac E (.cons .tmp .nil) (congrArg Ad ?_) E
  exact B4 hI qn
theorem Adu (l:List Static) (p:Nat→Static→Bool) (f:FuncId) (first cap:List SV) (hc:(SV.clo (.func f) first cap).inn []=true) (hf:∀ i (h:i<l.length),E9 Tryz.prog f (first++[Aa i,Bh l[i]]++cap) (Ad (p i l[i]))) (hl:An l) :
  Sy.Spec Tryz.prog 79 [.sl 4 Bh l,.clo (.func f) first cap] [] (Ad (Cj p l)) []:=Ab Γ hm 100 F79 Tryz.ntmps79 rfl fun F hF=>by
 unfold An at hl
 have hin:∀ (i:Nat) (x:Static),B8 [] (first++[Aa i,Bh x]++cap)=true:=fun i x=>Cn hc rfl
 conv=>whnf
 refine A2 l.length (fun j=>C7 p l j) (fun j=>[(0,.sl 4 Bh l),(1,.clo (.func f) first cap),(7,.sl 4 Bh l),(8,Aa l.length),(9,Aa j)]) (fun _=>[]) [] (Ax _ _) ⟨⟨E,E,Bb _,hc,E,E,E,E,E,E,Y⟩,Y,E,E⟩ ?_
 intro j hj hI
 refine rg ?_;conv=>whnf
 refine⟨fun h=>?_,fun h=>?_⟩
 ·have h:=of_decide_eq_true h
  have hj2:j<l.length:=by omega
  refine rg ?_;conv=>whnf
  refine⟨E,by omega,by omega,?_⟩
  conv=>whnf
  refine Ds (hf j hj2) E E E (by simp only[hin];rfl) E E ?_
  refine rg ?_;conv=>whnf
  refine⟨fun h2=>?_,fun h2=>?_⟩
  ·refine rg ?_;conv=>whnf
   refine Ac E (.cons .tmp .nil) (congrArg Ad ?_) E
   exact A5 hj2 (by simpa using h2)
  ·refine rg ?_;conv=>whnf
   refine⟨by unfold I64;omega,?_⟩
   conv=>whnf
   exact A0 [] hI hj2 (As hI hj2 (by simpa using h2)) ⟨⟨E,E,Bb _,hc,E,E,E,E,E,E,Y⟩,Y,E,E⟩
 ·have h:=of_decide_eq_false h
  refine rg ?_;conv=>whnf
  refine Ac E (.cons .tmp .nil) (congrArg Ad ?_) E
  exact B4 hI qn
theorem Af4 (l:List Flood) (p:Nat→Flood→Bool) (f:FuncId) (first cap:List SV) (hc:(SV.clo (.func f) first cap).inn []=true) (hf:∀ i (h:i<l.length),E9 Tryz.prog f (first++[Aa i,Bv l[i]]++cap) (Ad (p i l[i]))) (hl:An l) :
  Sy.Spec Tryz.prog 81 [.sl 4 Bv l,.clo (.func f) first cap] [] (Ad (Cj p l)) []:=Ab Γ hm 100 F81 Tryz.ntmps81 rfl fun F hF=>by
 unfold An at hl
 have hin:∀ (i:Nat) (x:Flood),B8 [] (first++[Aa i,Bv x]++cap)=true:=fun i x=>Cn hc rfl
 conv=>whnf
 refine A2 l.length (fun j=>C7 p l j) (fun j=>[(0,.sl 4 Bv l),(1,.clo (.func f) first cap),(7,.sl 4 Bv l),(8,Aa l.length),(9,Aa j)]) (fun _=>[]) [] (Ax _ _) ⟨⟨E,E,Bb _,hc,E,E,E,E,E,E,Y⟩,Y,E,E⟩ ?_
 intro j hj hI
 refine rg ?_;conv=>whnf
 refine⟨fun h=>?_,fun h=>?_⟩
 ·have h:=of_decide_eq_true h
  have hj2:j<l.length:=by omega
  refine rg ?_;conv=>whnf
  refine⟨E,by omega,by omega,?_⟩
  conv=>whnf
  refine Ds (hf j hj2) E E E (by simp only[hin];rfl) E E ?_
  refine rg ?_;conv=>whnf
  refine⟨fun h2=>?_,fun h2=>?_⟩
  ·refine rg ?_;conv=>whnf
   refine Ac E (.cons .tmp .nil) (congrArg Ad ?_) E
   exact A5 hj2 (by simpa using h2)
  ·refine rg ?_;conv=>whnf
   refine⟨by unfold I64;omega,?_⟩
   conv=>whnf
   exact A0 [] hI hj2 (As hI hj2 (by simpa using h2)) ⟨⟨E,E,Bb _,hc,E,E,E,E,E,E,Y⟩,Y,E,E⟩
 ·have h:=of_decide_eq_false h
  refine rg ?_;conv=>whnf
  refine Ac E (.cons .tmp .nil) (congrArg Ad ?_) E
  exact B4 hI qn
theorem Amk (l:List Vrf) (p:Nat→Vrf→Bool) (f:FuncId) (first cap:List SV) (hc:(SV.clo (.func f) first cap).inn []=true) (hf:∀ i (h:i<l.length),E9 Tryz.prog f (first++[Aa i,Cq l[i]]++cap) (Ad (p i l[i]))) (hl:An l) :
  Sy.Spec Tryz.prog 84 [.sl 5 Cq l,.clo (.func f) first cap] [] (Ad (Cj p l)) []:=Ab Γ hm 100 F84 Tryz.ntmps84 rfl fun F hF=>by
 unfold An at hl
 have hin:∀ (i:Nat) (x:Vrf),B8 [] (first++[Aa i,Cq x]++cap)=true:=fun i x=>Cn hc rfl
 conv=>whnf
 refine A2 l.length (fun j=>C7 p l j) (fun j=>[(0,.sl 5 Cq l),(1,.clo (.func f) first cap),(7,.sl 5 Cq l),(8,Aa l.length),(9,Aa j)]) (fun _=>[]) [] (Ax _ _) ⟨⟨E,E,Bb _,hc,E,E,E,E,E,E,Y⟩,Y,E,E⟩ ?_
 intro j hj hI
 refine rg ?_;conv=>whnf
 refine⟨fun h=>?_,fun h=>?_⟩
 ·have h:=of_decide_eq_true h
  have hj2:j<l.length:=by omega
  refine rg ?_;conv=>whnf
  refine⟨E,by omega,by omega,?_⟩
  conv=>whnf
  refine Ds (hf j hj2) E E E (by simp only[hin];rfl) E E ?_
  refine rg ?_;conv=>whnf
  refine⟨fun h2=>?_,fun h2=>?_⟩
  ·refine rg ?_;conv=>whnf
   refine Ac E (.cons .tmp .nil) (congrArg Ad ?_) E
   exact A5 hj2 (by simpa using h2)
  ·refine rg ?_;conv=>whnf
   refine⟨by unfold I64;omega,?_⟩
   conv=>whnf
   exact A0 [] hI hj2 (As hI hj2 (by simpa using h2)) ⟨⟨E,E,Bb _,hc,E,E,E,E,E,E,Y⟩,Y,E,E⟩
 ·have h:=of_decide_eq_false h
  refine rg ?_;conv=>whnf
  refine Ac E (.cons .tmp .nil) (congrArg Ad ?_) E
  exact B4 hI qn
theorem Aml (l:List Irb) (p:Nat→Irb→Bool) (f:FuncId) (first cap:List SV) (hc:(SV.clo (.func f) first cap).inn []=true) (hf:∀ i (h:i<l.length),E9 Tryz.prog f (first++[Aa i,Cd l[i]]++cap) (Ad (p i l[i]))) (hl:An l) :
  Sy.Spec Tryz.prog 87 [.sl 5 Cd l,.clo (.func f) first cap] [] (Ad (Cj p l)) []:=Ab Γ hm 100 F87 Tryz.ntmps87 rfl fun F hF=>by
 unfold An at hl
 have hin:∀ (i:Nat) (x:Irb),B8 [] (first++[Aa i,Cd x]++cap)=true:=fun i x=>Cn hc rfl
 conv=>whnf
 refine A2 l.length (fun j=>C7 p l j) (fun j=>[(0,.sl 5 Cd l),(1,.clo (.func f) first cap),(7,.sl 5 Cd l),(8,Aa l.length),(9,Aa j)]) (fun _=>[]) [] (Ax _ _) ⟨⟨E,E,Bb _,hc,E,E,E,E,E,E,Y⟩,Y,E,E⟩ ?_
 intro j hj hI
 refine rg ?_;conv=>whnf
 refine⟨fun h=>?_,fun h=>?_⟩
 ·have h:=of_decide_eq_true h
  have hj2:j<l.length:=by omega
  refine rg ?_;conv=>whnf
  refine⟨E,by omega,by omega,?_⟩
  conv=>whnf
  refine Ds (hf j hj2) E E E (by simp only[hin];rfl) E E ?_
  refine rg ?_;conv=>whnf
  refine⟨fun h2=>?_,fun h2=>?_⟩
  ·refine rg ?_;conv=>whnf
   refine Ac E (.cons .tmp .nil) (congrArg Ad ?_) E
   exact A5 hj2 (by simpa using h2)
  ·refine rg ?_;conv=>whnf
   refine⟨by unfold I64;omega,?_⟩
   conv=>whnf
   exact A0 [] hI hj2 (As hI hj2 (by simpa using h2)) ⟨⟨E,E,Bb _,hc,E,E,E,E,E,E,Y⟩,Y,E,E⟩
 ·have h:=of_decide_eq_false h
  refine rg ?_;conv=>whnf
  refine Ac E (.cons .tmp .nil) (congrArg Ad ?_) E
  exact B4 hI qn
theorem Amj (l:List Int) (p:Nat→Int→Bool) (f:FuncId) (first cap:List SV) (hc:(SV.clo (.func f) first cap).inn []=true) (hf:∀ i (h:i<l.length),E9 Tryz.prog f (first++[Aa i,Aa l[i]]++cap) (Ad (p i l[i]))) (hl:An l) :
  Sy.Spec Tryz.prog 139 [.sl 1 Aa l,.clo (.func f) first cap] [] (Ad (Cj p l)) []:=Ab Γ hm 100 F139 Tryz.ntmps139 rfl fun F hF=>by
 unfold An at hl
 have hin:∀ (i:Nat) (x:Int),B8 [] (first++[Aa i,Aa x]++cap)=true:=fun i x=>Cn hc rfl
 conv=>whnf
 refine A2 l.length (fun j=>C7 p l j) (fun j=>[(0,.sl 1 Aa l),(1,.clo (.func f) first cap),(7,.sl 1 Aa l),(8,Aa l.length),(9,Aa j)]) (fun _=>[]) [] (Ax _ _) ⟨⟨E,E,Bb _,hc,E,E,E,E,E,E,Y⟩,Y,E,E⟩ ?_
 intro j hj hI
 refine rg ?_;conv=>whnf
 refine⟨fun h=>?_,fun h=>?_⟩
 ·have h:=of_decide_eq_true h
  have hj2:j<l.length:=by omega
  refine rg ?_;conv=>whnf
  refine⟨E,by omega,by omega,?_⟩
  conv=>whnf
  refine Ds (hf j hj2) E E E (by simp only[hin];rfl) E E ?_
  refine rg ?_;conv=>whnf
  refine⟨fun h2=>?_,fun h2=>?_⟩
  ·refine rg ?_;conv=>whnf
   refine Ac E (.cons .tmp .nil) (congrArg Ad ?_) E
   exact A5 hj2 (by simpa using h2)
  ·refine rg ?_;conv=>whnf
   refine⟨by unfold I64;omega,?_⟩
   conv=>whnf
   exact A0 [] hI hj2 (As hI hj2 (by simpa using h2)) ⟨⟨E,E,Bb _,hc,E,E,E,E,E,E,Y⟩,Y,E,E⟩
 ·have h:=of_decide_eq_false h
  refine rg ?_;conv=>whnf
  refine Ac E (.cons .tmp .nil) (congrArg Ad ?_) E
  exact B4 hI qn
structure Net.Fin (n:Net):Prop where
 devices:An n.devices
 ports:An n.ports
 links:An n.links
 domains:An n.domains
 statics:An n.statics
 floods:An n.floods
 vrfs:An n.vrfs
 irbs:An n.irbs
 tagged:∀ p∈n.ports,An p.tagged
 peers:∀ d∈n.domains,An d.peers
 addrs:∀ f∈n.floods,An f.addrs
 imports:∀ v∈n.vrfs,An v.imports
 exports:∀ v∈n.vrfs,An v.exports
def Tz (n:Net) (dev vlan:Int):Int:=Cb (fun d=>d.dev == dev && d.vlan == vlan) n.domains
theorem An0 (dev vlan:Int) (d:Domain):Sy.Spec Tryz.prog 202 [Ar d,.ref 1 (Aa dev) 0,.ref 1 (Aa vlan) 0] [] (Ad (d.dev == dev && d.vlan == vlan)) []:=Ab Γ hm 100 F202 Tryz.ntmps202 rfl fun F hF=>by
 conv=>whnf
 (repeat' (first | (refine⟨fun h=>?_,fun h=>?_⟩<;>(repeat (first | simp only[beq_iff_eq]at h | simp only[beq_eq_false_iff_ne]at h))<;>((refine rg ?_);(conv=>whnf))) | (refine Ac rfl (.cons .tmp .nil) ?_ rfl)))
 all_goals (refine congrArg Ad ?_)
 all_goals simp_all
theorem Kt (n:Net) (dev vlan:Int) (hl:An n.domains):Sy.Spec Tryz.prog 138 [Ap n,Aa dev,Aa vlan] [] (Aa (Tz n dev vlan)) []:=Ab Γ hm 100 F138 Tryz.ntmps138 rfl fun F hF=>by
 conv=>whnf
 refine Be 4 1 (Aa dev) E E E ?_
 refine Be 5 1 (Aa vlan) E E E ?_
 refine Ag (E4 n.domains (fun d=>d.dev == dev && d.vlan == vlan) 202 [] [.ref 1 (Aa dev) 0,.ref 1 (Aa vlan) 0] E (fun d _=>⟨⟨_,_,F202⟩,An0 dev vlan d⟩) hl) F201 E E E E E ?_
 refine rg ?_;conv=>whnf
 exact Ac E (.cons .tmp .nil) E E
def Afo (n:Net):Bool:=decide (n.devices.length≤8) && decide (n.ports.length≤40) && decide (n.links.length≤20) && decide (n.domains.length≤48) && decide (n.statics.length≤64) && decide (n.floods.length≤48) && decide (n.vrfs.length≤16) && decide (n.irbs.length≤48)
theorem fewS (n:Net):Sy.Spec Tryz.prog 71 [Ap n] [] (Ad (Afo n)) []:=Ab Γ hm 100 F71 Tryz.ntmps71 rfl fun F hF=>by
 conv=>whnf
 (repeat' (first | (refine⟨fun h=>?_,fun h=>?_⟩<;>(repeat (first | simp only[decide_eq_true_eq]at h | simp only[decide_eq_false_iff_not]at h))<;>((refine rg ?_);(conv=>whnf);repeat((refine aF ?_);(refine rg ?_);(conv=>whnf)))) | (refine Ac rfl (.cons .tmp .nil) ?_ rfl)))
 all_goals (refine congrArg Ad ?_)
 all_goals (unfold Afo;rw[Bool.eq_iff_iff];simp;omega)
def E8 (n:Net) (i:Nat) (d:Domain):Bool :=
 Ak d.dev n.devices.length && decide (1≤d.vlan) && decide (d.vlan≤4094) && decide (0≤d.vni) && decide (d.vni≤16777215) && (d.irb == -1 || Ak d.irb n.irbs.length && (nth n.irbs d.irb).domain == i) && Tz n d.dev d.vlan == i
theorem bareS (n:Net) (i:Nat) (d:Domain) (hl:An n.domains):Sy.Spec Tryz.prog 73 [Ap n,Aa i,Ar d] [] (Ad (E8 n i d)) []:=Ab Γ hm 100 F73 Tryz.ntmps73 rfl fun F hF=>by
 conv=>whnf
 (repeat' (first | (refine⟨fun h=>?_,fun h=>?_⟩<;>(repeat (first | simp only[Ak]at h | simp only[decide_eq_true_eq]at h | simp only[decide_eq_false_iff_not]at h | simp only[beq_iff_eq]at h | simp only[beq_eq_false_iff_ne]at h | simp only[Bool.and_eq_true]at h | simp only[Bool.and_eq_false_iff]at h))<;>((refine rg ?_);(conv=>whnf);repeat((first|refine aF ?_|refine aT ?_);(refine rg ?_);(conv=>whnf)))) | (refine Ac rfl (.cons .tmp .nil) ?_ rfl) | (refine⟨qq,?_⟩;((conv=>whnf))) | (refine⟨by (omega),by (omega),?_⟩;((conv=>whnf))) | (refine Ag (Eg 5 Bj n.devices d.dev) F83 rfl rfl rfl rfl rfl ?_;((refine rg ?_);(conv=>whnf))) | (refine Ag (Aes 5 Cd n.irbs d.irb) F137 rfl rfl rfl rfl rfl ?_;((refine rg ?_);(conv=>whnf))) | (refine Ag (Kt n d.dev d.vlan hl) F138 rfl rfl rfl rfl rfl ?_;((refine rg ?_);(conv=>whnf)))))
 all_goals (refine congrArg Ad ?_)
 all_goals (clear hF;grind [E8,Ak,Am])
def Aay (n:Net) (d:Domain):Bool:=(nth n.devices d.dev).vtep != 0
theorem Aog (n:Net) (d:Domain) (hd:Ak d.dev n.devices.length=true):Sy.Spec Tryz.prog 203 [Ap n,Ar d] [] (Ad (Aay n d)) []:=Ab Γ hm 100 F203 Tryz.ntmps203 rfl fun F hF=>by
 simp only[Ak,Bool.and_eq_true,decide_eq_true_eq]at hd
 conv=>whnf
 (repeat' (first | (refine Ac rfl (.cons .tmp .nil) ?_ rfl) | (refine⟨qq,?_⟩;((conv=>whnf))) | (refine⟨by (omega),by (omega),?_⟩;((conv=>whnf)))))
 all_goals (refine congrArg Ad ?_)
 all_goals (clear hF;grind [Aay,Am])
def K8 (n:Net) (i:Nat) (d:Domain) (k:Int):Bool :=
 Ak k n.domains.length && k != i && Ak (nth n.domains k).dev n.devices.length && (nth n.domains k).dev != d.dev && (nth n.domains k).vni == d.vni && d.vni != 0 && Aay n (nth n.domains k) && Aay n d && inB (nth n.domains k).peers i
theorem peerS (n:Net) (i:Nat) (d:Domain) (k:Int) (hn:n.Fin) (hd:Ak d.dev n.devices.length=true):Sy.Spec Tryz.prog 141 [Ap n,Aa i,Ar d,Aa k] [] (Ad (K8 n i d k)) []:=Ab Γ hm 100 F141 Tryz.ntmps141 rfl fun F hF=>by
 conv=>whnf
 (repeat' (first | (refine⟨fun h=>?_,fun h=>?_⟩<;>(repeat (first | simp only[Ak]at h | simp only[decide_eq_true_eq]at h | simp only[decide_eq_false_iff_not]at h | simp only[beq_iff_eq]at h | simp only[beq_eq_false_iff_ne]at h | simp only[bne_iff_ne]at h | simp only[bne_eq_false_iff_eq]at h | simp only[Bool.and_eq_true]at h | simp only[Bool.and_eq_false_iff]at h | simp only[Bool.not_eq_true']at h | simp only[Bool.not_eq_false']at h))<;>((refine rg ?_);(conv=>whnf);repeat((first|refine aF ?_|refine aT ?_);(refine rg ?_);(conv=>whnf)))) | (refine Ac rfl (.cons .tmp .nil) ?_ rfl) | (refine⟨qq,?_⟩;((conv=>whnf))) | (refine⟨by (omega),by (omega),?_⟩;((conv=>whnf))) | (refine Ag (Hg 6 Ar n.domains k) F92 rfl rfl rfl rfl rfl ?_;((refine rg ?_);(conv=>whnf))) | (refine Ag (Eg 5 Bj n.devices (n.domains[k.toNat]'qn).dev) F83 rfl rfl rfl rfl rfl ?_;((refine rg ?_);(conv=>whnf))) | (refine Ag (Aog n (n.domains[k.toNat]'qn) (by simp only[Ak,Bool.and_eq_true,decide_eq_true_eq];omega)) F203 rfl rfl rfl rfl rfl ?_;((refine rg ?_);(conv=>whnf))) | (refine Ag (Aog n d hd) F203 rfl rfl rfl rfl rfl ?_;((refine rg ?_);(conv=>whnf))) | (refine Ag (Ct (n.domains[k.toNat]'qn).peers i (hn.peers _ (List.getElem_mem _))) F25 rfl rfl rfl rfl rfl ?_;((refine rg ?_);(conv=>whnf)))))
 all_goals (refine congrArg Ad ?_;clear hF;grind [K8,Ak,Am])
def Lt (n:Net) (i:Nat) (d:Domain):Bool:=Cj (fun at_ k=>K8 n i d k && Cb (· == k) d.peers == at_) d.peers
theorem peers1 (n:Net) (i:Nat) (d:Domain) (at_:Nat) (k:Int) (hn:n.Fin) (hp:An d.peers) (hd:Ak d.dev n.devices.length=true) :
  Sy.Spec Tryz.prog 140 [Aa at_,Aa k,.ref 8 (Ap n) 0,.ref 1 (Aa i) 0,.ref 6 (Ar d) 0] [] (Ad (K8 n i d k && Cb (· == k) d.peers == at_)) []:=Ab Γ hm 100 F140 Tryz.ntmps140 rfl fun F hF=>by
 conv=>whnf
 (repeat' (first | (refine⟨fun h=>?_,fun h=>?_⟩<;>((refine rg ?_);(conv=>whnf))) | (refine Ac rfl (.cons .tmp .nil) ?_ rfl) | (refine Ag (peerS n i d k hn hd) F141 rfl rfl rfl rfl rfl ?_;((refine rg ?_);(conv=>whnf))) | (refine Ag (Alm d.peers k hp) F91 rfl rfl rfl rfl rfl ?_;((refine rg ?_);(conv=>whnf)))))
 all_goals (refine congrArg Ad ?_;clear hF;grind)
theorem peersS (n:Net) (i:Nat) (d:Domain) (hn:n.Fin) (hp:An d.peers) (hd:Ak d.dev n.devices.length=true):Sy.Spec Tryz.prog 74 [Ap n,Aa i,Ar d] [] (Ad (Lt n i d)) []:=Ab Γ hm 100 F74 Tryz.ntmps74 rfl fun F hF=>by
 conv=>whnf
 refine Be 3 8 (Ap n) E E E ?_
 refine Be 4 1 (Aa i) E E E ?_
 refine Be 5 6 (Ar d) E E E ?_
 refine Ag (Amj d.peers (fun at_ k=>K8 n i d k && Cb (· == k) d.peers == at_) 140 [] [.ref 8 (Ap n) 0,.ref 1 (Aa i) 0,.ref 6 (Ar d) 0] E (fun a ha=>⟨⟨_,_,F140⟩,peers1 n i d a d.peers[a] hn hp hd⟩) hp) F139 E E E E E ?_
 refine rg ?_;conv=>whnf
 exact Ac E (.cons .tmp .nil) E E
end Go.Sy.YteinjapglfkamaaGreat
namespace Go.Sy.YteinjapglfkamaaGreat
open Go.Proofs
def Qr {α:Type} (l:List α) (j:Nat):List α:=List.ofFn fun i:Fin l.length=>if i.1<j∨l.length-j≤i.1 then l[l.length-1-i.1] else l[i.1]
theorem C4 {α:Type} (l:List α) (j:Nat):(Qr l j).length=l.length:=by simp[Qr]
theorem Jt {α:Type} (l:List α) (j i:Nat) (h:i<l.length):(Qr l j)[i]'(by rw[C4];exact h)=if i<j∨l.length-j≤i then l[l.length-1-i] else l[i]:=by simp[Qr]
theorem Ahx {α:Type} (l:List α):Qr l 0=l:=by
 apply List.ext_getElem (C4 l 0)
 intro i h1 h2
 rw[Jt l 0 i h2,if_neg qn]
theorem Akm {α:Type} (l:List α) (j:Nat) (h:l.length≤2 * j+1):Qr l j=l.reverse:=by
 apply List.ext_getElem (by rw[C4,List.length_reverse])
 intro i h1 h2
 have hi:i<l.length:=by rw[C4]at h1;exact h1
 rw[Jt l j i hi,List.getElem_reverse]
 split
 ·rfl
 ·congr 1;omega
theorem Ahy {α:Type} (l:List α) (j:Nat) (h:2 * j+1<l.length) :
  ((Qr l j).set j ((Qr l j)[l.length-1-j]'(by rw[C4];omega))).set (l.length-1-j) ((Qr l j)[j]'(by rw[C4];omega))=Qr l (j+1):=by
 apply List.ext_getElem (by simp only[List.length_set,C4])
 intro i h1 h2
 have hi:i<l.length:=by rw[C4]at h2;exact h2
 rw[List.getElem_set,List.getElem_set,Jt l (j+1) i hi,Jt l j i hi,Jt l j _ qn,Jt l j _ qn]
 by_cases e1:l.length-1-j=i
 ·rw[if_pos e1,if_neg qn,if_pos qn]
  congr 1;omega
 ·rw[if_neg e1]
  by_cases e2:j=i
  ·rw[if_pos e2,if_neg qn,if_pos qn]
   congr 1;omega
  ·rw[if_neg e2]
   by_cases e3:i<j∨l.length-j≤i
   ·rw[if_pos e3,if_pos qn]
   ·rw[if_neg e3,if_neg qn]
theorem Ahz {α:Type} {l u:List α} {j k:Nat} (hu:Qr l j=u) (h:2 * j+1<l.length) (hk:l.length-1-j=k) (h1:k<u.length) (h2:j<u.length):(u.set j u[k]).set k u[j]=Qr l (j+1):=by
 subst hu hk
 exact Ahy l j h
end Go.Sy.YteinjapglfkamaaGreat
namespace Go.Sy.YteinjapglfkamaaGreat
open Go.Proofs
attribute [local irreducible] Go.Sy.G Go.Sy.DR
set_option maxRecDepth 20000
set_option maxHeartbeats 4000000
def Bw (n:Net) (dev vlan:Int):Bool:=decide (0≤Tz n dev vlan)
def Ef (n:Net) (i:Nat) (p:Port):Bool :=
 Ak p.dev n.devices.length && decide (0≤p.native) && decide (p.native≤4094) && (decide (p.tagged.length=0) || C3 p.tagged 1 4094) && !inB p.tagged p.native && !(p.native == 0 && decide (p.tagged.length=0)) &&
  Cj (fun _ v=>Bw n p.dev v) p.tagged && !(decide (0<p.native) && !Bw n p.dev p.native) &&
  (p.link == -1 || Ak p.link n.links.length && ((nth n.links p.link).a == i || (nth n.links p.link).b == i))
theorem Ae9 (n:Net) (i:Nat) (p:Port) (hn:n.Fin) (hp:An p.tagged):Sy.Spec Tryz.prog 76 [Ap n,Aa i,A6 p] [] (Ad (Ef n i p)) []:=Ab Γ hm 100 F76 Tryz.ntmps76 rfl fun F hF=>by
 conv=>whnf
 (repeat' (first | (refine⟨fun h=>?_,fun h=>?_⟩<;>(repeat (first | simp only[Ak]at h | simp only[decide_eq_true_eq]at h | simp only[decide_eq_false_iff_not]at h | simp only[beq_iff_eq]at h | simp only[beq_eq_false_iff_ne]at h | simp only[Bool.and_eq_true]at h | simp only[Bool.or_eq_true]at h | simp only[Bool.and_eq_false_iff]at h | simp only[Bool.or_eq_false_iff]at h | simp only[Bool.not_eq_true']at h | simp only[Bool.not_eq_false']at h))<;>((refine rg ?_);(conv=>whnf);repeat((first|refine aF ?_|refine aT ?_);(refine rg ?_);(conv=>whnf)))) | (refine Ac rfl (.cons .tmp .nil) ?_ rfl) | (refine Ag (Eg 5 Bj n.devices p.dev) F83 rfl rfl rfl rfl rfl ?_;((refine rg ?_);(conv=>whnf))) | (refine Ag (Zo p.tagged 4094 hp) F86 rfl rfl rfl rfl rfl ?_;((refine rg ?_);(conv=>whnf))) | (refine Ag (Ct p.tagged p.native hp) F25 rfl rfl rfl rfl rfl ?_;((refine rg ?_);(conv=>whnf)))))
 all_goals first | (refine congrArg Ad ?_;clear hF;grind [Ef,Ak]) | skip
 all_goals (
  refine Be 3 8 (Ap n) E E E ?_
  refine Be 5 7 (A6 p) E E E ?_
  refine A2 p.tagged.length (fun j=>C7 (fun _ v=>Bw n p.dev v) p.tagged j) (fun j=>[(1,Aa i),(3,.ref 8 (Ap n) 0),(5,.ref 7 (A6 p) 0),(51,.sl 1 Aa p.tagged),(52,Aa p.tagged.length),(53,Aa j)]) (fun _=>[]) [] (Ax _ _) ⟨⟨E,E,E,E,E,E,E,E,E,E,E,E,Y⟩,Y,E,E⟩ ?_
  intro j hj hI
  have hsh:=hp
  unfold An at hsh
  ((first|refine rG Γ hm ?_|refine rD Γ hm qq ?_);(conv=>whnf);repeat((first|refine aF ?_|refine aT ?_);(first|refine rG Γ hm ?_|refine rD Γ hm qq ?_);conv=>whnf)))
 all_goals (
  (repeat' (first | (refine⟨fun h=>?_,fun h=>?_⟩<;>(repeat (first | simp only[Ak]at h | simp only[decide_eq_true_eq]at h | simp only[decide_eq_false_iff_not]at h | simp only[beq_iff_eq]at h | simp only[beq_eq_false_iff_ne]at h | simp only[Bool.and_eq_true]at h | simp only[Bool.and_eq_false_iff]at h))<;>((refine rg ?_);(conv=>whnf);repeat((refine aF ?_);(refine rg ?_);(conv=>whnf)))) | (refine Ac rfl (.cons .tmp .nil) ?_ rfl) | (refine⟨qq,?_⟩;((conv=>whnf))) | (refine⟨by (omega),by (omega),?_⟩;((conv=>whnf))) | (refine⟨by (unfold I64;omega),?_⟩;((conv=>whnf))) | (refine Ag (Kt n p.dev (p.tagged[j]'qn) hn.domains) F138 rfl rfl rfl rfl rfl ?_;((refine rg ?_);(conv=>whnf))) | (refine Ag (Kt n p.dev p.native hn.domains) F138 rfl rfl rfl rfl rfl ?_;((refine rg ?_);(conv=>whnf))) | (refine Ag (Abz 3 Ce n.links p.link) F142 rfl rfl rfl rfl rfl ?_;((refine rg ?_);(conv=>whnf))) | refine A0 [] hI qn ?_ ⟨⟨rfl,rfl,rfl,rfl,rfl,rfl,rfl,rfl,rfl,rfl,rfl,rfl,trivial⟩,trivial,rfl,rfl⟩)))
 all_goals first
  | exact As hI qn (by simp only[Bw,decide_eq_true_eq];omega)
  | (refine congrArg Ad ?_
     have h0:Cj (fun _ v=>Bw n p.dev v) p.tagged=false:=A5 (i:=j) qn (by simp only[Bw,decide_eq_false_iff_not];omega)
     clear hF hI;grind [Ef])
  | (refine congrArg Ad ?_
     have h0:Cj (fun _ v=>Bw n p.dev v) p.tagged=true:=B4 hI qn
     clear hF hI;grind [Ef,Ak,Bw,Am])
def J1 (n:Net) (i:Nat) (l:Link):Bool :=
 Ak l.a n.ports.length && Ak l.b n.ports.length && (nth n.ports l.a).dev != (nth n.ports l.b).dev && (nth n.ports l.a).link == i && (nth n.ports l.b).link == i
theorem Afa (n:Net) (i:Nat) (l:Link):Sy.Spec Tryz.prog 78 [Ap n,Aa i,Ce l] [] (Ad (J1 n i l)) []:=Ab Γ hm 100 F78 Tryz.ntmps78 rfl fun F hF=>by
 conv=>whnf
 (repeat' (first | (refine⟨fun h=>?_,fun h=>?_⟩<;>(repeat (first | simp only[Ak]at h | simp only[decide_eq_true_eq]at h | simp only[decide_eq_false_iff_not]at h | simp only[beq_iff_eq]at h | simp only[beq_eq_false_iff_ne]at h | simp only[bne_iff_ne]at h | simp only[bne_eq_false_iff_eq]at h | simp only[Bool.and_eq_true]at h | simp only[Bool.and_eq_false_iff]at h | simp only[Bool.not_eq_true']at h | simp only[Bool.not_eq_false']at h))<;>((refine rg ?_);(conv=>whnf);repeat((first|refine aF ?_|refine aT ?_);(refine rg ?_);(conv=>whnf)))) | (refine Ac rfl (.cons .tmp .nil) ?_ rfl) | (refine⟨qq,?_⟩;((conv=>whnf))) | (refine⟨by (omega),by (omega),?_⟩;((conv=>whnf))) | (refine Ag (Ls 7 A6 n.ports l.a) F143 rfl rfl rfl rfl rfl ?_;((refine rg ?_);(conv=>whnf))) | (refine Ag (Ls 7 A6 n.ports l.b) F143 rfl rfl rfl rfl rfl ?_;((refine rg ?_);(conv=>whnf)))))
 all_goals (refine congrArg Ad ?_;clear hF;grind [J1,Ak,Am])
def Ej (n:Net) (s:Static):Bool :=
 Ak s.domain n.domains.length && Ak s.port n.ports.length && (nth n.ports s.port).dev == (nth n.domains s.domain).dev && Dm (nth n.ports s.port) (nth n.domains s.domain).vlan
theorem Z6 (n:Net) (i:Nat) (s:Static) (hn:n.Fin):Sy.Spec Tryz.prog 80 [Ap n,Aa i,Bh s] [] (Ad (Ej n s)) []:=Ab Γ hm 100 F80 Tryz.ntmps80 rfl fun F hF=>by
 conv=>whnf
 (repeat' (first | (refine⟨fun h=>?_,fun h=>?_⟩<;>(repeat (first | simp only[Ak]at h | simp only[decide_eq_true_eq]at h | simp only[decide_eq_false_iff_not]at h | simp only[beq_iff_eq]at h | simp only[beq_eq_false_iff_ne]at h | simp only[Bool.and_eq_true]at h | simp only[Bool.and_eq_false_iff]at h | simp only[Bool.not_eq_true']at h | simp only[Bool.not_eq_false']at h))<;>((refine rg ?_);(conv=>whnf);repeat((refine aT ?_);(refine rg ?_);(conv=>whnf)))) | (refine Ac rfl (.cons .tmp .nil) ?_ rfl) | (refine⟨qq,?_⟩;((conv=>whnf))) | (refine⟨by (omega),by (omega),?_⟩;((conv=>whnf))) | (refine Ag (Hg 6 Ar n.domains s.domain) F92 rfl rfl rfl rfl rfl ?_;((refine rg ?_);(conv=>whnf))) | (refine Ag (Ls 7 A6 n.ports s.port) F143 rfl rfl rfl rfl rfl ?_;((refine rg ?_);(conv=>whnf))) | (refine Ag (U5 (n.ports[s.port.toNat]'qn) (n.domains[s.domain.toNat]'qn).vlan (hn.tagged _ (List.getElem_mem _))) F93 rfl rfl rfl rfl rfl ?_;((refine rg ?_);(conv=>whnf)))))
 all_goals (refine congrArg Ad ?_;clear hF;grind [Ej,Ak,Am])
def Uv (n:Net) (i:Nat) (x:Irb):Bool :=
 Ak x.domain n.domains.length && Ak x.vrf n.vrfs.length && (nth n.domains x.domain).dev == (nth n.vrfs x.vrf).dev && (nth n.domains x.domain).irb == i && decide (1≤x.bits) && decide (x.bits≤30)
theorem Aiq (n:Net) (i:Nat) (x:Irb):Sy.Spec Tryz.prog 88 [Ap n,Aa i,Cd x] [] (Ad (Uv n i x)) []:=Ab Γ hm 100 F88 Tryz.ntmps88 rfl fun F hF=>by
 conv=>whnf
 (repeat' (first | (refine⟨fun h=>?_,fun h=>?_⟩<;>(repeat (first | simp only[Ak]at h | simp only[decide_eq_true_eq]at h | simp only[decide_eq_false_iff_not]at h | simp only[beq_iff_eq]at h | simp only[beq_eq_false_iff_ne]at h | simp only[Bool.and_eq_true]at h | simp only[Bool.and_eq_false_iff]at h))<;>((refine rd qq ?_);(conv=>whnf);repeat((refine aF ?_);(refine rd qq ?_);(conv=>whnf)))) | (refine Ac rfl (.cons .tmp .nil) ?_ rfl) | (refine⟨qq,?_⟩;((conv=>whnf))) | (refine⟨by (omega),by (omega),?_⟩;((conv=>whnf))) | (refine Au (Hg 6 Ar n.domains x.domain) F92 rfl rfl rfl qq rfl ?_;((refine rd qq ?_);(conv=>whnf))) | (refine Au (Aer 5 Cq n.vrfs x.vrf) F145 rfl rfl rfl qq rfl ?_;((refine rd qq ?_);(conv=>whnf)))))
 all_goals (refine congrArg Ad ?_;clear hF;grind [Uv,Ak,Am])
def Jl (n:Net) (f:Flood):Bool:=Ak f.dev n.devices.length && decide (f.addrs.length≤16)
theorem right1 (n:Net) (i:Nat) (f:Flood):Sy.Spec Tryz.prog 82 [Aa i,Bv f,.ref 8 (Ap n) 0] [] (Ad (Jl n f)) []:=Ab Γ hm 100 F82 Tryz.ntmps82 rfl fun F hF=>by
 conv=>whnf
 (repeat' (first | (refine⟨fun h=>?_,fun h=>?_⟩<;>(repeat (first | simp only[Ak]at h | simp only[decide_eq_true_eq]at h | simp only[decide_eq_false_iff_not]at h | simp only[Bool.and_eq_true]at h | simp only[Bool.and_eq_false_iff]at h))<;>((refine rg ?_);(conv=>whnf))) | (refine Ac rfl (.cons .tmp .nil) ?_ rfl) | (refine Ag (Eg 5 Bj n.devices f.dev) F83 rfl rfl rfl rfl rfl ?_;((refine rg ?_);(conv=>whnf)))))
 all_goals (refine congrArg Ad ?_;clear hF;grind [Jl,Ak])
def Abm (l:List Int) (most:Int):Bool:=decide (l.length=0) || C3 l 1 most
def Xo (n:Net) (v:Vrf):Bool:=Ak v.dev n.devices.length && Abm v.imports 65535 && Abm v.exports 65535
theorem right2 (n:Net) (i:Nat) (v:Vrf) (h1:An v.imports) (h2:An v.exports):Sy.Spec Tryz.prog 85 [Aa i,Cq v,.ref 8 (Ap n) 0] [] (Ad (Xo n v)) []:=Ab Γ hm 100 F85 Tryz.ntmps85 rfl fun F hF=>by
 conv=>whnf
 (repeat' (first | (refine⟨fun h=>?_,fun h=>?_⟩<;>(repeat (first | simp only[Ak]at h | simp only[decide_eq_true_eq]at h | simp only[decide_eq_false_iff_not]at h | simp only[Bool.and_eq_true]at h | simp only[Bool.or_eq_true]at h | simp only[Bool.and_eq_false_iff]at h | simp only[Bool.or_eq_false_iff]at h))<;>((refine rg ?_);(conv=>whnf);repeat((refine aF ?_);(refine rg ?_);(conv=>whnf)))) | (refine Ac rfl (.cons .tmp .nil) ?_ rfl) | (refine Ag (Eg 5 Bj n.devices v.dev) F83 rfl rfl rfl rfl rfl ?_;((refine rg ?_);(conv=>whnf))) | (refine Ag (Zo v.imports 65535 h1) F86 rfl rfl rfl rfl rfl ?_;((refine rg ?_);(conv=>whnf))) | (refine Ag (Zo v.exports 65535 h2) F86 rfl rfl rfl rfl rfl ?_;((refine rg ?_);(conv=>whnf)))))
 all_goals (refine congrArg Ad ?_;clear hF;grind [Xo,Abm,Ak])
def Af (n:Net):Bool :=
 Afo n && Cj (E8 n) n.domains && Cj (Lt n) n.domains && Cj (Ef n) n.ports && Cj (J1 n) n.links && Cj (fun _=>Ej n) n.statics && Cj (fun _=>Jl n) n.floods && Cj (fun _=>Xo n) n.vrfs && Cj (Uv n) n.irbs
theorem Ke {n:Net} (h:Cj (E8 n) n.domains=true) {i:Nat} (hi:i<n.domains.length):Ak n.domains[i].dev n.devices.length=true:=by
 have:=allB_iff.1 h i hi
 simp only[E8,Bool.and_eq_true]at this
 exact this.1.1.1.1.1.1
theorem Bd (n:Net) (hn:n.Fin):Sy.Spec Tryz.prog 23 [Ap n] [] (Ad (Af n)) []:=Ab Γ hm 100 F23 Tryz.ntmps23 rfl fun F hF=>by
 conv=>whnf
 refine Be 1 8 (Ap n) E E E ?_
 (repeat' (first | (refine⟨fun h=>?_,fun h=>?_⟩<;>((refine rg ?_);(conv=>whnf);repeat((refine aF ?_);(refine rg ?_);(conv=>whnf)))) | (refine Ac rfl (.cons .tmp .nil) ?_ rfl) | (refine Ag (fewS n) F71 rfl rfl rfl rfl rfl ?_;((refine rg ?_);(conv=>whnf))) | (refine Ag (Ur n.domains (E8 n) 73 [Ap n] [] rfl (fun i h=>⟨⟨_,_,F73⟩,bareS n i n.domains[i] hn.domains⟩) hn.domains) F72 rfl rfl rfl rfl rfl ?_;((refine rg ?_);(conv=>whnf))) | (refine Ag (Ur n.domains (Lt n) 74 [Ap n] [] rfl (fun i h=>⟨⟨_,_,F74⟩,peersS n i n.domains[i] hn (hn.peers _ (List.getElem_mem _)) (Ke ‹_› h)⟩) hn.domains) F72 rfl rfl rfl rfl rfl ?_;((refine rg ?_);(conv=>whnf))) | (refine Ag (Aji n.ports (Ef n) 76 [Ap n] [] rfl (fun i h=>⟨⟨_,_,F76⟩,Ae9 n i n.ports[i] hn (hn.tagged _ (List.getElem_mem _))⟩) hn.ports) F75 rfl rfl rfl rfl rfl ?_;((refine rg ?_);(conv=>whnf))) | (refine Ag (Ajj n.links (J1 n) 78 [Ap n] [] rfl (fun i h=>⟨⟨_,_,F78⟩,Afa n i n.links[i]⟩) hn.links) F77 rfl rfl rfl rfl rfl ?_;((refine rg ?_);(conv=>whnf))) | (refine Ag (Adu n.statics (fun _=>Ej n) 80 [Ap n] [] rfl (fun i h=>⟨⟨_,_,F80⟩,Z6 n i n.statics[i] hn⟩) hn.statics) F79 rfl rfl rfl rfl rfl ?_;((refine rg ?_);(conv=>whnf))) | (refine Ag (Af4 n.floods (fun _=>Jl n) 82 [] [.ref 8 (Ap n) 0] rfl (fun i h=>⟨⟨_,_,F82⟩,right1 n i n.floods[i]⟩) hn.floods) F81 rfl rfl rfl rfl rfl ?_;((refine rg ?_);(conv=>whnf))) | (refine Ag (Amk n.vrfs (fun _=>Xo n) 85 [] [.ref 8 (Ap n) 0] rfl (fun i h=>⟨⟨_,_,F85⟩,right2 n i n.vrfs[i] (hn.imports _ (List.getElem_mem _)) (hn.exports _ (List.getElem_mem _))⟩) hn.vrfs) F84 rfl rfl rfl rfl rfl ?_;((refine rg ?_);(conv=>whnf))) | (refine Ag (Aml n.irbs (Uv n) 88 [Ap n] [] rfl (fun i h=>⟨⟨_,_,F88⟩,Aiq n i n.irbs[i]⟩) hn.irbs) F87 rfl rfl rfl rfl rfl ?_;((refine rg ?_);(conv=>whnf)))))
 all_goals (refine congrArg Ad ?_)
 all_goals (clear hF;simp_all[Af])
theorem Al4 {n:Net} (h:Af n=true) {i:Nat} (hi:i<n.ports.length):Ef n i n.ports[i]=true:=by
 simp only[Af,Bool.and_eq_true]at h
 exact allB_iff.1 h.1.1.1.1.1.2 i hi
theorem Aol {n:Net} (h:Af n=true) {i:Nat} (hi:i<n.domains.length):E8 n i n.domains[i]=true:=by
 simp only[Af,Bool.and_eq_true]at h
 exact allB_iff.1 h.1.1.1.1.1.1.1.2 i hi
theorem Aok {n:Net} (h:Af n=true):n.devices.length≤8∧n.ports.length≤40∧n.links.length≤20∧n.domains.length≤48∧n.irbs.length≤48:=by
 simp only[Af,Afo,Bool.and_eq_true,decide_eq_true_eq]at h
 omega
theorem Adb {n:Net} (h:Af n=true) {i:Nat} (hi:i<n.domains.length) :
  (0≤n.domains[i].dev∧n.domains[i].dev.toNat<n.devices.length)∧(1≤n.domains[i].vlan∧n.domains[i].vlan≤4094)∧(0≤n.domains[i].vni∧n.domains[i].vni≤16777215)∧(n.domains[i].irb=-1∨0≤n.domains[i].irb∧n.domains[i].irb.toNat<n.irbs.length):=by
 have:=Aol h hi
 simp only[E8,Ak,Bool.and_eq_true,Bool.or_eq_true,decide_eq_true_eq,beq_iff_eq]at this
 omega
def Is (p:Nat→Bool) (j:Nat):List Int:=((List.range j).filter p).map Int.ofNat
theorem Wx (p:Nat→Bool) (j:Nat):Is p (j+1)=if p j=true then Is p j++[(j:Int)] else Is p j:=by
 rw[Is,List.range_succ,List.filter_append,List.map_append]
 split
 ·rename_i h
  rw[List.filter_cons_of_pos (by exact h),List.filter_nil];rfl
 ·rename_i h
  rw[List.filter_cons_of_neg (by exact h),List.filter_nil,List.map_nil,List.append_nil];rfl
theorem D7 (p:Nat→Bool) (j:Nat):(Is p j).length≤j:=by
 have:=List.length_filter_le p (List.range j)
 simpa [Is] using this
theorem Mu {p:Nat→Bool} {j:Nat} {x:Int}:x∈Is p j↔0≤x∧x<j∧p x.toNat=true:=by
 simp only[Is,List.mem_map,List.mem_filter,List.mem_range]
 constructor
 ·rintro ⟨i,h1,rfl⟩
  exact⟨Int.natCast_nonneg i,by simp;omega,h1.2⟩
 ·rintro ⟨h1,h2,h3⟩
  exact⟨x.toNat,⟨by omega,h3⟩,Int.toNat_of_nonneg h1⟩
def Oi (n:Net) (d:Domain) (i:Nat):Bool:=(nth n.ports i).dev == d.dev && Dm (nth n.ports i) d.vlan
def A4 (n:Net) (i:Int):List Int:=Is (Oi n (nth n.domains i)) n.ports.length
def B7 (n:Net) (i:Int):List Int:=if (0≤i∧i<n.domains.length)∧Af n=true then A4 n i else []
theorem E3 (n:Net) (hn:n.Fin) (i:Int):An (B7 n i):=by
 have:=hn.ports
 unfold An at this ⊢
 unfold B7
 split
 ·have:=D7 (Oi n (nth n.domains i)) n.ports.length
  unfold A4
  omega
 ·simp
theorem Jf (n:Net) (hn:n.Fin) (i:Int):Sy.Spec Tryz.prog 26 [Ap n,Aa i] [] (.sl 1 Aa (B7 n i)) []:=Ab Γ hm 100 F26 Tryz.ntmps26 rfl fun F hF=>by
 have hr:=Bd n hn
 have hpl:=Hg 6 Ar n.domains i
 have hsp:=hn.ports
 unfold An at hsp
 conv=>whnf
 refine Ag hr F23 E E E E E ?_
 cases hb:Af n
 ·rw[B7,if_neg (by simp[hb])]
  (refine rg ?_;(conv=>whnf);refine aT ?_;refine rg ?_;(conv=>whnf);refine aT ?_;refine rg ?_;conv=>whnf)
  refine Ao 4 1 Aa E ?_
  refine rg ?_;conv=>whnf
  exact Ac E (.cons .tmp .nil) E E
 (refine rg ?_;(conv=>whnf);refine aF ?_;refine rg ?_;conv=>whnf)
 refine Ag hpl F92 E E E E E ?_
 by_cases hi:0≤i∧i<n.domains.length
 rotate_left
 ·have h0:Ak i n.domains.length=false:=by simp only[Ak,Bool.and_eq_false_iff,decide_eq_false_iff_not];omega
  rw[B7,if_neg (by simp[hb,hi]),h0]
  (refine rg ?_;(conv=>whnf);refine aT ?_;refine rg ?_;conv=>whnf)
  refine Ao 4 1 Aa E ?_
  refine rg ?_;conv=>whnf
  exact Ac E (.cons .tmp .nil) E E
 have h0:Ak i n.domains.length=true:=by simp only[Ak,Bool.and_eq_true,decide_eq_true_eq];exact hi
 rw[B7,if_pos ⟨hi,hb⟩,h0]
 have hk:i.toNat<n.domains.length:=by omega
 have hf:=Adb hb hk
 have e1:nth n.domains i=n.domains[i.toNat]:=Am hk
 rw[A4,e1]
 obtain ⟨d,hd⟩:∃ d,n.domains[i.toNat]=d:=⟨_,rfl⟩
 rw[hd]at hf ⊢
 refine Be 2 8 (Ap n) E E E ?_
 (refine rg ?_;(conv=>whnf);refine aF ?_;refine rg ?_;conv=>whnf)
 refine Cf 5 1000 1 Aa E E ?_
 refine A3 n.ports.length (fun j=>[(1,Aa i),(2,.ref 8 (Ap n) 0),(5,.osl 1000),(19,.sl 7 A6 n.ports),(20,Aa n.ports.length),(21,Aa j)]) (fun j=>[(1000,.row 1 Aa (Is (Oi n d) j))]) []
  ⟨⟨rfl,rfl,rfl,rfl,rfl,rfl,rfl,rfl,rfl,rfl,rfl,rfl,trivial⟩,⟨.inl rfl,rfl,trivial⟩,rfl,rfl⟩ ?_
 intro j hj
 refine rg ?_;conv=>whnf
 refine⟨fun h=>?_,fun h=>?_⟩
 ·have hlt:j<n.ports.length:=by simpa using h
  have hsucc:=Wx (Oi n d) j
  have hfl:=D7 (Oi n d) j
  have hin:Oi n d j=((n.ports[j]).dev == d.dev && Dm n.ports[j] d.vlan):=by
   rw[Oi,Am (l:=n.ports) (i:=(j:Int)) (by simpa using hlt)];rfl
  rw[hin]at hsucc
  have e1:n.ports[(j:Int).toNat]'qn=n.ports[j]:=rfl
  have hms:=U5 n.ports[j] d.vlan (hn.tagged _ (List.getElem_mem _))
  obtain ⟨p,hp⟩:∃ p,n.ports[j]=p:=⟨_,rfl⟩
  rw[hp]at e1 hsucc hms
  obtain ⟨u,hu⟩:∃ u,Is (Oi n d) j=u:=⟨_,rfl⟩
  rw[hu]at hsucc hfl ⊢
  refine rg ?_;conv=>whnf
  refine⟨E,by omega,by omega,?_⟩
  rw[e1]
  conv=>whnf
  refine⟨E,hi.1,hk,?_⟩
  rw[hd]
  conv=>whnf
  refine⟨fun h2=>?_,fun h2=>?_⟩
  ·have h3:∃ k:Nat,(k:Int)=i:=⟨i.toNat,by omega⟩
   rw[h2,Bool.true_and]at hsucc
   refine rd qq ?_;conv=>whnf
   refine⟨E,hi.1,hk,?_⟩
   rw[hd]
   conv=>whnf
   refine Au hms F93 E E E qq E ?_
   refine rd qq ?_;conv=>whnf
   refine⟨qq,?_⟩
   conv=>whnf
   refine⟨fun h4=>?_,fun h4=>?_⟩
   ·rw[if_pos h4]at hsucc
    refine rg ?_;conv=>whnf
    refine Ah (Al Γ.toTy 48 E E E E E (.row E) (.lit (e:=Aa) (l:=[(j:Int)]) E E) qy (by simp;omega) (by simp;omega)) E E ?_
    refine rg ?_;conv=>whnf
    refine⟨by unfold I64;omega,?_⟩
    conv=>whnf
    exact Av [(1000,48)] hlt ⟨⟨E,E,E,E,E,E,E,E,E,E,E,E,Y⟩,⟨.inl (congrArg (Ob.row 1 Aa) hsucc),E,Y⟩,E,E⟩
   ·rw[if_neg (by simp[h4])]at hsucc
    refine rg ?_;conv=>whnf
    refine⟨by unfold I64;omega,?_⟩
    conv=>whnf
    exact Av [] hlt ⟨⟨E,E,E,E,E,E,E,E,E,E,E,E,Y⟩,⟨.inl (congrArg (Ob.row 1 Aa) hsucc),E,Y⟩,E,E⟩
  ·rw[if_neg (by simp[h2])]at hsucc
   refine rd qq ?_;conv=>whnf
   refine⟨qq,?_⟩
   ((conv=>whnf);refine aF ?_;refine rg ?_;conv=>whnf)
   refine⟨by unfold I64;omega,?_⟩
   conv=>whnf
   exact Av [] hlt ⟨⟨E,E,E,E,E,E,E,E,E,E,E,E,Y⟩,⟨.inl (congrArg (Ob.row 1 Aa) hsucc),E,Y⟩,E,E⟩
 ·have:j=n.ports.length:=by have:=of_decide_eq_false h;omega
  subst this
  refine At 1000 E ?_
  refine rg ?_;conv=>whnf
  exact Ac E (.cons .tmp .nil) E E
theorem Aad (n:Net) (hn:n.Fin) (l:List Domain) (p:Domain→Bool) (f:FuncId) (first cap:List SV) (hc:(SV.clo (.func f) first cap).inn []=true) (hf:∀ x∈l,E9 Tryz.prog f (first++[Ar x]++cap) (Ad (p x))) (hl:An l) :
  Sy.Spec Tryz.prog 146 [Ap n,.sl 6 Ar l,.clo (.func f) first cap] [] (Aa (if Af n=true then Cb p l else -1)) []:=Ab Γ hm 100 F146 Tryz.ntmps146 rfl fun F hF=>by
 have hr:=Bd n hn
 have q:=E4 l p f first cap hc hf hl
 conv=>whnf
 refine Ag hr F23 E E E E E ?_
 cases hb:Af n
 ·rw[if_neg qy]
  (refine rg ?_;(conv=>whnf);refine aT ?_;refine rg ?_;conv=>whnf)
  exact Ac E (.cons .tmp .nil) E E
 rw[if_pos rfl]
 (refine rg ?_;(conv=>whnf);refine aF ?_;refine rg ?_;conv=>whnf)
 refine Ag q F201 E E (by simp only[B8,hc,Bool.and_true];rfl) E E ?_
 refine rg ?_;conv=>whnf
 exact Ac E (.cons .tmp .nil) E E
theorem Zz (dev vlan:Int) (d:Domain):Sy.Spec Tryz.prog 147 [Ar d,.ref 1 (Aa dev) 0,.ref 1 (Aa vlan) 0] [] (Ad (d.dev == dev && d.vlan == vlan)) []:=Ab Γ hm 100 F147 Tryz.ntmps147 rfl fun F hF=>by
 conv=>whnf
 (repeat' (first | (refine⟨fun h=>?_,fun h=>?_⟩<;>(repeat (first | simp only[beq_iff_eq]at h | simp only[beq_eq_false_iff_ne]at h))<;>((refine rg ?_);(conv=>whnf))) | (refine Ac rfl (.cons .tmp .nil) ?_ rfl)))
 all_goals (refine congrArg Ad ?_)
 all_goals simp_all
def Ck (n:Net) (dev vlan:Int):Int:=if Af n=true then Tz n dev vlan else -1
theorem H7 (n:Net) (hn:n.Fin) (dev vlan:Int):Sy.Spec Tryz.prog 89 [Ap n,Aa dev,Aa vlan] [] (Aa (Ck n dev vlan)) []:=Ab Γ hm 100 F89 Tryz.ntmps89 rfl fun F hF=>by
 have q:=Aad n hn n.domains (fun d=>d.dev == dev && d.vlan == vlan) 147 [] [.ref 1 (Aa dev) 0,.ref 1 (Aa vlan) 0] rfl (fun d _=>⟨⟨_,_,F147⟩,Zz dev vlan d⟩) hn.domains
 conv=>whnf
 refine Be 4 1 (Aa dev) E E E ?_
 refine Be 5 1 (Aa vlan) E E E ?_
 refine Ag q F146 E E E E E ?_
 refine rg ?_;conv=>whnf
 exact Ac E (.cons .tmp .nil) E E
def Cz (n:Net) (i:Int):Int :=
 if (0≤i∧i<n.ports.length)∧0≤(nth n.ports i).link∧Af n=true then
  (if (nth n.links (nth n.ports i).link).a=i then (nth n.links (nth n.ports i).link).b else (nth n.links (nth n.ports i).link).a) else -1
theorem Hr {n:Net} (h:Af n=true) {i:Nat} (hi:i<n.ports.length) (hl:0≤n.ports[i].link) :
  n.ports[i].link.toNat<n.links.length∧((nth n.links n.ports[i].link).a=i∨(nth n.links n.ports[i].link).b=i):=by
 have:=Al4 h hi
 simp only[Ef,Ak,Bool.and_eq_true,Bool.or_eq_true,decide_eq_true_eq,beq_iff_eq]at this
 rcases this.2 with h1 | h1
 ·omega
 ·exact⟨by omega,h1.2⟩
theorem Q8 (n:Net) (hn:n.Fin) (i:Int):Sy.Spec Tryz.prog 268 [Ap n,Aa i] [] (Aa (Cz n i)) []:=Ab Γ hm 100 F268 Tryz.ntmps268 rfl fun F hF=>by
 have hr:=Bd n hn
 conv=>whnf
 refine⟨fun h=>?_,fun h=>?_⟩
 ·have h1:i<0:=of_decide_eq_true h
  rw[Cz,if_neg qn]
  (refine rg ?_;(conv=>whnf);refine aT ?_;refine rg ?_;(conv=>whnf);refine aT ?_;refine rg ?_;(conv=>whnf);refine aT ?_;refine rg ?_;conv=>whnf)
  exact Ac E (.cons .tmp .nil) E E
 have h1:0≤i:=by have:=of_decide_eq_false h;omega
 refine rg ?_;conv=>whnf
 refine⟨fun h=>?_,fun h=>?_⟩
 ·have h2:n.ports.length≤i:=of_decide_eq_true h
  rw[Cz,if_neg qn]
  (refine rg ?_;(conv=>whnf);refine aT ?_;refine rg ?_;(conv=>whnf);refine aT ?_;refine rg ?_;conv=>whnf)
  exact Ac E (.cons .tmp .nil) E E
 have h2:i<n.ports.length:=by have:=of_decide_eq_false h;omega
 have hk:i.toNat<n.ports.length:=by omega
 have e1:nth n.ports i=n.ports[i.toNat]:=Am hk
 have hlk:=fun (hb:Af n=true)=>Hr hb hk
 rw[Cz,e1]
 obtain ⟨p,hp⟩:∃ p,n.ports[i.toNat]=p:=⟨_,rfl⟩
 rw[hp]at hlk ⊢
 refine rg ?_;conv=>whnf
 refine⟨E,h1,hk,?_⟩
 rw[hp]
 conv=>whnf
 refine⟨fun h=>?_,fun h=>?_⟩
 ·have h3:p.link<0:=of_decide_eq_true h
  rw[if_neg qn]
  (refine rg ?_;(conv=>whnf);refine aT ?_;refine rg ?_;conv=>whnf)
  exact Ac E (.cons .tmp .nil) E E
 have h3:0≤p.link:=by have:=of_decide_eq_false h;omega
 refine rg ?_;conv=>whnf
 refine Ag hr F23 E E E E E ?_
 cases hb:Af n
 ·rw[if_neg qy]
  (refine rg ?_;(conv=>whnf);refine aT ?_;refine rg ?_;conv=>whnf)
  exact Ac E (.cons .tmp .nil) E E
 rw[if_pos ⟨⟨h1,h2⟩,h3,rfl⟩]
 have hq:=hlk hb h3
 have e2:nth n.links p.link=n.links[p.link.toNat]:=Am hq.1
 rw[e2]
 obtain ⟨l,hl⟩:∃ l,n.links[p.link.toNat]'hq.1=l:=⟨_,rfl⟩
 rw[hl]
 (refine rg ?_;(conv=>whnf);refine aF ?_;refine rg ?_;conv=>whnf)
 refine⟨E,h1,hk,?_⟩
 rw[hp]
 conv=>whnf
 refine⟨E,h3,hq.1,?_⟩
 rw[hl]
 conv=>whnf
 refine⟨qq,?_⟩
 conv=>whnf
 refine⟨fun h=>?_,fun h=>?_⟩
 ·have h4:l.a=i:=by simpa using h
  rw[if_pos h4]
  refine rg ?_;conv=>whnf
  exact Ac E (.cons .tmp .nil) E E
 ·have h4:¬ l.a=i:=by simpa using h
  rw[if_neg h4]
  refine rg ?_;conv=>whnf
  exact Ac E (.cons .tmp .nil) E E
theorem e_link {n:Net} (h:Af n=true) {i:Nat} (hi:i<n.links.length):(0≤n.links[i].a∧n.links[i].a.toNat<n.ports.length)∧(0≤n.links[i].b∧n.links[i].b.toNat<n.ports.length):=by
 simp only[Af,Bool.and_eq_true]at h
 have:=allB_iff.1 h.1.1.1.1.2 i hi
 simp only[J1,Ak,Bool.and_eq_true,decide_eq_true_eq]at this
 omega
theorem H6 {n:Net} {i:Int} (h:0≤Cz n i):(0≤i∧i.toNat<n.ports.length)∧Af n=true∧(Cz n i).toNat<n.ports.length:=by
 unfold Cz at h ⊢
 split at h
 ·rename_i hc
  rw[if_pos hc]
  have hk:i.toNat<n.ports.length:=by omega
  have e1:nth n.ports i=n.ports[i.toNat]:=Am hk
  rw[e1]at hc h ⊢
  have hq:=Hr hc.2.2 hk hc.2.1
  have e2:nth n.links n.ports[i.toNat].link=n.links[n.ports[i.toNat].link.toNat]:=Am hq.1
  have hl:=e_link hc.2.2 hq.1
  rw[e2]at h ⊢
  refine⟨by omega,hc.2.2,?_⟩
  split
  ·exact hl.2.2
  ·exact hl.1.2
 ·omega
def Va (n:Net) (i v:Int):Int:=if v=(nth n.ports i).native then (nth n.ports (Cz n i)).native else if inB (nth n.ports (Cz n i)).tagged v=true then v else 0
def crossT (n:Net) (i v:Int):Int × Int × Bool :=
 if 0≤Cz n i∧Dm (nth n.ports i) v=true∧Va n i v≠0 then (Cz n i,Va n i v,true) else (0,0,false)
theorem Acg (n:Net) (hn:n.Fin) (i v:Int):Sy.Spec Tryz.prog 204 [Ap n,Aa i,Aa v] [] (.tup [Aa (crossT n i v).1,Aa (crossT n i v).2.1,Ad (crossT n i v).2.2]) []:=Ab Γ hm 100 F204 Tryz.ntmps204 rfl fun F hF=>by
 have q:=Q8 n hn i
 have hth:=H6 (n:=n) (i:=i)
 have hc:=crossT.eq_1 n i v
 unfold Va at hc
 generalize crossT n i v=r at *
 obtain ⟨far,hfar⟩:∃ far,Cz n i=far:=⟨_,rfl⟩
 rw[hfar]at q hth hc
 ((conv=>whnf);repeat((first|refine aF ?_|refine aT ?_);(first|refine rG Γ hm ?_|refine rD Γ hm qq ?_);conv=>whnf))
 refine Ag q F268 E E E E E ?_
 ((first|refine rG Γ hm ?_|refine rD Γ hm qq ?_);(conv=>whnf);repeat((first|refine aF ?_|refine aT ?_);(first|refine rG Γ hm ?_|refine rD Γ hm qq ?_);conv=>whnf))
 refine⟨fun h=>?_,fun h=>?_⟩
 ·have h1:far<0:=of_decide_eq_true h
  rw[if_neg qn]at hc
  subst hc
  ((first|refine rG Γ hm ?_|refine rD Γ hm qq ?_);(conv=>whnf);repeat((first|refine aF ?_|refine aT ?_);(first|refine rG Γ hm ?_|refine rD Γ hm qq ?_);conv=>whnf))
  exact Ac E (.cons .tmp (.cons .tmp (.cons .tmp .nil))) E E
 have h1:0≤far:=by have:=of_decide_eq_false h;omega
 obtain ⟨⟨hi0,hk⟩,hb,hfk⟩:=hth h1
 have e1:nth n.ports i=n.ports[i.toNat]:=Am hk
 have e2:nth n.ports far=n.ports[far.toNat]:=Am hfk
 rw[e1,e2]at hc
 have ht1:=hn.tagged _ (List.getElem_mem hk)
 have ht2:=hn.tagged _ (List.getElem_mem hfk)
 obtain ⟨p,hp⟩:∃ p,n.ports[i.toNat]=p:=⟨_,rfl⟩
 obtain ⟨o,ho⟩:∃ o,n.ports[far.toNat]=o:=⟨_,rfl⟩
 rw[hp]at hc ht1
 rw[ho]at hc ht2
 have hms:=U5 p v ht1
 have hcs:=Ct o.tagged v ht2
 refine Be 3 8 (Ap n) E E E ?_
 ((first|refine rG Γ hm ?_|refine rD Γ hm qq ?_);(conv=>whnf);repeat((first|refine aF ?_|refine aT ?_);(first|refine rG Γ hm ?_|refine rD Γ hm qq ?_);conv=>whnf))
 refine⟨E,hi0,hk,?_⟩
 rw[hp]
 ((conv=>whnf);repeat((first|refine aF ?_|refine aT ?_);(first|refine rG Γ hm ?_|refine rD Γ hm qq ?_);conv=>whnf))
 refine Ag hms F93 E E E E E ?_
 cases hm2:Dm p v
 ·rw[if_neg (by simp[hm2])]at hc
  subst hc
  ((first|refine rG Γ hm ?_|refine rD Γ hm qq ?_);(conv=>whnf);repeat((first|refine aF ?_|refine aT ?_);(first|refine rG Γ hm ?_|refine rD Γ hm qq ?_);conv=>whnf))
  exact Ac E (.cons .tmp (.cons .tmp (.cons .tmp .nil))) E E
 ((first|refine rG Γ hm ?_|refine rD Γ hm qq ?_);(conv=>whnf);repeat((first|refine aF ?_|refine aT ?_);(first|refine rG Γ hm ?_|refine rD Γ hm qq ?_);conv=>whnf))
 refine⟨E,h1,hfk,?_⟩
 rw[ho]
 ((conv=>whnf);repeat((first|refine aF ?_|refine aT ?_);(first|refine rG Γ hm ?_|refine rD Γ hm qq ?_);conv=>whnf))
 refine⟨E,hi0,hk,?_⟩
 rw[hp]
 ((conv=>whnf);repeat((first|refine aF ?_|refine aT ?_);(first|refine rG Γ hm ?_|refine rD Γ hm qq ?_);conv=>whnf))
 refine⟨fun h=>?_,fun h=>?_⟩
 ·have h2:v=p.native:=by simpa using h
  rw[if_pos h2]at hc
  ((first|refine rG Γ hm ?_|refine rD Γ hm qq ?_);(conv=>whnf);repeat((first|refine aF ?_|refine aT ?_);(first|refine rG Γ hm ?_|refine rD Γ hm qq ?_);conv=>whnf))
  refine⟨fun h=>?_,fun h=>?_⟩
  ·have h3:o.native=0:=by simpa using h
   rw[if_neg (fun hh=>hh.2.2 h3)]at hc
   subst hc
   ((first|refine rG Γ hm ?_|refine rD Γ hm qq ?_);(conv=>whnf);repeat((first|refine aF ?_|refine aT ?_);(first|refine rG Γ hm ?_|refine rD Γ hm qq ?_);conv=>whnf))
   exact Ac E (.cons .tmp (.cons .tmp (.cons .tmp .nil))) E E
  ·have h3:o.native≠0:=by simpa using h
   rw[if_pos ⟨h1,hm2,h3⟩]at hc
   subst hc
   ((first|refine rG Γ hm ?_|refine rD Γ hm qq ?_);(conv=>whnf);repeat((first|refine aF ?_|refine aT ?_);(first|refine rG Γ hm ?_|refine rD Γ hm qq ?_);conv=>whnf))
   exact Ac E (.cons .tmp (.cons .tmp (.cons .tmp .nil))) E E
 have h2:¬ v=p.native:=by simpa using h
 rw[if_neg h2]at hc
 ((first|refine rG Γ hm ?_|refine rD Γ hm qq ?_);(conv=>whnf);repeat((first|refine aF ?_|refine aT ?_);(first|refine rG Γ hm ?_|refine rD Γ hm qq ?_);conv=>whnf))
 refine Ag hcs F25 E E E E E ?_
 cases hin:inB o.tagged v
 ·rw[hin,if_neg qy]at hc
  subst hc
  ((first|refine rG Γ hm ?_|refine rD Γ hm qq ?_);(conv=>whnf);repeat((first|refine aF ?_|refine aT ?_);(first|refine rG Γ hm ?_|refine rD Γ hm qq ?_);conv=>whnf))
  exact Ac E (.cons .tmp (.cons .tmp (.cons .tmp .nil))) E E
 rw[hin,if_pos rfl]at hc
 ((first|refine rG Γ hm ?_|refine rD Γ hm qq ?_);(conv=>whnf);repeat((first|refine aF ?_|refine aT ?_);(first|refine rG Γ hm ?_|refine rD Γ hm qq ?_);conv=>whnf))
 refine⟨fun h=>?_,fun h=>?_⟩
 ·have h3:v=0:=by simpa using h
  rw[if_neg (fun hh=>hh.2.2 h3)]at hc
  subst hc
  ((first|refine rG Γ hm ?_|refine rD Γ hm qq ?_);(conv=>whnf);repeat((first|refine aF ?_|refine aT ?_);(first|refine rG Γ hm ?_|refine rD Γ hm qq ?_);conv=>whnf))
  exact Ac E (.cons .tmp (.cons .tmp (.cons .tmp .nil))) E E
 ·have h3:v≠0:=by simpa using h
  rw[if_pos ⟨h1,hm2,h3⟩]at hc
  subst hc
  ((first|refine rG Γ hm ?_|refine rD Γ hm qq ?_);(conv=>whnf);repeat((first|refine aF ?_|refine aT ?_);(first|refine rG Γ hm ?_|refine rD Γ hm qq ?_);conv=>whnf))
  exact Ac E (.cons .tmp (.cons .tmp (.cons .tmp .nil))) E E
def linkDomT (n:Net) (i v:Int):Int × Bool:=if (crossT n i v).2.2=true then (Ck n (nth n.ports (crossT n i v).1).dev (crossT n i v).2.1,true) else (0,false)
theorem Sw {n:Net} {i v:Int} (h:(crossT n i v).2.2=true):0≤(crossT n i v).1∧(crossT n i v).1.toNat<n.ports.length:=by
 unfold crossT at h ⊢
 split at h
 ·rename_i hc
  rw[if_pos hc]
  exact⟨hc.1,(H6 hc.1).2.2⟩
 ·cases h
theorem Z3 (n:Net) (hn:n.Fin) (i v:Int):Sy.Spec Tryz.prog 149 [Ap n,Aa i,Aa v] [] (.tup [Aa (linkDomT n i v).1,Ad (linkDomT n i v).2]) []:=Ab Γ hm 100 F149 Tryz.ntmps149 rfl fun F hF=>by
 have q:=Acg n hn i v
 have hth:=Sw (n:=n) (i:=i) (v:=v)
 have hc:=linkDomT.eq_1 n i v
 generalize linkDomT n i v=r at *
 generalize crossT n i v=x at *
 obtain ⟨far,to,ok⟩:=x
 ((conv=>whnf);repeat((first|refine aF ?_|refine aT ?_);(first|refine rG Γ hm ?_|refine rD Γ hm qq ?_);conv=>whnf))
 refine Ag q F204 E E E E E ?_
 cases ok
 ·rw[if_neg qy]at hc
  subst hc
  ((first|refine rG Γ hm ?_|refine rD Γ hm qq ?_);(conv=>whnf);repeat((first|refine aF ?_|refine aT ?_);(first|refine rG Γ hm ?_|refine rD Γ hm qq ?_);conv=>whnf))
  exact Ac E (.cons .tmp (.cons .tmp .nil)) E E
 rw[if_pos rfl]at hc
 have hf:=hth rfl
 dsimp only at hf hc
 have e2:nth n.ports far=n.ports[far.toNat]:=Am hf.2
 rw[e2]at hc
 obtain ⟨o,ho⟩:∃ o,n.ports[far.toNat]'hf.2=o:=⟨_,rfl⟩
 rw[ho]at hc
 have q2:=H7 n hn o.dev to
 subst hc
 refine Be 3 8 (Ap n) E E E ?_
 ((first|refine rG Γ hm ?_|refine rD Γ hm qq ?_);(conv=>whnf);repeat((first|refine aF ?_|refine aT ?_);(first|refine rG Γ hm ?_|refine rD Γ hm qq ?_);conv=>whnf))
 refine⟨E,hf.1,hf.2,?_⟩
 rw[ho]
 ((conv=>whnf);repeat((first|refine aF ?_|refine aT ?_);(first|refine rG Γ hm ?_|refine rD Γ hm qq ?_);conv=>whnf))
 refine Au q2 F89 E E E qq E ?_
 ((first|refine rG Γ hm ?_|refine rD Γ hm qq ?_);(conv=>whnf);repeat((first|refine aF ?_|refine aT ?_);(first|refine rG Γ hm ?_|refine rD Γ hm qq ?_);conv=>whnf))
 refine⟨qq,?_⟩
 ((conv=>whnf);repeat((first|refine aF ?_|refine aT ?_);(first|refine rG Γ hm ?_|refine rD Γ hm qq ?_);conv=>whnf))
 exact Ac E (.cons .tmp (.cons .tmp .nil)) E E
end Go.Sy.YteinjapglfkamaaGreat
