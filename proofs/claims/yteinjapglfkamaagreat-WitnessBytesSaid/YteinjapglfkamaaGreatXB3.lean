/-
  Sy22 Ty N1 Sy25 Sy26 Sy27 Sy28 Sh E1 N2 N3 N4 E2 E3 N5 N6 N7 E4 E5 E6 E7 E8 E9 E20: parts of a proof, joined by program.
-/
import Derived.Test.YteinjapglfkamaaGreatXB2
import Derived.Test.YteinjapglfkamaaGreatProg
import Derived.ChangeKeysEq
import Derived.Below
import Derived.Lib.Join
import Derived.Lib.Strings
import Derived.Lib.Bytealg
namespace Go.Sy
mutual
def frb (d sz:Nat) (x:SV):SV→SV
 | .ptr k o=>bif Nat.beq k d then .ref sz x o else .ptr k o
 | .agg l=>.agg (Aab d sz x l)
 | .tup l=>.tup (Aab d sz x l)
 | .ifc t y=>.ifc t (frb d sz x y)
 | .clo f g l=>.clo f (Aab d sz x g) (Aab d sz x l)
 | y=>y
def Aab (d sz:Nat) (x:SV):List SV→List SV
 | []=>[]
 | y::l=>frb d sz x y::Aab d sz x l
end
mutual
theorem Afj {κ κ':Ka} {w:World} {K:Nat→Prop} {d sz:Nat} {x:SV} (st:Step K κ w κ' w) (hx:∀ o v,Rd κ w (.ptr d o) v→Rd κ' w (.ref sz x o) v):∀ (y:SV) (v:Value),Rd κ w y v→Rd κ' w (frb d sz x y) v
 | .ptr k o,v,h=>by
  unfold frb
  by_cases hk:k=d
  ·subst hk;rw[show Nat.beq k k=true from Nat.beq_refl k];exact hx o v h
  ·rw[show Nat.beq k d=false from by cases hb:Nat.beq k d with | false=>rfl | true=>exact absurd (Nat.eq_of_beq_eq_true hb) hk];exact Rd.step st _ _ h
 | .agg l,v,h=>by
  simp only[Rd]at h
  unfold frb
  simp only[Rd]
  obtain ⟨cs,h1,h2,h3⟩:=h
  exact⟨cs,h1,h2,Mr st hx l cs h3⟩
 | .tup l,v,h=>by
  simp only[Rd]at h
  unfold frb
  simp only[Rd]
  obtain ⟨cs,h1,h3⟩:=h
  exact⟨cs,h1,Mr st hx l cs h3⟩
 | .ifc t y,v,h=>by
  simp only[Rd]at h
  unfold frb
  simp only[Rd]
  obtain ⟨u,h1,h3⟩:=h
  exact⟨u,h1,Afj st hx y u h3⟩
 | .clo f g l,v,h=>by
  simp only[Rd]at h
  unfold frb
  simp only[Rd]
  obtain ⟨fs,cs,h1,h2,h3⟩:=h
  exact⟨fs,cs,h1,Mr st hx g fs h2,Mr st hx l cs h3⟩
 | .top,v,h=>by unfold frb;exact Rd.step st _ _ h
 | .val u,v,h=>by unfold frb;exact Rd.step st _ _ h
 | .sl sz e l,v,h=>by unfold frb;exact Rd.step st _ _ h
 | .ref sz z o,v,h=>by unfold frb;exact Rd.step st _ _ h
 | .rpt k sz i o,v,h=>by unfold frb;exact Rd.step st _ _ h
 | .osl k,v,h=>by unfold frb;exact Rd.step st _ _ h
theorem Mr {κ κ':Ka} {w:World} {K:Nat→Prop} {d sz:Nat} {x:SV} (st:Step K κ w κ' w) (hx:∀ o v,Rd κ w (.ptr d o) v→Rd κ' w (.ref sz x o) v):∀ (l:List SV) (vs:List Value),RdL κ w l vs→RdL κ' w (Aab d sz x l) vs
 | [],vs,h=>by
  unfold Aab
  simpa [RdL] using h
 | y::l,vs,h=>by
  simp only[RdL]at h
  unfold Aab
  simp only[RdL]
  obtain ⟨v,r,h1,h2,h3⟩:=h
  exact⟨v,r,h1,Afj st hx y v h2,Mr st hx l r h3⟩
end
def frbO (d sz:Nat) (x:SV):Ob→Ob
 | .box l=>.box (Aab d sz x l)
 | o=>o
theorem Afy {κ κ':Ka} {w:World} {d sz:Nat} {l:List SV} {x:SV} (h:ObOK κ w d (.box l)) (hl:cellsOf x=l) (hb:x.boxed=true) (_hd:J6 l=true) (hsz:l.length=sz) (ho:∀ b,b<w.heap.size→¬ Own κ b→¬ Own κ' b)
  (hdead:∀ b,(κ d).block? = some b→b<w.heap.size∧¬ Own κ' b) (hxd:x.data=true) (o:Nat) (v:Value) (hv:Rd κ w (.ptr d o) v):Rd κ' w (.ref sz x o) v:=by
 obtain ⟨b,cs,T,fr,e1,e2,e3,e4,e5⟩:=h
 simp only[Rd,e1]at hv
 obtain ⟨h1,h2⟩:=hdead b (by rw[e1];rfl)
 rw[← hl]at e5
 obtain ⟨u,f1,f2⟩:=Rd.of_cells hb e4 e5
 simp only[Rd,RdD]
 refine⟨b,0,u,by rw[Nat.zero_add];exact hv,h2,h1,RdD.keep ⟨Nat.le_refl _,fun _ _ _=>rfl,ho⟩ _ _ (Rd.data _ _ hxd f1),?_,by rw[f2];exact e4,fun j hj=>?_⟩
 ·have:=e5.length
  rw[← hsz,← hl,← this,← f2]
  simp
 ·rw[Nat.zero_add,cell_of_row w b _ cs.toArray T fr e2,← f2]
theorem Ba {C:Cx} {k:List KI} {s:SS} (d sz:Nat) (x:SV) {l:List SV} (h:s.h d=.box l) (hl:cellsOf x=l) (hc:(x.boxed && x.data && J6 l && Nat.beq l.length sz)=true)
  (hg:G C k ⟨fun i=>frb d sz x (s.σ i),fun j=>bif Nat.beq j d then .non else frbO d sz x (s.h j)⟩):G C k s:=fun κ a w hs=>by
 simp only[Bool.and_eq_true]at hc
 obtain ⟨⟨⟨hb,hxd⟩,hd⟩,hsz⟩:=hc
 have hsz:=Nat.eq_of_beq_eq_true hsz
 have hob:=hs.obj d
 rw[h]at hob
 have st:=Er (κ:=κ) (w:=w) (some d)
 have inv:=Hk hs.inv (some d)
 have hx:∀ o v,Rd κ w (.ptr d o) v→Rd (Cr κ d .dead) w (.ref sz x o) v:=fun o v hv =>
  Afy hob hl hb hd hsz st.keeps.out (fun b hb=>⟨hs.inv.bnd d b hb,by
   rintro (⟨q,hq⟩ | hq)
   ·by_cases hqd:q=d
    ·subst hqd;change (Cr κ q .dead q).block? = some b at hq;rw[An]at hq;cases hq
    ·change (Cr κ d .dead q).block? = some b at hq
     rw[Bm _ _ hqd]at hq
     exact hqd (hs.inv.inj q d b hq hb)
   ·exact hs.inv.apart d b hb hq⟩) hxd o v hv
 refine hg (Cr κ d .dead) a w ⟨hs.defers,hs.size,inv,hs.ctx.step inv st,fun j=>Afj st hx _ _ (hs.slot j),fun j=>?_⟩
 show ObOK _ w j (bif Nat.beq j d then .non else frbO d sz x (s.h j))
 by_cases hj:j=d
 ·subst hj;rw[show Nat.beq j j=true from Nat.beq_refl j];trivial
 ·rw[show Nat.beq j d=false from by cases hb:Nat.beq j d with | false=>rfl | true=>exact absurd (Nat.eq_of_beq_eq_true hb) hj]
  have hb:=ObOK.step st (fun e=>hj (Option.some.inj e).symm) _ (hs.obj j)
  have h0:=hs.obj j
  show ObOK _ w j (frbO d sz x (s.h j))
  cases hh:s.h j with
  | box m =>
   rw[hh]at h0 hb
   obtain ⟨b,cs,T,fr,e1,e2,e3,e4,e5⟩:=h0
   exact⟨b,cs,T,fr,by show Cr κ d .dead j=_;rw[Bm _ _ hj];exact e1,e2,e3,e4,Mr st hx m cs e5⟩
  | fresh=>rw[hh]at hb;exact hb
  | non=>rw[hh]at hb;exact hb
  | row sz' e' l'=>rw[hh]at hb;exact hb
  | lit sz' svs=>rw[hh]at hb;exact hb
  | glob sz' x' g'=>rw[hh]at hb;exact hb
  | pin b' n' cap' sz' e' l'=>rw[hh]at hb;exact hb
  | dat v' sz' e' l'=>rw[hh]at hb;exact hb
theorem Ak {C:Cx} {k:List KI} {s:SS} (d sz:Nat) {α:Type} (e:α→SV) (h:s.σ d=.val (.slice none 0 0)) (hg:G C k ⟨upd s.σ d (.sl sz e []),s.h⟩):G C k s :=
 G_set d (fun κ w v hv=>by
  rw[h]at hv
  simp only[Rd]at hv
  simp only[Rd,RdD]
  exact .inl ⟨Y,none,0,hv⟩) hg
end Go.Sy
namespace Go.Sy.YteinjapglfkamaaGreat
open Go.Proofs
set_option maxRecDepth 100000
theorem ty1:A4 Tryz.prog 1=some ⟨.func,1,[.nilFunc]⟩:=by kernel_rfl
theorem ty2:A4 Tryz.prog 2=some ⟨.int .i64,1,[.int .i64 0]⟩:=by kernel_rfl
theorem ty3:A4 Tryz.prog 3=some ⟨.int .i64,1,[.int .i64 0]⟩:=by kernel_rfl
theorem ty4:A4 Tryz.prog 4=some ⟨.bool,1,[.bool false]⟩:=by kernel_rfl
theorem ty5:A4 Tryz.prog 5=some ⟨.int .u8,1,[.int .u8 0]⟩:=by kernel_rfl
theorem ty9:A4 Tryz.prog 9=some ⟨.string,1,[.string .empty]⟩:=by kernel_rfl
theorem ty20:A4 Tryz.prog 20=some ⟨.iface,1,[.nilIface]⟩:=by kernel_rfl
theorem ty22:A4 Tryz.prog 22=some ⟨.slice 77 5 48 [.int .i64 0,.int .i64 0,.string .empty,.int .u64 0,.int .u32 0],1,[.slice none 0 0]⟩:=by kernel_rfl
theorem ty23:A4 Tryz.prog 23=some ⟨.slice 67 7 80 [.int .i64 0,.int .i64 0,.int .i64 0,.int .i64 0,.int .i64 0,.string .empty,.slice none 0 0],1,[.slice none 0 0]⟩:=by kernel_rfl
theorem ty24:A4 Tryz.prog 24=some ⟨.slice 167 3 24 [.int .i64 0,.int .i64 0,.int .i64 0],1,[.slice none 0 0]⟩:=by kernel_rfl
theorem ty25:A4 Tryz.prog 25=some ⟨.slice 69 6 64 [.int .i64 0,.int .i64 0,.int .i64 0,.int .i64 0,.int .i64 0,.slice none 0 0],1,[.slice none 0 0]⟩:=by kernel_rfl
theorem ty26:A4 Tryz.prog 26=some ⟨.slice 171 4 32 [.int .i64 0,.int .i64 0,.int .i64 0,.int .u64 0],1,[.slice none 0 0]⟩:=by kernel_rfl
theorem ty27:A4 Tryz.prog 27=some ⟨.slice 72 4 48 [.int .i64 0,.int .i64 0,.int .i64 0,.slice none 0 0],1,[.slice none 0 0]⟩:=by kernel_rfl
theorem ty28:A4 Tryz.prog 28=some ⟨.slice 74 5 80 [.int .i64 0,.int .i64 0,.string .empty,.slice none 0 0,.slice none 0 0],1,[.slice none 0 0]⟩:=by kernel_rfl
theorem ty29:A4 Tryz.prog 29=some ⟨.slice 119 5 40 [.int .i64 0,.int .i64 0,.int .i64 0,.int .u32 0,.int .i64 0],1,[.slice none 0 0]⟩:=by kernel_rfl
theorem ty31:A4 Tryz.prog 31=some ⟨.struct [(0,1),(1,1),(2,1),(3,1),(4,1),(5,1),(6,1),(7,1)],8,[.slice none 0 0,.slice none 0 0,.slice none 0 0,.slice none 0 0,.slice none 0 0,.slice none 0 0,.slice none 0 0,.slice none 0 0]⟩:=by kernel_rfl
theorem ty34:A4 Tryz.prog 34=some ⟨.slice 93 4 32 [.int .i64 0,.int .i64 0,.int .i64 0,.int .u32 0],1,[.slice none 0 0]⟩:=by kernel_rfl
theorem ty37:A4 Tryz.prog 37=some ⟨.slice 102 4 32 [.int .i64 0,.int .i64 0,.int .i64 0,.int .u32 0],1,[.slice none 0 0]⟩:=by kernel_rfl
theorem ty43:A4 Tryz.prog 43=some ⟨.slice 5 1 1 [.int .u8 0],1,[.slice none 0 0]⟩:=by kernel_rfl
theorem ty44:A4 Tryz.prog 44=some ⟨.int .i64,1,[.int .i64 0]⟩:=by kernel_rfl
theorem ty50:A4 Tryz.prog 50=some ⟨.slice 80 6 80 [.int .i64 0,.int .i64 0,.int .i64 0,.int .i64 0,.slice none 0 0,.slice none 0 0],1,[.slice none 0 0]⟩:=by kernel_rfl
theorem ty56:A4 Tryz.prog 56=some ⟨.slice 3 1 8 [.int .i64 0],1,[.slice none 0 0]⟩:=by kernel_rfl
theorem ty57:A4 Tryz.prog 57=some ⟨.int .u64,1,[.int .u64 0]⟩:=by kernel_rfl
theorem ty67:A4 Tryz.prog 67=some ⟨.struct [(0,1),(1,1),(2,1),(3,1),(4,1),(5,1),(6,1)],7,[.int .i64 0,.int .i64 0,.int .i64 0,.int .i64 0,.int .i64 0,.string .empty,.slice none 0 0]⟩:=by kernel_rfl
theorem ty69:A4 Tryz.prog 69=some ⟨.struct [(0,1),(1,1),(2,1),(3,1),(4,1),(5,1)],6,[.int .i64 0,.int .i64 0,.int .i64 0,.int .i64 0,.int .i64 0,.slice none 0 0]⟩:=by kernel_rfl
theorem ty70:A4 Tryz.prog 70=some ⟨.slice 75 1 4 [.int .u32 0],1,[.slice none 0 0]⟩:=by kernel_rfl
theorem ty72:A4 Tryz.prog 72=some ⟨.struct [(0,1),(1,1),(2,1),(3,1)],4,[.int .i64 0,.int .i64 0,.int .i64 0,.slice none 0 0]⟩:=by kernel_rfl
theorem ty74:A4 Tryz.prog 74=some ⟨.struct [(0,1),(1,1),(2,1),(3,1),(4,1)],5,[.int .i64 0,.int .i64 0,.string .empty,.slice none 0 0,.slice none 0 0]⟩:=by kernel_rfl
theorem ty75:A4 Tryz.prog 75=some ⟨.int .u32,1,[.int .u32 0]⟩:=by kernel_rfl
theorem ty77:A4 Tryz.prog 77=some ⟨.struct [(0,1),(1,1),(2,1),(3,1),(4,1)],5,[.int .i64 0,.int .i64 0,.string .empty,.int .u64 0,.int .u32 0]⟩:=by kernel_rfl
theorem ty78:A4 Tryz.prog 78=some ⟨.slice 4 1 1 [.bool false],1,[.slice none 0 0]⟩:=by kernel_rfl
theorem ty80:A4 Tryz.prog 80=some ⟨.struct [(0,1),(1,1),(2,1),(3,1),(4,1),(5,1)],6,[.int .i64 0,.int .i64 0,.int .i64 0,.int .i64 0,.slice none 0 0,.slice none 0 0]⟩:=by kernel_rfl
theorem ty82:A4 Tryz.prog 82=some ⟨.ptr,1,[.pointer none]⟩:=by kernel_rfl
theorem ty83:A4 Tryz.prog 83=some ⟨.array 78 2 1,2,[.slice none 0 0,.slice none 0 0]⟩:=by kernel_rfl
theorem ty84:A4 Tryz.prog 84=some ⟨.slice 95 7 56 [.int .i64 0,.int .i64 0,.int .i64 0,.int .i64 0,.int .i64 0,.int .u32 0,.int .i64 0],1,[.slice none 0 0]⟩:=by kernel_rfl
theorem ty86:A4 Tryz.prog 86=some ⟨.struct [(0,8),(8,2),(10,1)],11,[.slice none 0 0,.slice none 0 0,.slice none 0 0,.slice none 0 0,.slice none 0 0,.slice none 0 0,.slice none 0 0,.slice none 0 0,.slice none 0 0,.slice none 0 0,.slice none 0 0]⟩:=by kernel_rfl
theorem ty91:A4 Tryz.prog 91=some ⟨.struct [(0,1),(1,1)],2,[.int .i64 0,.int .i64 0]⟩:=by kernel_rfl
theorem ty93:A4 Tryz.prog 93=some ⟨.struct [(0,1),(1,1),(2,1),(3,1)],4,[.int .i64 0,.int .i64 0,.int .i64 0,.int .u32 0]⟩:=by kernel_rfl
theorem ty95:A4 Tryz.prog 95=some ⟨.struct [(0,2),(2,4),(6,1)],7,[.int .i64 0,.int .i64 0,.int .i64 0,.int .i64 0,.int .i64 0,.int .u32 0,.int .i64 0]⟩:=by kernel_rfl
theorem ty102:A4 Tryz.prog 102=some ⟨.struct [(0,1),(1,1),(2,1),(3,1)],4,[.int .i64 0,.int .i64 0,.int .i64 0,.int .u32 0]⟩:=by kernel_rfl
theorem ty110:A4 Tryz.prog 110=some ⟨.struct [(0,1),(1,1),(2,1),(3,1)],4,[.int .u64 0,.int .u64 0,.int .i64 0,.slice none 0 0]⟩:=by kernel_rfl
theorem ty112:A4 Tryz.prog 112=some ⟨.func,1,[.nilFunc]⟩:=by kernel_rfl
theorem ty115:A4 Tryz.prog 115=some ⟨.struct [(0,1),(1,1),(2,1),(3,1),(4,1),(5,1),(6,1)],7,[.int .i64 0,.int .i64 0,.int .i64 0,.int .i64 0,.int .u32 0,.int .u32 0,.slice none 0 0]⟩:=by kernel_rfl
theorem ty117:A4 Tryz.prog 117=some ⟨.struct [(0,1),(1,1)],2,[.int .u32 0,.int .i64 0]⟩:=by kernel_rfl
theorem ty119:A4 Tryz.prog 119=some ⟨.struct [(0,1),(1,1),(2,1),(3,2)],5,[.int .i64 0,.int .i64 0,.int .i64 0,.int .u32 0,.int .i64 0]⟩:=by kernel_rfl
theorem ty122:A4 Tryz.prog 122=some ⟨.func,1,[.nilFunc]⟩:=by kernel_rfl
theorem ty125:A4 Tryz.prog 125=some ⟨.ptr,1,[.pointer none]⟩:=by kernel_rfl
theorem ty128:A4 Tryz.prog 128=some ⟨.slice 263 3 40 [.int .i64 0,.int .i64 0,.slice none 0 0],1,[.slice none 0 0]⟩:=by kernel_rfl
theorem ty131:A4 Tryz.prog 131=some ⟨.func,1,[.nilFunc]⟩:=by kernel_rfl
theorem ty132:A4 Tryz.prog 132=some ⟨.slice 229 7 72 [.int .i64 0,.int .i64 0,.int .i64 0,.int .u64 0,.int .u64 0,.int .i64 0,.slice none 0 0],1,[.slice none 0 0]⟩:=by kernel_rfl
theorem ty160:A4 Tryz.prog 160=some ⟨.struct [(0,8)],8,[.slice none 0 0,.slice none 0 0,.slice none 0 0,.slice none 0 0,.slice none 0 0,.slice none 0 0,.slice none 0 0,.slice none 0 0]⟩:=by kernel_rfl
theorem ty162:A4 Tryz.prog 162=some ⟨.func,1,[.nilFunc]⟩:=by kernel_rfl
theorem ty164:A4 Tryz.prog 164=some ⟨.func,1,[.nilFunc]⟩:=by kernel_rfl
theorem ty167:A4 Tryz.prog 167=some ⟨.struct [(0,1),(1,1),(2,1)],3,[.int .i64 0,.int .i64 0,.int .i64 0]⟩:=by kernel_rfl
theorem ty168:A4 Tryz.prog 168=some ⟨.func,1,[.nilFunc]⟩:=by kernel_rfl
theorem ty171:A4 Tryz.prog 171=some ⟨.struct [(0,1),(1,1),(2,1),(3,1)],4,[.int .i64 0,.int .i64 0,.int .i64 0,.int .u64 0]⟩:=by kernel_rfl
theorem ty172:A4 Tryz.prog 172=some ⟨.func,1,[.nilFunc]⟩:=by kernel_rfl
theorem ty175:A4 Tryz.prog 175=some ⟨.func,1,[.nilFunc]⟩:=by kernel_rfl
theorem ty177:A4 Tryz.prog 177=some ⟨.func,1,[.nilFunc]⟩:=by kernel_rfl
theorem ty179:A4 Tryz.prog 179=some ⟨.func,1,[.nilFunc]⟩:=by kernel_rfl
theorem ty186:A4 Tryz.prog 186=some ⟨.slice 188 3 24 [.int .i64 0,.int .i64 0,.int .u32 0],1,[.slice none 0 0]⟩:=by kernel_rfl
theorem ty188:A4 Tryz.prog 188=some ⟨.struct [(0,1),(1,1),(2,1)],3,[.int .i64 0,.int .i64 0,.int .u32 0]⟩:=by kernel_rfl
theorem ty195:A4 Tryz.prog 195=some ⟨.int .u64,1,[.int .u64 0]⟩:=by kernel_rfl
theorem ty204:A4 Tryz.prog 204=some ⟨.ptr,1,[.pointer none]⟩:=by kernel_rfl
theorem ty209:A4 Tryz.prog 209=some ⟨.struct [(0,0),(0,1)],1,[.int .u32 0]⟩:=by kernel_rfl
theorem ty213:A4 Tryz.prog 213=some ⟨.struct [(0,0),(0,2)],2,[.int .i32 0,.int .u32 0]⟩:=by kernel_rfl
theorem ty215:A4 Tryz.prog 215=some ⟨.struct [(0,0),(0,1),(1,2)],3,[.int .u32 0,.int .i32 0,.int .u32 0]⟩:=by kernel_rfl
theorem ty217:A4 Tryz.prog 217=some ⟨.struct [(0,1),(1,3),(4,1)],5,[.slice none 0 0,.int .u32 0,.int .i32 0,.int .u32 0,.slice none 0 0]⟩:=by kernel_rfl
theorem ty218:A4 Tryz.prog 218=some ⟨.slice 251 1 24 [.slice none 0 0],1,[.slice none 0 0]⟩:=by kernel_rfl
theorem ty219:A4 Tryz.prog 219=some ⟨.slice 132 1 24 [.slice none 0 0],1,[.slice none 0 0]⟩:=by kernel_rfl
theorem ty222:A4 Tryz.prog 222=some ⟨.struct [(0,0),(0,0),(0,1)],1,[.int .i64 0]⟩:=by kernel_rfl
theorem ty223:A4 Tryz.prog 223=some ⟨.array 222 64 1,64,[.int .i64 0,.int .i64 0,.int .i64 0,.int .i64 0,.int .i64 0,.int .i64 0,.int .i64 0,.int .i64 0,.int .i64 0,.int .i64 0,.int .i64 0,.int .i64 0,.int .i64 0,.int .i64 0,.int .i64 0,.int .i64 0,.int .i64 0,.int .i64 0,.int .i64 0,.int .i64 0,.int .i64 0,.int .i64 0,.int .i64 0,.int .i64 0,.int .i64 0,.int .i64 0,.int .i64 0,.int .i64 0,.int .i64 0,.int .i64 0,.int .i64 0,.int .i64 0,.int .i64 0,.int .i64 0,.int .i64 0,.int .i64 0,.int .i64 0,.int .i64 0,.int .i64 0,.int .i64 0,.int .i64 0,.int .i64 0,.int .i64 0,.int .i64 0,.int .i64 0,.int .i64 0,.int .i64 0,.int .i64 0,.int .i64 0,.int .i64 0,.int .i64 0,.int .i64 0,.int .i64 0,.int .i64 0,.int .i64 0,.int .i64 0,.int .i64 0,.int .i64 0,.int .i64 0,.int .i64 0,.int .i64 0,.int .i64 0,.int .i64 0,.int .i64 0]⟩:=by kernel_rfl
theorem ty225:A4 Tryz.prog 225=some ⟨.struct [(0,8),(8,1),(9,1),(10,1),(11,1),(12,1),(13,64)],77,[.slice none 0 0,.slice none 0 0,.slice none 0 0,.slice none 0 0,.slice none 0 0,.slice none 0 0,.slice none 0 0,.slice none 0 0,.pointer none,.slice none 0 0,.slice none 0 0,.int .i64 0,.int .i64 0,.int .i64 0,.int .i64 0,.int .i64 0,.int .i64 0,.int .i64 0,.int .i64 0,.int .i64 0,.int .i64 0,.int .i64 0,.int .i64 0,.int .i64 0,.int .i64 0,.int .i64 0,.int .i64 0,.int .i64 0,.int .i64 0,.int .i64 0,.int .i64 0,.int .i64 0,.int .i64 0,.int .i64 0,.int .i64 0,.int .i64 0,.int .i64 0,.int .i64 0,.int .i64 0,.int .i64 0,.int .i64 0,.int .i64 0,.int .i64 0,.int .i64 0,.int .i64 0,.int .i64 0,.int .i64 0,.int .i64 0,.int .i64 0,.int .i64 0,.int .i64 0,.int .i64 0,.int .i64 0,.int .i64 0,.int .i64 0,.int .i64 0,.int .i64 0,.int .i64 0,.int .i64 0,.int .i64 0,.int .i64 0,.int .i64 0,.int .i64 0,.int .i64 0,.int .i64 0,.int .i64 0,.int .i64 0,.int .i64 0,.int .i64 0,.int .i64 0,.int .i64 0,.int .i64 0,.int .i64 0,.int .i64 0,.int .i64 0,.int .i64 0,.int .i64 0]⟩:=by kernel_rfl
theorem ty229:A4 Tryz.prog 229=some ⟨.struct [(0,1),(1,1),(2,1),(3,4)],7,[.int .i64 0,.int .i64 0,.int .i64 0,.int .u64 0,.int .u64 0,.int .i64 0,.slice none 0 0]⟩:=by kernel_rfl
theorem ty233:A4 Tryz.prog 233=some ⟨.func,1,[.nilFunc]⟩:=by kernel_rfl
theorem ty251:A4 Tryz.prog 251=some ⟨.slice 327 3 24 [.int .u64 0,.int .i64 0,.int .i64 0],1,[.slice none 0 0]⟩:=by kernel_rfl
theorem ty253:A4 Tryz.prog 253=some ⟨.func,1,[.nilFunc]⟩:=by kernel_rfl
theorem ty263:A4 Tryz.prog 263=some ⟨.struct [(0,1),(1,1),(2,1)],3,[.int .i64 0,.int .i64 0,.slice none 0 0]⟩:=by kernel_rfl
theorem ty265:A4 Tryz.prog 265=some ⟨.func,1,[.nilFunc]⟩:=by kernel_rfl
theorem ty273:A4 Tryz.prog 273=some ⟨.func,1,[.nilFunc]⟩:=by kernel_rfl
theorem ty280:A4 Tryz.prog 280=some ⟨.ptr,1,[.pointer none]⟩:=by kernel_rfl
theorem ty298:A4 Tryz.prog 298=some ⟨.slice 304 9 104 [.int .i64 0,.int .i64 0,.int .i64 0,.slice none 0 0,.int .u64 0,.int .u64 0,.int .i64 0,.slice none 0 0,.int .i64 0],1,[.slice none 0 0]⟩:=by kernel_rfl
theorem ty304:A4 Tryz.prog 304=some ⟨.struct [(0,1),(1,1),(2,1),(3,1),(4,4),(8,1)],9,[.int .i64 0,.int .i64 0,.int .i64 0,.slice none 0 0,.int .u64 0,.int .u64 0,.int .i64 0,.slice none 0 0,.int .i64 0]⟩:=by kernel_rfl
theorem ty327:A4 Tryz.prog 327=some ⟨.struct [(0,1),(1,1),(2,1)],3,[.int .u64 0,.int .i64 0,.int .i64 0]⟩:=by kernel_rfl
theorem ty334:A4 Tryz.prog 334=some ⟨.func,1,[.nilFunc]⟩:=by kernel_rfl
theorem ty345:A4 Tryz.prog 345=some ⟨.struct [(0,8),(8,1),(9,1),(10,1),(11,1)],12,[.slice none 0 0,.slice none 0 0,.slice none 0 0,.slice none 0 0,.slice none 0 0,.slice none 0 0,.slice none 0 0,.slice none 0 0,.slice none 0 0,.slice none 0 0,.slice none 0 0,.slice none 0 0]⟩:=by kernel_rfl
theorem ty363:A4 Tryz.prog 363=some ⟨.func,1,[.nilFunc]⟩:=by kernel_rfl
theorem ty393:A4 Tryz.prog 393=some ⟨.func,1,[.nilFunc]⟩:=by kernel_rfl
theorem ty397:A4 Tryz.prog 397=some ⟨.ptr,1,[.pointer none]⟩:=by kernel_rfl
theorem ty399:A4 Tryz.prog 399=some ⟨.slice 402 3 24 [.int .i64 0,.int .i64 0,.int .i64 0],1,[.slice none 0 0]⟩:=by kernel_rfl
theorem ty402:A4 Tryz.prog 402=some ⟨.struct [(0,1),(1,1),(2,1)],3,[.int .i64 0,.int .i64 0,.int .i64 0]⟩:=by kernel_rfl
theorem ty405:A4 Tryz.prog 405=some ⟨.slice 406 5 40 [.int .i64 0,.int .i64 0,.int .i64 0,.int .i64 0,.int .i64 0],1,[.slice none 0 0]⟩:=by kernel_rfl
theorem ty406:A4 Tryz.prog 406=some ⟨.struct [(0,1),(1,1),(2,1),(3,1),(4,1)],5,[.int .i64 0,.int .i64 0,.int .i64 0,.int .i64 0,.int .i64 0]⟩:=by kernel_rfl
theorem ty410:A4 Tryz.prog 410=some ⟨.ptr,1,[.pointer none]⟩:=by kernel_rfl
theorem ty415:A4 Tryz.prog 415=some ⟨.struct [(0,8),(8,1),(9,1),(10,1),(11,1)],12,[.slice none 0 0,.slice none 0 0,.slice none 0 0,.slice none 0 0,.slice none 0 0,.slice none 0 0,.slice none 0 0,.slice none 0 0,.slice none 0 0,.int .i64 0,.int .i64 0,.slice none 0 0]⟩:=by kernel_rfl
theorem ty423:A4 Tryz.prog 423=some ⟨.struct [(0,8)],8,[.slice none 0 0,.slice none 0 0,.slice none 0 0,.slice none 0 0,.slice none 0 0,.slice none 0 0,.slice none 0 0,.slice none 0 0]⟩:=by kernel_rfl
theorem ty427:A4 Tryz.prog 427=some ⟨.ptr,1,[.pointer none]⟩:=by kernel_rfl
theorem ty428:A4 Tryz.prog 428=some ⟨.ptr,1,[.pointer none]⟩:=by kernel_rfl
theorem ty430:A4 Tryz.prog 430=some ⟨.ptr,1,[.pointer none]⟩:=by kernel_rfl
theorem ty455:A4 Tryz.prog 455=some ⟨.iface,1,[.nilIface]⟩:=by kernel_rfl
theorem ty470:A4 Tryz.prog 470=some ⟨.ptr,1,[.pointer none]⟩:=by kernel_rfl
theorem ty472:A4 Tryz.prog 472=some ⟨.ptr,1,[.pointer none]⟩:=by kernel_rfl
theorem ty474:A4 Tryz.prog 474=some ⟨.ptr,1,[.pointer none]⟩:=by kernel_rfl
theorem ty476:A4 Tryz.prog 476=some ⟨.struct [(0,7),(7,1)],8,[.int .i64 0,.int .i64 0,.int .i64 0,.int .i64 0,.int .u32 0,.int .u32 0,.slice none 0 0,.int .i64 0]⟩:=by kernel_rfl
theorem ty478:A4 Tryz.prog 478=some ⟨.struct [(0,8),(8,1)],9,[.int .i64 0,.int .i64 0,.int .i64 0,.int .i64 0,.int .u32 0,.int .u32 0,.slice none 0 0,.int .i64 0,.int .i64 0]⟩:=by kernel_rfl
theorem ty481:A4 Tryz.prog 481=some ⟨.func,1,[.nilFunc]⟩:=by kernel_rfl
theorem ty491:A4 Tryz.prog 491=some ⟨.array 3 4 1,4,[.int .i64 0,.int .i64 0,.int .i64 0,.int .i64 0]⟩:=by kernel_rfl
theorem ty502:A4 Tryz.prog 502=some ⟨.func,1,[.nilFunc]⟩:=by kernel_rfl
theorem tq77:I3 Tryz.prog 77=some [.int .i64,.int .i64,.string,.int .u64,.int .u32]:=by kernel_rfl
theorem tq91:I3 Tryz.prog 91=some [.int .i64,.int .i64]:=by kernel_rfl
theorem tq93:I3 Tryz.prog 93=some [.int .i64,.int .i64,.int .i64,.int .u32]:=by kernel_rfl
theorem tq102:I3 Tryz.prog 102=some [.int .i64,.int .i64,.int .i64,.int .u32]:=by kernel_rfl
theorem tq117:I3 Tryz.prog 117=some [.int .u32,.int .i64]:=by kernel_rfl
theorem tq167:I3 Tryz.prog 167=some [.int .i64,.int .i64,.int .i64]:=by kernel_rfl
theorem tq171:I3 Tryz.prog 171=some [.int .i64,.int .i64,.int .i64,.int .u64]:=by kernel_rfl
theorem tq188:I3 Tryz.prog 188=some [.int .i64,.int .i64,.int .u32]:=by kernel_rfl
theorem tq327:I3 Tryz.prog 327=some [.int .u64,.int .i64,.int .i64]:=by kernel_rfl
theorem tq402:I3 Tryz.prog 402=some [.int .i64,.int .i64,.int .i64]:=by kernel_rfl
theorem tq406:I3 Tryz.prog 406=some [.int .i64,.int .i64,.int .i64,.int .i64,.int .i64]:=by kernel_rfl
def tab:Tr TI:=(.nd 168 (⟨.func,1,[.nilFunc]⟩) (.nd 74 (⟨.struct [(0,1),(1,1),(2,1),(3,1),(4,1)],5,[.int .i64 0,.int .i64 0,.string .empty,.slice none 0 0,.slice none 0 0]⟩) (.nd 28 (⟨.slice 74 5 80 [.int .i64 0,.int .i64 0,.string .empty,.slice none 0 0,.slice none 0 0],1,[.slice none 0 0]⟩) (.nd 20 (⟨.iface,1,[.nilIface]⟩) (.nd 4 (⟨.bool,1,[.bool false]⟩) (.nd 2 (⟨.int .i64,1,[.int .i64 0]⟩) (.nd 1 (⟨.func,1,[.nilFunc]⟩) .lf .lf) (.nd 3 (⟨.int .i64,1,[.int .i64 0]⟩) .lf .lf)) (.nd 9 (⟨.string,1,[.string .empty]⟩) (.nd 5 (⟨.int .u8,1,[.int .u8 0]⟩) .lf .lf) .lf)) (.nd 25 (⟨.slice 69 6 64 [.int .i64 0,.int .i64 0,.int .i64 0,.int .i64 0,.int .i64 0,.slice none 0 0],1,[.slice none 0 0]⟩) (.nd 23 (⟨.slice 67 7 80 [.int .i64 0,.int .i64 0,.int .i64 0,.int .i64 0,.int .i64 0,.string .empty,.slice none 0 0],1,[.slice none 0 0]⟩) (.nd 22 (⟨.slice 77 5 48 [.int .i64 0,.int .i64 0,.string .empty,.int .u64 0,.int .u32 0],1,[.slice none 0 0]⟩) .lf .lf) (.nd 24 (⟨.slice 167 3 24 [.int .i64 0,.int .i64 0,.int .i64 0],1,[.slice none 0 0]⟩) .lf .lf)) (.nd 27 (⟨.slice 72 4 48 [.int .i64 0,.int .i64 0,.int .i64 0,.slice none 0 0],1,[.slice none 0 0]⟩) (.nd 26 (⟨.slice 171 4 32 [.int .i64 0,.int .i64 0,.int .i64 0,.int .u64 0],1,[.slice none 0 0]⟩) .lf .lf) .lf))) (.nd 50 (⟨.slice 80 6 80 [.int .i64 0,.int .i64 0,.int .i64 0,.int .i64 0,.slice none 0 0,.slice none 0 0],1,[.slice none 0 0]⟩) (.nd 37 (⟨.slice 102 4 32 [.int .i64 0,.int .i64 0,.int .i64 0,.int .u32 0],1,[.slice none 0 0]⟩) (.nd 31 (⟨.struct [(0,1),(1,1),(2,1),(3,1),(4,1),(5,1),(6,1),(7,1)],8,[.slice none 0 0,.slice none 0 0,.slice none 0 0,.slice none 0 0,.slice none 0 0,.slice none 0 0,.slice none 0 0,.slice none 0 0]⟩) (.nd 29 (⟨.slice 119 5 40 [.int .i64 0,.int .i64 0,.int .i64 0,.int .u32 0,.int .i64 0],1,[.slice none 0 0]⟩) .lf .lf) (.nd 34 (⟨.slice 93 4 32 [.int .i64 0,.int .i64 0,.int .i64 0,.int .u32 0],1,[.slice none 0 0]⟩) .lf .lf)) (.nd 44 (⟨.int .i64,1,[.int .i64 0]⟩) (.nd 43 (⟨.slice 5 1 1 [.int .u8 0],1,[.slice none 0 0]⟩) .lf .lf) .lf)) (.nd 69 (⟨.struct [(0,1),(1,1),(2,1),(3,1),(4,1),(5,1)],6,[.int .i64 0,.int .i64 0,.int .i64 0,.int .i64 0,.int .i64 0,.slice none 0 0]⟩) (.nd 57 (⟨.int .u64,1,[.int .u64 0]⟩) (.nd 56 (⟨.slice 3 1 8 [.int .i64 0],1,[.slice none 0 0]⟩) .lf .lf) (.nd 67 (⟨.struct [(0,1),(1,1),(2,1),(3,1),(4,1),(5,1),(6,1)],7,[.int .i64 0,.int .i64 0,.int .i64 0,.int .i64 0,.int .i64 0,.string .empty,.slice none 0 0]⟩) .lf .lf)) (.nd 72 (⟨.struct [(0,1),(1,1),(2,1),(3,1)],4,[.int .i64 0,.int .i64 0,.int .i64 0,.slice none 0 0]⟩) (.nd 70 (⟨.slice 75 1 4 [.int .u32 0],1,[.slice none 0 0]⟩) .lf .lf) .lf)))) (.nd 112 (⟨.func,1,[.nilFunc]⟩) (.nd 84 (⟨.slice 95 7 56 [.int .i64 0,.int .i64 0,.int .i64 0,.int .i64 0,.int .i64 0,.int .u32 0,.int .i64 0],1,[.slice none 0 0]⟩) (.nd 80 (⟨.struct [(0,1),(1,1),(2,1),(3,1),(4,1),(5,1)],6,[.int .i64 0,.int .i64 0,.int .i64 0,.int .i64 0,.slice none 0 0,.slice none 0 0]⟩) (.nd 77 (⟨.struct [(0,1),(1,1),(2,1),(3,1),(4,1)],5,[.int .i64 0,.int .i64 0,.string .empty,.int .u64 0,.int .u32 0]⟩) (.nd 75 (⟨.int .u32,1,[.int .u32 0]⟩) .lf .lf) (.nd 78 (⟨.slice 4 1 1 [.bool false],1,[.slice none 0 0]⟩) .lf .lf)) (.nd 83 (⟨.array 78 2 1,2,[.slice none 0 0,.slice none 0 0]⟩) (.nd 82 (⟨.ptr,1,[.pointer none]⟩) .lf .lf) .lf)) (.nd 95 (⟨.struct [(0,2),(2,4),(6,1)],7,[.int .i64 0,.int .i64 0,.int .i64 0,.int .i64 0,.int .i64 0,.int .u32 0,.int .i64 0]⟩) (.nd 91 (⟨.struct [(0,1),(1,1)],2,[.int .i64 0,.int .i64 0]⟩) (.nd 86 (⟨.struct [(0,8),(8,2),(10,1)],11,[.slice none 0 0,.slice none 0 0,.slice none 0 0,.slice none 0 0,.slice none 0 0,.slice none 0 0,.slice none 0 0,.slice none 0 0,.slice none 0 0,.slice none 0 0,.slice none 0 0]⟩) .lf .lf) (.nd 93 (⟨.struct [(0,1),(1,1),(2,1),(3,1)],4,[.int .i64 0,.int .i64 0,.int .i64 0,.int .u32 0]⟩) .lf .lf)) (.nd 110 (⟨.struct [(0,1),(1,1),(2,1),(3,1)],4,[.int .u64 0,.int .u64 0,.int .i64 0,.slice none 0 0]⟩) (.nd 102 (⟨.struct [(0,1),(1,1),(2,1),(3,1)],4,[.int .i64 0,.int .i64 0,.int .i64 0,.int .u32 0]⟩) .lf .lf) .lf))) (.nd 131 (⟨.func,1,[.nilFunc]⟩) (.nd 122 (⟨.func,1,[.nilFunc]⟩) (.nd 117 (⟨.struct [(0,1),(1,1)],2,[.int .u32 0,.int .i64 0]⟩) (.nd 115 (⟨.struct [(0,1),(1,1),(2,1),(3,1),(4,1),(5,1),(6,1)],7,[.int .i64 0,.int .i64 0,.int .i64 0,.int .i64 0,.int .u32 0,.int .u32 0,.slice none 0 0]⟩) .lf .lf) (.nd 119 (⟨.struct [(0,1),(1,1),(2,1),(3,2)],5,[.int .i64 0,.int .i64 0,.int .i64 0,.int .u32 0,.int .i64 0]⟩) .lf .lf)) (.nd 128 (⟨.slice 263 3 40 [.int .i64 0,.int .i64 0,.slice none 0 0],1,[.slice none 0 0]⟩) (.nd 125 (⟨.ptr,1,[.pointer none]⟩) .lf .lf) .lf)) (.nd 162 (⟨.func,1,[.nilFunc]⟩) (.nd 160 (⟨.struct [(0,8)],8,[.slice none 0 0,.slice none 0 0,.slice none 0 0,.slice none 0 0,.slice none 0 0,.slice none 0 0,.slice none 0 0,.slice none 0 0]⟩) (.nd 132 (⟨.slice 229 7 72 [.int .i64 0,.int .i64 0,.int .i64 0,.int .u64 0,.int .u64 0,.int .i64 0,.slice none 0 0],1,[.slice none 0 0]⟩) .lf .lf) .lf) (.nd 167 (⟨.struct [(0,1),(1,1),(2,1)],3,[.int .i64 0,.int .i64 0,.int .i64 0]⟩) (.nd 164 (⟨.func,1,[.nilFunc]⟩) .lf .lf) .lf))))) (.nd 298 (⟨.slice 304 9 104 [.int .i64 0,.int .i64 0,.int .i64 0,.slice none 0 0,.int .u64 0,.int .u64 0,.int .i64 0,.slice none 0 0,.int .i64 0],1,[.slice none 0 0]⟩) (.nd 218 (⟨.slice 251 1 24 [.slice none 0 0],1,[.slice none 0 0]⟩) (.nd 188 (⟨.struct [(0,1),(1,1),(2,1)],3,[.int .i64 0,.int .i64 0,.int .u32 0]⟩) (.nd 177 (⟨.func,1,[.nilFunc]⟩) (.nd 172 (⟨.func,1,[.nilFunc]⟩) (.nd 171 (⟨.struct [(0,1),(1,1),(2,1),(3,1)],4,[.int .i64 0,.int .i64 0,.int .i64 0,.int .u64 0]⟩) .lf .lf) (.nd 175 (⟨.func,1,[.nilFunc]⟩) .lf .lf)) (.nd 186 (⟨.slice 188 3 24 [.int .i64 0,.int .i64 0,.int .u32 0],1,[.slice none 0 0]⟩) (.nd 179 (⟨.func,1,[.nilFunc]⟩) .lf .lf) .lf)) (.nd 213 (⟨.struct [(0,0),(0,2)],2,[.int .i32 0,.int .u32 0]⟩) (.nd 204 (⟨.ptr,1,[.pointer none]⟩) (.nd 195 (⟨.int .u64,1,[.int .u64 0]⟩) .lf .lf) (.nd 209 (⟨.struct [(0,0),(0,1)],1,[.int .u32 0]⟩) .lf .lf)) (.nd 217 (⟨.struct [(0,1),(1,3),(4,1)],5,[.slice none 0 0,.int .u32 0,.int .i32 0,.int .u32 0,.slice none 0 0]⟩) (.nd 215 (⟨.struct [(0,0),(0,1),(1,2)],3,[.int .u32 0,.int .i32 0,.int .u32 0]⟩) .lf .lf) .lf))) (.nd 251 (⟨.slice 327 3 24 [.int .u64 0,.int .i64 0,.int .i64 0],1,[.slice none 0 0]⟩) (.nd 225 (⟨.struct [(0,8),(8,1),(9,1),(10,1),(11,1),(12,1),(13,64)],77,[.slice none 0 0,.slice none 0 0,.slice none 0 0,.slice none 0 0,.slice none 0 0,.slice none 0 0,.slice none 0 0,.slice none 0 0,.pointer none,.slice none 0 0,.slice none 0 0,.int .i64 0,.int .i64 0,.int .i64 0,.int .i64 0,.int .i64 0,.int .i64 0,.int .i64 0,.int .i64 0,.int .i64 0,.int .i64 0,.int .i64 0,.int .i64 0,.int .i64 0,.int .i64 0,.int .i64 0,.int .i64 0,.int .i64 0,.int .i64 0,.int .i64 0,.int .i64 0,.int .i64 0,.int .i64 0,.int .i64 0,.int .i64 0,.int .i64 0,.int .i64 0,.int .i64 0,.int .i64 0,.int .i64 0,.int .i64 0,.int .i64 0,.int .i64 0,.int .i64 0,.int .i64 0,.int .i64 0,.int .i64 0,.int .i64 0,.int .i64 0,.int .i64 0,.int .i64 0,.int .i64 0,.int .i64 0,.int .i64 0,.int .i64 0,.int .i64 0,.int .i64 0,.int .i64 0,.int .i64 0,.int .i64 0,.int .i64 0,.int .i64 0,.int .i64 0,.int .i64 0,.int .i64 0,.int .i64 0,.int .i64 0,.int .i64 0,.int .i64 0,.int .i64 0,.int .i64 0,.int .i64 0,.int .i64 0,.int .i64 0,.int .i64 0,.int .i64 0,.int .i64 0]⟩) (.nd 222 (⟨.struct [(0,0),(0,0),(0,1)],1,[.int .i64 0]⟩) (.nd 219 (⟨.slice 132 1 24 [.slice none 0 0],1,[.slice none 0 0]⟩) .lf .lf) (.nd 223 (⟨.array 222 64 1,64,[.int .i64 0,.int .i64 0,.int .i64 0,.int .i64 0,.int .i64 0,.int .i64 0,.int .i64 0,.int .i64 0,.int .i64 0,.int .i64 0,.int .i64 0,.int .i64 0,.int .i64 0,.int .i64 0,.int .i64 0,.int .i64 0,.int .i64 0,.int .i64 0,.int .i64 0,.int .i64 0,.int .i64 0,.int .i64 0,.int .i64 0,.int .i64 0,.int .i64 0,.int .i64 0,.int .i64 0,.int .i64 0,.int .i64 0,.int .i64 0,.int .i64 0,.int .i64 0,.int .i64 0,.int .i64 0,.int .i64 0,.int .i64 0,.int .i64 0,.int .i64 0,.int .i64 0,.int .i64 0,.int .i64 0,.int .i64 0,.int .i64 0,.int .i64 0,.int .i64 0,.int .i64 0,.int .i64 0,.int .i64 0,.int .i64 0,.int .i64 0,.int .i64 0,.int .i64 0,.int .i64 0,.int .i64 0,.int .i64 0,.int .i64 0,.int .i64 0,.int .i64 0,.int .i64 0,.int .i64 0,.int .i64 0,.int .i64 0,.int .i64 0,.int .i64 0]⟩) .lf .lf)) (.nd 233 (⟨.func,1,[.nilFunc]⟩) (.nd 229 (⟨.struct [(0,1),(1,1),(2,1),(3,4)],7,[.int .i64 0,.int .i64 0,.int .i64 0,.int .u64 0,.int .u64 0,.int .i64 0,.slice none 0 0]⟩) .lf .lf) .lf)) (.nd 265 (⟨.func,1,[.nilFunc]⟩) (.nd 263 (⟨.struct [(0,1),(1,1),(2,1)],3,[.int .i64 0,.int .i64 0,.slice none 0 0]⟩) (.nd 253 (⟨.func,1,[.nilFunc]⟩) .lf .lf) .lf) (.nd 280 (⟨.ptr,1,[.pointer none]⟩) (.nd 273 (⟨.func,1,[.nilFunc]⟩) .lf .lf) .lf)))) (.nd 423 (⟨.struct [(0,8)],8,[.slice none 0 0,.slice none 0 0,.slice none 0 0,.slice none 0 0,.slice none 0 0,.slice none 0 0,.slice none 0 0,.slice none 0 0]⟩) (.nd 397 (⟨.ptr,1,[.pointer none]⟩) (.nd 345 (⟨.struct [(0,8),(8,1),(9,1),(10,1),(11,1)],12,[.slice none 0 0,.slice none 0 0,.slice none 0 0,.slice none 0 0,.slice none 0 0,.slice none 0 0,.slice none 0 0,.slice none 0 0,.slice none 0 0,.slice none 0 0,.slice none 0 0,.slice none 0 0]⟩) (.nd 327 (⟨.struct [(0,1),(1,1),(2,1)],3,[.int .u64 0,.int .i64 0,.int .i64 0]⟩) (.nd 304 (⟨.struct [(0,1),(1,1),(2,1),(3,1),(4,4),(8,1)],9,[.int .i64 0,.int .i64 0,.int .i64 0,.slice none 0 0,.int .u64 0,.int .u64 0,.int .i64 0,.slice none 0 0,.int .i64 0]⟩) .lf .lf) (.nd 334 (⟨.func,1,[.nilFunc]⟩) .lf .lf)) (.nd 393 (⟨.func,1,[.nilFunc]⟩) (.nd 363 (⟨.func,1,[.nilFunc]⟩) .lf .lf) .lf)) (.nd 406 (⟨.struct [(0,1),(1,1),(2,1),(3,1),(4,1)],5,[.int .i64 0,.int .i64 0,.int .i64 0,.int .i64 0,.int .i64 0]⟩) (.nd 402 (⟨.struct [(0,1),(1,1),(2,1)],3,[.int .i64 0,.int .i64 0,.int .i64 0]⟩) (.nd 399 (⟨.slice 402 3 24 [.int .i64 0,.int .i64 0,.int .i64 0],1,[.slice none 0 0]⟩) .lf .lf) (.nd 405 (⟨.slice 406 5 40 [.int .i64 0,.int .i64 0,.int .i64 0,.int .i64 0,.int .i64 0],1,[.slice none 0 0]⟩) .lf .lf)) (.nd 415 (⟨.struct [(0,8),(8,1),(9,1),(10,1),(11,1)],12,[.slice none 0 0,.slice none 0 0,.slice none 0 0,.slice none 0 0,.slice none 0 0,.slice none 0 0,.slice none 0 0,.slice none 0 0,.slice none 0 0,.int .i64 0,.int .i64 0,.slice none 0 0]⟩) (.nd 410 (⟨.ptr,1,[.pointer none]⟩) .lf .lf) .lf))) (.nd 474 (⟨.ptr,1,[.pointer none]⟩) (.nd 455 (⟨.iface,1,[.nilIface]⟩) (.nd 428 (⟨.ptr,1,[.pointer none]⟩) (.nd 427 (⟨.ptr,1,[.pointer none]⟩) .lf .lf) (.nd 430 (⟨.ptr,1,[.pointer none]⟩) .lf .lf)) (.nd 472 (⟨.ptr,1,[.pointer none]⟩) (.nd 470 (⟨.ptr,1,[.pointer none]⟩) .lf .lf) .lf)) (.nd 481 (⟨.func,1,[.nilFunc]⟩) (.nd 478 (⟨.struct [(0,8),(8,1)],9,[.int .i64 0,.int .i64 0,.int .i64 0,.int .i64 0,.int .u32 0,.int .u32 0,.slice none 0 0,.int .i64 0,.int .i64 0]⟩) (.nd 476 (⟨.struct [(0,7),(7,1)],8,[.int .i64 0,.int .i64 0,.int .i64 0,.int .i64 0,.int .u32 0,.int .u32 0,.slice none 0 0,.int .i64 0]⟩) .lf .lf) .lf) (.nd 502 (⟨.func,1,[.nilFunc]⟩) (.nd 491 (⟨.array 3 4 1,4,[.int .i64 0,.int .i64 0,.int .i64 0,.int .i64 0]⟩) .lf .lf) .lf))))))
def etab:Tr (List EK):=(.nd 167 ([.int .i64,.int .i64,.int .i64]) (.nd 93 ([.int .i64,.int .i64,.int .i64,.int .u32]) (.nd 91 ([.int .i64,.int .i64]) (.nd 77 ([.int .i64,.int .i64,.string,.int .u64,.int .u32]) .lf .lf) .lf) (.nd 117 ([.int .u32,.int .i64]) (.nd 102 ([.int .i64,.int .i64,.int .i64,.int .u32]) .lf .lf) .lf)) (.nd 327 ([.int .u64,.int .i64,.int .i64]) (.nd 188 ([.int .i64,.int .i64,.int .u32]) (.nd 171 ([.int .i64,.int .i64,.int .i64,.int .u64]) .lf .lf) .lf) (.nd 406 ([.int .i64,.int .i64,.int .i64,.int .i64,.int .i64]) (.nd 402 ([.int .i64,.int .i64,.int .i64]) .lf .lf) .lf)))
theorem tab_ok:tab.all (fun t i=>A4 Tryz.prog t=some i):=⟨ty168,⟨ty74,⟨ty28,⟨ty20,⟨ty4,⟨ty2,⟨ty1,trivial,trivial⟩,⟨ty3,trivial,trivial⟩⟩,⟨ty9,⟨ty5,trivial,trivial⟩,trivial⟩⟩,⟨ty25,⟨ty23,⟨ty22,trivial,trivial⟩,⟨ty24,trivial,trivial⟩⟩,⟨ty27,⟨ty26,trivial,trivial⟩,trivial⟩⟩⟩,⟨ty50,⟨ty37,⟨ty31,⟨ty29,trivial,trivial⟩,⟨ty34,trivial,trivial⟩⟩,⟨ty44,⟨ty43,trivial,trivial⟩,trivial⟩⟩,⟨ty69,⟨ty57,⟨ty56,trivial,trivial⟩,⟨ty67,trivial,trivial⟩⟩,⟨ty72,⟨ty70,trivial,trivial⟩,trivial⟩⟩⟩⟩,⟨ty112,⟨ty84,⟨ty80,⟨ty77,⟨ty75,trivial,trivial⟩,⟨ty78,trivial,trivial⟩⟩,⟨ty83,⟨ty82,trivial,trivial⟩,trivial⟩⟩,⟨ty95,⟨ty91,⟨ty86,trivial,trivial⟩,⟨ty93,trivial,trivial⟩⟩,⟨ty110,⟨ty102,trivial,trivial⟩,trivial⟩⟩⟩,⟨ty131,⟨ty122,⟨ty117,⟨ty115,trivial,trivial⟩,⟨ty119,trivial,trivial⟩⟩,⟨ty128,⟨ty125,trivial,trivial⟩,trivial⟩⟩,⟨ty162,⟨ty160,⟨ty132,trivial,trivial⟩,trivial⟩,⟨ty167,⟨ty164,trivial,trivial⟩,trivial⟩⟩⟩⟩⟩,⟨ty298,⟨ty218,⟨ty188,⟨ty177,⟨ty172,⟨ty171,trivial,trivial⟩,⟨ty175,trivial,trivial⟩⟩,⟨ty186,⟨ty179,trivial,trivial⟩,trivial⟩⟩,⟨ty213,⟨ty204,⟨ty195,trivial,trivial⟩,⟨ty209,trivial,trivial⟩⟩,⟨ty217,⟨ty215,trivial,trivial⟩,trivial⟩⟩⟩,⟨ty251,⟨ty225,⟨ty222,⟨ty219,trivial,trivial⟩,⟨ty223,trivial,trivial⟩⟩,⟨ty233,⟨ty229,trivial,trivial⟩,trivial⟩⟩,⟨ty265,⟨ty263,⟨ty253,trivial,trivial⟩,trivial⟩,⟨ty280,⟨ty273,trivial,trivial⟩,trivial⟩⟩⟩⟩,⟨ty423,⟨ty397,⟨ty345,⟨ty327,⟨ty304,trivial,trivial⟩,⟨ty334,trivial,trivial⟩⟩,⟨ty393,⟨ty363,trivial,trivial⟩,trivial⟩⟩,⟨ty406,⟨ty402,⟨ty399,trivial,trivial⟩,⟨ty405,trivial,trivial⟩⟩,⟨ty415,⟨ty410,trivial,trivial⟩,trivial⟩⟩⟩,⟨ty474,⟨ty455,⟨ty428,⟨ty427,trivial,trivial⟩,⟨ty430,trivial,trivial⟩⟩,⟨ty472,⟨ty470,trivial,trivial⟩,trivial⟩⟩,⟨ty481,⟨ty478,⟨ty476,trivial,trivial⟩,trivial⟩,⟨ty502,⟨ty491,trivial,trivial⟩,trivial⟩⟩⟩⟩⟩⟩
theorem Any:etab.all (fun t i=>I3 Tryz.prog t=some i):=⟨tq167,⟨tq93,⟨tq91,⟨tq77,trivial,trivial⟩,trivial⟩,⟨tq117,⟨tq102,trivial,trivial⟩,trivial⟩⟩,⟨tq327,⟨tq188,⟨tq171,trivial,trivial⟩,trivial⟩,⟨tq406,⟨tq402,trivial,trivial⟩,trivial⟩⟩⟩
def Γ:TyE Tryz.prog:=⟨⟨fun t=>tab.look t,fun _ _ h=>Am2 (Tr.look_ok tab_ok h)⟩,fun t=>etab.look t,fun _ _ h=>Al1 (Tr.look_ok Any h)⟩
theorem hm:Tryz.prog.follows .mixedOrders=true:=by kernel_rfl
abbrev fT (i:Nat) (fn:Func):Prop:=Fun Tryz.prog i fn (Afz fn)
theorem fN {P : Program} {f : FuncId} {fn : Func} (h : P.funcs[f]? = some fn) (hb : fn.body = some (Afz fn) := by exact rfl) (hn : (fn.name == "runtime.NumGoroutine") = false := by kernel_rfl) : Fun P f fn (Afz fn) := ⟨h, hb, hn⟩
theorem cT {f:FuncId} {fn:Func} {c:Code} {A:List SV} {H:Obs} {R:SV} {H':Obs} (hF:Fun Tryz.prog f fn c) {n:Nat} (hn':fn.ntmps=n)
  (h:∀ (F:Fr) (hF:∀ k,F.k0 k≠.new→k∈H.keys),Jk ⟨Tryz.prog,Γ.toTy,F,n,Xm Tryz.prog fn F R H',H.keys,hF⟩ Γ 100 [.code c] ⟨argσ A,mkh H⟩) (hn:Agq A n=true:=by exact rfl):Sy.Spec Tryz.prog f A H R H':=Su Γ hm 100 hF hn' hn h
theorem F4:fT 4 Tryz.f4:=fN Tryz.func4
theorem F7:fT 7 Tryz.f7:=fN Tryz.func7
theorem F8:fT 8 Tryz.f8:=fN Tryz.func8
theorem F9:fT 9 Tryz.f9:=fN Tryz.func9
theorem F10:fT 10 Tryz.f10:=fN Tryz.func10
theorem F13:fT 13 Tryz.f13:=fN Tryz.func13
theorem F14:fT 14 Tryz.f14:=fN Tryz.func14
theorem F15:fT 15 Tryz.f15:=fN Tryz.func15
theorem F16:fT 16 Tryz.f16:=fN Tryz.func16
theorem F22:fT 22 Tryz.f22:=fN Tryz.func22
theorem F23:fT 23 Tryz.f23:=fN Tryz.func23
theorem F24:fT 24 Tryz.f24:=fN Tryz.func24
theorem F25:fT 25 Tryz.f25:=fN Tryz.func25
theorem F26:fT 26 Tryz.f26:=fN Tryz.func26
theorem F27:fT 27 Tryz.f27:=fN Tryz.func27
theorem F28:fT 28 Tryz.f28:=fN Tryz.func28
theorem F29:fT 29 Tryz.f29:=fN Tryz.func29
theorem F30:fT 30 Tryz.f30:=fN Tryz.func30
theorem F31:fT 31 Tryz.f31:=fN Tryz.func31
theorem F32:fT 32 Tryz.f32:=fN Tryz.func32
theorem F35:fT 35 Tryz.f35:=fN Tryz.func35
theorem F36:fT 36 Tryz.f36:=fN Tryz.func36
theorem F41:fT 41 Tryz.f41:=fN Tryz.func41
theorem F42:fT 42 Tryz.f42:=fN Tryz.func42
theorem F43:fT 43 Tryz.f43:=fN Tryz.func43
theorem F44:fT 44 Tryz.f44:=fN Tryz.func44
theorem F45:fT 45 Tryz.f45:=fN Tryz.func45
theorem F46:fT 46 Tryz.f46:=fN Tryz.func46
theorem F47:fT 47 Tryz.f47:=fN Tryz.func47
theorem F48:fT 48 Tryz.f48:=fN Tryz.func48
theorem F49:fT 49 Tryz.f49:=fN Tryz.func49
theorem F50:fT 50 Tryz.f50:=fN Tryz.func50
theorem F51:fT 51 Tryz.f51:=fN Tryz.func51
theorem F52:fT 52 Tryz.f52:=fN Tryz.func52
theorem F53:fT 53 Tryz.f53:=fN Tryz.func53
theorem F54:fT 54 Tryz.f54:=fN Tryz.func54
theorem F55:fT 55 Tryz.f55:=fN Tryz.func55
theorem F71:fT 71 Tryz.f71:=fN Tryz.func71
theorem F72:fT 72 Tryz.f72:=fN Tryz.func72
theorem F73:fT 73 Tryz.f73:=fN Tryz.func73
theorem F74:fT 74 Tryz.f74:=fN Tryz.func74
theorem F75:fT 75 Tryz.f75:=fN Tryz.func75
theorem F76:fT 76 Tryz.f76:=fN Tryz.func76
theorem F77:fT 77 Tryz.f77:=fN Tryz.func77
theorem F78:fT 78 Tryz.f78:=fN Tryz.func78
theorem F79:fT 79 Tryz.f79:=fN Tryz.func79
theorem F80:fT 80 Tryz.f80:=fN Tryz.func80
theorem F81:fT 81 Tryz.f81:=fN Tryz.func81
theorem F82:fT 82 Tryz.f82:=fN Tryz.func82
theorem F83:fT 83 Tryz.f83:=fN Tryz.func83
theorem F84:fT 84 Tryz.f84:=fN Tryz.func84
theorem F85:fT 85 Tryz.f85:=fN Tryz.func85
theorem F86:fT 86 Tryz.f86:=fN Tryz.func86
theorem F87:fT 87 Tryz.f87:=fN Tryz.func87
theorem F88:fT 88 Tryz.f88:=fN Tryz.func88
theorem F89:fT 89 Tryz.f89:=fN Tryz.func89
theorem F90:fT 90 Tryz.f90:=fN Tryz.func90
theorem F91:fT 91 Tryz.f91:=fN Tryz.func91
theorem F92:fT 92 Tryz.f92:=fN Tryz.func92
theorem F93:fT 93 Tryz.f93:=fN Tryz.func93
theorem F94:fT 94 Tryz.f94:=fN Tryz.func94
theorem F95:fT 95 Tryz.f95:=fN Tryz.func95
theorem F96:fT 96 Tryz.f96:=fN Tryz.func96
theorem F97:fT 97 Tryz.f97:=fN Tryz.func97
theorem F98:fT 98 Tryz.f98:=fN Tryz.func98
theorem F99:fT 99 Tryz.f99:=fN Tryz.func99
theorem F103:fT 103 Tryz.f103:=fN Tryz.func103
theorem F104:fT 104 Tryz.f104:=fN Tryz.func104
theorem F105:fT 105 Tryz.f105:=fN Tryz.func105
theorem F106:fT 106 Tryz.f106:=fN Tryz.func106
theorem F107:fT 107 Tryz.f107:=fN Tryz.func107
theorem F108:fT 108 Tryz.f108:=fN Tryz.func108
theorem F109:fT 109 Tryz.f109:=fN Tryz.func109
theorem F110:fT 110 Tryz.f110:=fN Tryz.func110
theorem F111:fT 111 Tryz.f111:=fN Tryz.func111
theorem F112:fT 112 Tryz.f112:=fN Tryz.func112
theorem F113:fT 113 Tryz.f113:=fN Tryz.func113
theorem F114:fT 114 Tryz.f114:=fN Tryz.func114
theorem F115:fT 115 Tryz.f115:=fN Tryz.func115
theorem F116:fT 116 Tryz.f116:=fN Tryz.func116
theorem F117:fT 117 Tryz.f117:=fN Tryz.func117
theorem F118:fT 118 Tryz.f118:=fN Tryz.func118
theorem F119:fT 119 Tryz.f119:=fN Tryz.func119
theorem F120:fT 120 Tryz.f120:=fN Tryz.func120
theorem F121:fT 121 Tryz.f121:=fN Tryz.func121
theorem F122:fT 122 Tryz.f122:=fN Tryz.func122
theorem F137:fT 137 Tryz.f137:=fN Tryz.func137
theorem F138:fT 138 Tryz.f138:=fN Tryz.func138
theorem F139:fT 139 Tryz.f139:=fN Tryz.func139
theorem F140:fT 140 Tryz.f140:=fN Tryz.func140
theorem F141:fT 141 Tryz.f141:=fN Tryz.func141
theorem F142:fT 142 Tryz.f142:=fN Tryz.func142
theorem F143:fT 143 Tryz.f143:=fN Tryz.func143
theorem F144:fT 144 Tryz.f144:=fN Tryz.func144
theorem F145:fT 145 Tryz.f145:=fN Tryz.func145
theorem F146:fT 146 Tryz.f146:=fN Tryz.func146
theorem F147:fT 147 Tryz.f147:=fN Tryz.func147
theorem F148:fT 148 Tryz.f148:=fN Tryz.func148
theorem F149:fT 149 Tryz.f149:=fN Tryz.func149
theorem F150:fT 150 Tryz.f150:=fN Tryz.func150
theorem F151:fT 151 Tryz.f151:=fN Tryz.func151
theorem F156:fT 156 Tryz.f156:=fN Tryz.func156
theorem F157:fT 157 Tryz.f157:=fN Tryz.func157
theorem F158:fT 158 Tryz.f158:=fN Tryz.func158
theorem F159:fT 159 Tryz.f159:=fN Tryz.func159
theorem F160:fT 160 Tryz.f160:=fN Tryz.func160
theorem F161:fT 161 Tryz.f161:=fN Tryz.func161
theorem F162:fT 162 Tryz.f162:=fN Tryz.func162
theorem F163:fT 163 Tryz.f163:=fN Tryz.func163
theorem F164:fT 164 Tryz.f164:=fN Tryz.func164
theorem F165:fT 165 Tryz.f165:=fN Tryz.func165
theorem F166:fT 166 Tryz.f166:=fN Tryz.func166
theorem F167:fT 167 Tryz.f167:=fN Tryz.func167
theorem F168:fT 168 Tryz.f168:=fN Tryz.func168
theorem F169:fT 169 Tryz.f169:=fN Tryz.func169
theorem F170:fT 170 Tryz.f170:=fN Tryz.func170
theorem F171:fT 171 Tryz.f171:=fN Tryz.func171
theorem F172:fT 172 Tryz.f172:=fN Tryz.func172
theorem F173:fT 173 Tryz.f173:=fN Tryz.func173
theorem F174:fT 174 Tryz.f174:=fN Tryz.func174
theorem F175:fT 175 Tryz.f175:=fN Tryz.func175
theorem F176:fT 176 Tryz.f176:=fN Tryz.func176
theorem F177:fT 177 Tryz.f177:=fN Tryz.func177
theorem F178:fT 178 Tryz.f178:=fN Tryz.func178
theorem F179:fT 179 Tryz.f179:=fN Tryz.func179
theorem F180:fT 180 Tryz.f180:=fN Tryz.func180
theorem F181:fT 181 Tryz.f181:=fN Tryz.func181
theorem F182:fT 182 Tryz.f182:=fN Tryz.func182
theorem F201:fT 201 Tryz.f201:=fN Tryz.func201
theorem F202:fT 202 Tryz.f202:=fN Tryz.func202
theorem F203:fT 203 Tryz.f203:=fN Tryz.func203
theorem F204:fT 204 Tryz.f204:=fN Tryz.func204
theorem F205:fT 205 Tryz.f205:=fN Tryz.func205
theorem F206:fT 206 Tryz.f206:=fN Tryz.func206
theorem F207:fT 207 Tryz.f207:=fN Tryz.func207
theorem F208:fT 208 Tryz.f208:=fN Tryz.func208
theorem F209:fT 209 Tryz.f209:=fN Tryz.func209
theorem F210:fT 210 Tryz.f210:=fN Tryz.func210
theorem F216:fT 216 Tryz.f216:=fN Tryz.func216
theorem F218:fT 218 Tryz.f218:=fN Tryz.func218
theorem F219:fT 219 Tryz.f219:=fN Tryz.func219
theorem F220:fT 220 Tryz.f220:=fN Tryz.func220
theorem F221:fT 221 Tryz.f221:=fN Tryz.func221
theorem F222:fT 222 Tryz.f222:=fN Tryz.func222
theorem F223:fT 223 Tryz.f223:=fN Tryz.func223
theorem F224:fT 224 Tryz.f224:=fN Tryz.func224
theorem F225:fT 225 Tryz.f225:=fN Tryz.func225
theorem F226:fT 226 Tryz.f226:=fN Tryz.func226
theorem F227:fT 227 Tryz.f227:=fN Tryz.func227
theorem F228:fT 228 Tryz.f228:=fN Tryz.func228
theorem F229:fT 229 Tryz.f229:=fN Tryz.func229
theorem F230:fT 230 Tryz.f230:=fN Tryz.func230
theorem F231:fT 231 Tryz.f231:=fN Tryz.func231
theorem F232:fT 232 Tryz.f232:=fN Tryz.func232
theorem F233:fT 233 Tryz.f233:=fN Tryz.func233
theorem F234:fT 234 Tryz.f234:=fN Tryz.func234
theorem F235:fT 235 Tryz.f235:=fN Tryz.func235
theorem F236:fT 236 Tryz.f236:=fN Tryz.func236
theorem F237:fT 237 Tryz.f237:=fN Tryz.func237
theorem F238:fT 238 Tryz.f238:=fN Tryz.func238
theorem F239:fT 239 Tryz.f239:=fN Tryz.func239
theorem F240:fT 240 Tryz.f240:=fN Tryz.func240
theorem F241:fT 241 Tryz.f241:=fN Tryz.func241
theorem F242:fT 242 Tryz.f242:=fN Tryz.func242
theorem F243:fT 243 Tryz.f243:=fN Tryz.func243
theorem F244:fT 244 Tryz.f244:=fN Tryz.func244
theorem F245:fT 245 Tryz.f245:=fN Tryz.func245
theorem F246:fT 246 Tryz.f246:=fN Tryz.func246
theorem F247:fT 247 Tryz.f247:=fN Tryz.func247
theorem F268:fT 268 Tryz.f268:=fN Tryz.func268
theorem F269:fT 269 Tryz.f269:=fN Tryz.func269
theorem F270:fT 270 Tryz.f270:=fN Tryz.func270
theorem F271:fT 271 Tryz.f271:=fN Tryz.func271
theorem F272:fT 272 Tryz.f272:=fN Tryz.func272
theorem F273:fT 273 Tryz.f273:=fN Tryz.func273
theorem F278:fT 278 Tryz.f278:=fN Tryz.func278
theorem F279:fT 279 Tryz.f279:=fN Tryz.func279
theorem F280:fT 280 Tryz.f280:=fN Tryz.func280
theorem F281:fT 281 Tryz.f281:=fN Tryz.func281
theorem F282:fT 282 Tryz.f282:=fN Tryz.func282
theorem F283:fT 283 Tryz.f283:=fN Tryz.func283
theorem F284:fT 284 Tryz.f284:=fN Tryz.func284
theorem F285:fT 285 Tryz.f285:=fN Tryz.func285
theorem F286:fT 286 Tryz.f286:=fN Tryz.func286
theorem F287:fT 287 Tryz.f287:=fN Tryz.func287
theorem F288:fT 288 Tryz.f288:=fN Tryz.func288
theorem F289:fT 289 Tryz.f289:=fN Tryz.func289
theorem F290:fT 290 Tryz.f290:=fN Tryz.func290
theorem F291:fT 291 Tryz.f291:=fN Tryz.func291
theorem F292:fT 292 Tryz.f292:=fN Tryz.func292
theorem F293:fT 293 Tryz.f293:=fN Tryz.func293
theorem F294:fT 294 Tryz.f294:=fN Tryz.func294
theorem F295:fT 295 Tryz.f295:=fN Tryz.func295
theorem F296:fT 296 Tryz.f296:=fN Tryz.func296
theorem F297:fT 297 Tryz.f297:=fN Tryz.func297
theorem F298:fT 298 Tryz.f298:=fN Tryz.func298
theorem F299:fT 299 Tryz.f299:=fN Tryz.func299
theorem F300:fT 300 Tryz.f300:=fN Tryz.func300
theorem F301:fT 301 Tryz.f301:=fN Tryz.func301
theorem F302:fT 302 Tryz.f302:=fN Tryz.func302
theorem F303:fT 303 Tryz.f303:=fN Tryz.func303
theorem F304:fT 304 Tryz.f304:=fN Tryz.func304
theorem F305:fT 305 Tryz.f305:=fN Tryz.func305
theorem F306:fT 306 Tryz.f306:=fN Tryz.func306
theorem F308:fT 308 Tryz.f308:=fN Tryz.func308
theorem F309:fT 309 Tryz.f309:=fN Tryz.func309
theorem F310:fT 310 Tryz.f310:=fN Tryz.func310
theorem F326:fT 326 Tryz.f326:=fN Tryz.func326
theorem F327:fT 327 Tryz.f327:=fN Tryz.func327
theorem F328:fT 328 Tryz.f328:=fN Tryz.func328
theorem F329:fT 329 Tryz.f329:=fN Tryz.func329
theorem F330:fT 330 Tryz.f330:=fN Tryz.func330
theorem F331:fT 331 Tryz.f331:=fN Tryz.func331
theorem F332:fT 332 Tryz.f332:=fN Tryz.func332
theorem F333:fT 333 Tryz.f333:=fN Tryz.func333
theorem F334:fT 334 Tryz.f334:=fN Tryz.func334
theorem F335:fT 335 Tryz.f335:=fN Tryz.func335
theorem F336:fT 336 Tryz.f336:=fN Tryz.func336
theorem F337:fT 337 Tryz.f337:=fN Tryz.func337
theorem F338:fT 338 Tryz.f338:=fN Tryz.func338
theorem F339:fT 339 Tryz.f339:=fN Tryz.func339
theorem F340:fT 340 Tryz.f340:=fN Tryz.func340
theorem F341:fT 341 Tryz.f341:=fN Tryz.func341
theorem F342:fT 342 Tryz.f342:=fN Tryz.func342
theorem F343:fT 343 Tryz.f343:=fN Tryz.func343
theorem F344:fT 344 Tryz.f344:=fN Tryz.func344
theorem F345:fT 345 Tryz.f345:=fN Tryz.func345
theorem F346:fT 346 Tryz.f346:=fN Tryz.func346
theorem F347:fT 347 Tryz.f347:=fN Tryz.func347
theorem F348:fT 348 Tryz.f348:=fN Tryz.func348
theorem F349:fT 349 Tryz.f349:=fN Tryz.func349
theorem F350:fT 350 Tryz.f350:=fN Tryz.func350
theorem F351:fT 351 Tryz.f351:=fN Tryz.func351
theorem F352:fT 352 Tryz.f352:=fN Tryz.func352
theorem F357:fT 357 Tryz.f357:=fN Tryz.func357
theorem F358:fT 358 Tryz.f358:=fN Tryz.func358
theorem F359:fT 359 Tryz.f359:=fN Tryz.func359
theorem F360:fT 360 Tryz.f360:=fN Tryz.func360
theorem F361:fT 361 Tryz.f361:=fN Tryz.func361
theorem F362:fT 362 Tryz.f362:=fN Tryz.func362
theorem F363:fT 363 Tryz.f363:=fN Tryz.func363
theorem F372:fT 372 Tryz.f372:=fN Tryz.func372
theorem F373:fT 373 Tryz.f373:=fN Tryz.func373
theorem F375:fT 375 Tryz.f375:=fN Tryz.func375
theorem F380:fT 380 Tryz.f380:=fN Tryz.func380
theorem F381:fT 381 Tryz.f381:=fN Tryz.func381
theorem F382:fT 382 Tryz.f382:=fN Tryz.func382
theorem F383:fT 383 Tryz.f383:=fN Tryz.func383
theorem F384:fT 384 Tryz.f384:=fN Tryz.func384
theorem F386:fT 386 Tryz.f386:=fN Tryz.func386
theorem F387:fT 387 Tryz.f387:=fN Tryz.func387
theorem F421:fT 421 Tryz.f421:=fN Tryz.func421
theorem F422:fT 422 Tryz.f422:=fN Tryz.func422
theorem F423:fT 423 Tryz.f423:=fN Tryz.func423
theorem F424:fT 424 Tryz.f424:=fN Tryz.func424
theorem rg {F:Fr} {n:Nat} {B:Exit→Act→World→Prop} {bn:List Nat} {hbn:∀ k,F.k0 k≠.new→k∈bn} {k:List KI} {s:SS} (h:Jk ⟨Tryz.prog,Γ.toTy,F,n,B,bn,hbn⟩ Γ 400 k s):G ⟨Tryz.prog,Γ.toTy,F,n,B,bn,hbn⟩ k s:=rG Γ hm h
theorem rd {F:Fr} {n:Nat} {B:Exit→Act→World→Prop} {bn:List Nat} {hbn:∀ k,F.k0 k≠.new→k∈bn} {k:List KI} {s:SS} {all:Array Oper} {done:List Stp} {rest:List Oper} (hs:all.toList=done.map (·.o)++rest) (h:Sp ⟨Tryz.prog,Γ.toTy,F,n,B,bn,hbn⟩ Γ 400 k all done rest s):DR ⟨Tryz.prog,Γ.toTy,F,n,B,bn,hbn⟩ k all done rest s:=rD Γ hm hs h
structure Bq (Q:Prop):Prop where out:Q
theorem oO {P Q:Prop} (h:Q) (e:Bq Q→P:=by intro hb;refine rg ?_;(conv=>whnf);exact hb.out):P:=e ⟨h⟩
theorem oF {P Q:Prop} (h:Q) (e:Bq Q→P:=by intro hb;refine rg ?_;(conv=>whnf);refine aF ?_;refine rg ?_;(conv=>whnf);exact hb.out):P:=e ⟨h⟩
theorem oT {P Q:Prop} (h:Q) (e:Bq Q→P:=by intro hb;refine rg ?_;(conv=>whnf);refine aT ?_;refine rg ?_;(conv=>whnf);exact hb.out):P:=e ⟨h⟩
theorem bF {P Q:Prop} (h:Q) (e:Bq Q→P:=by intro hb;refine aF ?_;refine rg ?_;(conv=>whnf);exact hb.out):P:=e ⟨h⟩
theorem bT {P Q:Prop} (h:Q) (e:Bq Q→P:=by intro hb;refine aT ?_;refine rg ?_;(conv=>whnf);exact hb.out):P:=e ⟨h⟩
theorem oD {P Q:Prop} (h:Q) (e:Bq Q→P:=by intro hb;refine rd qq ?_;(conv=>whnf);exact hb.out):P:=e ⟨h⟩
theorem dN {P:Prop} (h:P:=by
 apply Am
 ·exact E
 ·(repeat (first | exact ResVs.nil | (apply ResVs.cons;(first | exact .tmp | exact .cell rfl rfl rfl rfl))))
 ·exact E
 ·exact E):P:=h
theorem iL {a:Int} {K:Prop} (h:K) (e:I64 a:=by unfold I64;omega):I64 a∧K:=⟨e,h⟩
theorem iW {a:Int} {K Q:Prop} (h:Q) (e:I64 a:=by unfold I64;omega) (e2:Bq Q→K:=by intro hb;(conv=>whnf);exact hb.out):I64 a∧K:=⟨e,e2 ⟨h⟩⟩
theorem kW {α:Sort _} {a b:α} {K Q:Prop} (h:Q) (e:a=b:=by kernel_rfl) (e2:Bq Q→K:=by intro hb;(conv=>whnf);exact hb.out):a=b∧K:=⟨e,e2 ⟨h⟩⟩
theorem c0 {C:Cx} {k:List KI} {s:SS} {all:Array Oper} {o:Oper} {rest:List Oper} {f:FuncId} {fn:Func} {c:Code} {xs:List Operand} {ts:Array TypeId} {A:List SV} {R:SV} (hs:Sy.Spec C.P f A [] R []) (hf:Fun C.P f fn c) (hg:G C (.ops all rest::k) (s.upd o.dst ⟨R,[],[]⟩)) (h:o.op=.call ⟨.value (.func f),xs.toArray,ts⟩:=by exact rfl)
  (hA:A=xs.map (ev s):=by exact rfl) (hok:(B1 [] A && R.inn [])=true:=by exact rfl) (hd:L6 C.n o=true:=by exact rfl) (hw:C7 C.n all o s=some true:=by exact rfl):G C (.ops all (o::rest)::k) s:=Sz hs hf h hA hok hd hw hg
theorem cD {C:Cx} {k:List KI} {s:SS} {all:Array Oper} {done:List Stp} {o:Oper} {rest:List Oper} {f:FuncId} {fn:Func} {c:Code} {xs:List Operand} {ts:Array TypeId} {A:List SV} {R:SV} (hs:Sy.Spec C.P f A [] R []) (hf:Fun C.P f fn c) (hg:DR C k all (done++[⟨done.length,o,⟨R,[],[]⟩,true⟩]) rest (s.upd o.dst ⟨R,[],[]⟩)) (h:o.op=.call ⟨.value (.func f),xs.toArray,ts⟩:=by exact rfl)
  (hA:A=xs.map (ev s):=by exact rfl) (hok:(B1 [] A && R.inn [])=true:=by exact rfl) (hi:all[done.length]? = some o:=by kernel_rfl) (hw:C7 C.n all o s=some true:=by exact rfl):DR C k all done (o::rest) s:=Ama hs hf h hA hok hi hw hg
theorem qA {p q:Prop} [Decidable p] (h:decide p=true) (e:p→q:=by intro _h;omega):q:=e (of_decide_eq_true h)
theorem qB {p q:Prop} [Decidable p] (h:decide p=false) (e:¬ p→q:=by intro _h;omega):q:=e (of_decide_eq_false h)
end Go.Sy.YteinjapglfkamaaGreat
namespace Go.Sy.YteinjapglfkamaaGreat
open Go.Proofs
structure Device where
 (row prio:Int) (name:ByteArray) (mac vtep:Int)
structure Port where
 (row dev native cost link:Int) (name:ByteArray) (tagged:List Int)
structure Link where
 (row a b:Int)
structure Domain where
 (dev vlan vni irb row:Int) (peers:List Int)
structure Static where
 (row domain port mac:Int)
structure Flood where
 (row dev vni:Int) (addrs:List Int)
structure Vrf where
 (row dev:Int) (name:ByteArray) (imports exports:List Int)
structure Irb where
 (row domain vrf addr bits:Int)
structure Net where
 (devices:List Device) (ports:List Port) (links:List Link) (domains:List Domain) (statics:List Static) (floods:List Flood) (vrfs:List Vrf) (irbs:List Irb)
def Bf (d:Device):SV:=.agg [Aa d.row,Aa d.prio,Yf d.name,A5 d.mac,Bi d.vtep]
def A2 (p:Port):SV:=.agg [Aa p.row,Aa p.dev,Aa p.native,Aa p.cost,Aa p.link,Yf p.name,.sl 1 Aa p.tagged]
def Cb (l:Link):SV:=.agg [Aa l.row,Aa l.a,Aa l.b]
def Ao (d:Domain):SV:=.agg [Aa d.dev,Aa d.vlan,Aa d.vni,Aa d.irb,Aa d.row,.sl 1 Aa d.peers]
def Bd (s:Static):SV:=.agg [Aa s.row,Aa s.domain,Aa s.port,A5 s.mac]
def Bs (f:Flood):SV:=.agg [Aa f.row,Aa f.dev,Aa f.vni,.sl 1 Bi f.addrs]
def Cn (v:Vrf):SV:=.agg [Aa v.row,Aa v.dev,Yf v.name,.sl 1 Aa v.imports,.sl 1 Aa v.exports]
def Ca (i:Irb):SV:=.agg [Aa i.row,Aa i.domain,Aa i.vrf,Bi i.addr,Aa i.bits]
def Ak8 (n:Net):List SV:=[.sl 5 Bf n.devices,.sl 7 A2 n.ports,.sl 3 Cb n.links,.sl 6 Ao n.domains,.sl 4 Bd n.statics,.sl 4 Bs n.floods,.sl 5 Cn n.vrfs,.sl 5 Ca n.irbs]
def Al (n:Net):SV:=.agg [.sl 5 Bf n.devices,.sl 7 A2 n.ports,.sl 3 Cb n.links,.sl 6 Ao n.domains,.sl 4 Bd n.statics,.sl 4 Bs n.floods,.sl 5 Cn n.vrfs,.sl 5 Ca n.irbs]
instance:Inhabited Device:=⟨⟨0,0,.empty,0,0⟩⟩
instance:Inhabited Port:=⟨⟨0,0,0,0,0,.empty,[]⟩⟩
instance:Inhabited Link:=⟨⟨0,0,0⟩⟩
instance:Inhabited Domain:=⟨⟨0,0,0,0,0,[]⟩⟩
instance:Inhabited Static:=⟨⟨0,0,0,0⟩⟩
instance:Inhabited Flood:=⟨⟨0,0,0,[]⟩⟩
instance:Inhabited Vrf:=⟨⟨0,0,.empty,[],[]⟩⟩
instance:Inhabited Irb:=⟨⟨0,0,0,0,0⟩⟩
def Ag (i:Int) (n:Nat):Bool:=decide (0≤i) && decide (i<n)
def inB (l:List Int) (x:Int):Bool:=l.any (· == x)
def nth {α:Type} [Inhabited α] (l:List α) (i:Int):α:=(l[i.toNat]?).getD default
theorem Ai {α:Type} [Inhabited α] {l:List α} {i:Int} (h:i.toNat<l.length):nth l i=l[i.toNat]:=by
 simp[nth,h]
def B8 {α:Type} (p:α→Bool) (l:List α):Int:=match l.findIdx? p with | some i=>(i:Int) | none=>-1
theorem C6 {α:Type} {p:α→Bool} {l:List α} {j:Nat} (h:j<l.length) (h1:∀ i (hi:i<l.length),i<j→p l[i]=false) (h2:p l[j]=true):B8 p l=j:=by
 have:l.findIdx? p=some j:=by
  rw[List.findIdx?_eq_some_iff_getElem]
  exact⟨h,h2,fun i hi=>by simp[h1 i qn hi]⟩
 simp[B8,this]
theorem Ds {α:Type} {p:α→Bool} {l:List α} (h1:∀ i (hi:i<l.length),p l[i]=false):B8 p l=-1:=by
 have:l.findIdx? p=none:=by
  rw[List.findIdx?_eq_none_iff]
  intro x hx
  obtain ⟨i,hi,rfl⟩:=List.mem_iff_getElem.1 hx
  exact h1 i hi
 simp[B8,this]
theorem D3 {α:Type} (p:α→Bool) (l:List α):B8 p l<l.length:=by
 unfold B8
 split
 ·rename_i i h
  rw[List.findIdx?_eq_some_iff_getElem]at h
  obtain ⟨h,_⟩:=h
  omega
 ·omega
theorem Ans {α:Type} (p:α→Bool) (l:List α):-1≤B8 p l:=by
 unfold B8
 split<;>omega
theorem Acs {α:Type} (p:α→Bool) (l:List α):decide (0≤B8 p l)=l.any p:=by
 unfold B8
 split
 ·rename_i i h
  rw[List.findIdx?_eq_some_iff_getElem]at h
  obtain ⟨h,h2,_⟩:=h
  have:l.any p=true:=List.any_eq_true.2 ⟨_,List.getElem_mem h,h2⟩
  rw[this]
  simp
 ·rename_i h
  rw[List.findIdx?_eq_none_iff]at h
  have:l.any p=false:=by
   rw[List.any_eq_false]
   intro x hx
   simp[h x hx]
  rw[this]
  simp
def Cg {α:Type} (p:Nat→α→Bool) (l:List α):Bool:=l.zipIdx.all fun q=>p q.2 q.1
theorem allB_iff {α:Type} {p:Nat→α→Bool} {l:List α}:Cg p l=true↔∀ i (h:i<l.length),p i l[i]=true:=by
 simp only[Cg,List.all_eq_true]
 constructor
 ·intro h i hi
  exact h (l[i],i) (by rw[List.mk_mem_zipIdx_iff_getElem?];simp[hi])
 ·rintro h ⟨x,i⟩ hx
  rw[List.mk_mem_zipIdx_iff_getElem?]at hx
  obtain ⟨hi,rfl⟩:=List.getElem?_eq_some_iff.1 hx
  exact h i hi
theorem Ajl {α:Type} {p:Nat→α→Bool} {l:List α} (h:∀ i (h:i<l.length),p i l[i]=true):Cg p l=true:=allB_iff.2 h
theorem A1 {α:Type} {p:Nat→α→Bool} {l:List α} {i:Nat} (h:i<l.length) (h1:p i l[i]=false):Cg p l=false:=by
 cases hh:Cg p l with
 | false=>rfl
 | true=>have:=allB_iff.1 hh i h;rw[h1]at this;cases this
def C4 {α:Type} (p:Nat→α→Bool) (l:List α) (j:Nat):Prop:=∀ i (h:i<l.length),i<j→p i l[i]=true
theorem At {α:Type} (p:Nat→α→Bool) (l:List α):C4 p l 0:=fun i h hj=>absurd hj qn
theorem Ap {α:Type} {p:Nat→α→Bool} {l:List α} {j:Nat} (hI:C4 p l j) (hj:j<l.length) (h:p j l[j]=true):C4 p l (j+1):=by
 intro i hi hij
 rcases Nat.lt_or_ge i j with h1 | h1
 ·exact hI i hi h1
 ·have:i=j:=by omega
  subst this
  exact h
theorem B0 {α:Type} {p:Nat→α→Bool} {l:List α} {j:Nat} (hI:C4 p l j) (hj:l.length≤j):Cg p l=true:=Ajl fun i hi=>hI i hi qn
def Aj {α:Type} (l:List α):Prop:=l.length<2147483648
end Go.Sy.YteinjapglfkamaaGreat
namespace Go.Sy
theorem Xl {M:Nat→Prop} {w:World} {sz:Nat} {α:Type} {e:α→SV} {v:Value} (h:v=.slice none 0 0):RdD M w (.sl sz e []) v:=by
 simp only[RdD]
 exact .inl ⟨Y,none,0,h⟩
theorem Adz {C:Cx} {k:List KI} {s:SS} (d:Nat) {sz:Nat} {α β:Type} {e:α→SV} {l:List α} {e':β→SV} {l':List β} (h:s.h d=.row sz e l) (hl:l'.length=l.length)
  (hv:∀ (M:Nat→Prop) (w:World) (i:Nat) (h1:i<l.length) (h2:i<l'.length) (v:Value),RdD M w (e l[i]) v→RdD M w (e' l'[i]) v) (hg:G C k ⟨s.σ,upd s.h d (.row sz e' l')⟩):G C k s:=fun κ a w hs =>
 hg κ a w ⟨hs.defers,hs.size,hs.inv,hs.ctx,hs.slot,fun i=>by
  show ObOK κ w i (upd s.h d (.row sz e' l') i)
  by_cases hi:i=d
  ·subst hi
   rw[Bc]
   have:=hs.obj i
   rw[h]at this
   rcases this with ⟨h1,rfl⟩ | ⟨b,cap,cs,T,fr,e1,e2,e3,e4,e5,e6⟩
   ·exact .inl ⟨h1,List.eq_nil_of_length_eq_zero (by simpa using hl)⟩
   ·refine .inr ⟨b,cap,cs,T,fr,by rw[hl];exact e1,e2,e3,e4,by omega,fun i x hx=>?_⟩
    obtain ⟨hi2,rfl⟩:=hx
    obtain ⟨_,u,hu,hrest⟩:=e6 i (e (l[i]'qn)) ⟨by omega,rfl⟩
    exact⟨hi2,u,hv _ _ i qn hi2 u hu,hrest⟩
  ·rw[Bv _ _ hi];exact hs.obj i⟩
theorem Ag5 {κ:Ka} {w:World} {x:SV}:∀ {l:List SV} {cs:List Value} {i:Nat},RdL κ w l cs→(∀ y v,l[i]? = some y→Rd κ w y v→Rd κ w x v)→RdL κ w (l.set i x) cs
 | [],_,_,h,_=>h
 | y::l,cs,0,h,hx=>by
  simp only[RdL,List.set_cons_zero]at h ⊢
  obtain ⟨v,r,e1,e2,e3⟩:=h
  exact⟨v,r,e1,hx y v E e2,e3⟩
 | y::l,cs,i+1,h,hx=>by
  simp only[RdL,List.set_cons_succ]at h ⊢
  obtain ⟨v,r,e1,e2,e3⟩:=h
  exact⟨v,r,e1,e2,Ag5 e3 (fun z u hz hu=>hx z u hz hu)⟩
theorem Ad0 {C:Cx} {k:List KI} {s:SS} (b i d sz:Nat) {α:Type} (e:α→SV) {l:List SV} (hb:s.h b=.box l) (h:l[i]? = some (.val (.slice none 0 0))) (hd:s.h d=.fresh) (hbd:Nat.beq b d=false)
  (hg:G C k ⟨s.σ,upd (upd s.h b (.box (l.set i (.osl d)))) d (.row sz e [])⟩):G C k s:=fun κ a w hs=>by
 have hne:b≠d:=fun e=>by rw[e,Nat.beq_refl]at hbd;cases hbd
 have hnew:κ d=.new:=by have:=hs.obj d;rwa [hd]at this
 obtain ⟨st,inv⟩:=Ey hs.inv hnew (e:=.nil) (Grew.refl w) (fun b hb=>by cases hb)
 refine hg (Cr κ d .nil) a w ⟨hs.defers,hs.size,inv,hs.ctx.step inv st,fun j=>Rd.step st _ _ (hs.slot j),fun j=>?_⟩
 show ObOK _ w j (upd (upd s.h b (.box (l.set i (.osl d)))) d (.row sz e []) j)
 by_cases hj:j=d
 ·subst hj;rw[Bc];exact .inl ⟨An _ _ _,rfl⟩
 ·rw[Bv _ _ hj]
  by_cases hjb:j=b
  ·subst hjb
   rw[Bc]
   have:=ObOK.step st hj _ (hs.obj j)
   rw[hb]at this
   obtain ⟨b',cs,T,fr,e1,e2,e3,e4,e5⟩:=this
   refine⟨b',cs,T,fr,e1,e2,e3,e4,Ag5 e5 fun y v hy hv=>?_⟩
   rw[h]at hy
   cases hy
   simp only[Rd]at hv
   simp only[Rd,An]
   exact hv
  ·rw[Bv _ _ hjb];exact ObOK.step st hj _ (hs.obj j)
theorem Mx {P:Program} (w:World) {t e:TypeId} (h:P.underlying t=some (.slice e)) (ad:Option Addr) (n cap c1 c2:Nat):(Op.equal t (.slice ad n cap) (.slice none c1 c2)).run P w=.ok ad.isNone w:=by
 have key:∀ d,(Op.equalIn (d+1) t (.slice ad n cap) (.slice none c1 c2)).run P w=.ok ad.isNone w:=fun d=>by
  cases ad<;>simp[Op.equalIn,run_underlying h]
 exact key 9999
inductive NilT (s:SS):SV→List Nat→Nat→Prop
 | sl {sz:Nat} {α:Type} {e:α→SV} {l:List α}:NilT s (.sl sz e l) [] l.length
 | row {k sz:Nat} {α:Type} {e:α→SV} {l:List α} (h:s.h k=.row sz e l):NilT s (.osl k) [k] l.length
theorem NilT.at {C:Cx} {s:SS} {κ:Ka} {a:Act} {w:World} {x:Operand} {rd:List Nat} {n:Nat} (hs:St C.F C.n s κ a w) (hx:NilT s (ev s x) rd n):∃ (ad:Option Addr) (m cap:Nat),a.eval x=.slice ad m cap∧(ad.isNone=true→n=0):=by
 have h1:Rd κ w (ev s x) (a.eval x):=hs.ev x
 generalize ev s x=y at *
 cases hx with
 | @sl sz α e l =>
  simp only[Rd,RdD]at h1
  rcases h1 with ⟨rfl,a',cap,h1⟩ | ⟨b,off,cap,h1,_⟩
  ·exact⟨_,_,_,h1,fun _=>rfl⟩
  ·exact⟨_,_,_,h1,fun h=>by cases h⟩
 | @row k' sz α e l hr =>
  have hob:=hs.obj k'
  rw[hr]at hob
  simp only[Rd]at h1
  rcases hob with ⟨hκ,hl⟩ | ⟨b,cap,_,_,_,hκ,_⟩
  ·rw[hκ]at h1
   exact⟨_,_,_,h1,fun _=>by rw[hl];rfl⟩
  ·rw[hκ]at h1
   exact⟨_,_,_,h1,fun h=>by cases h⟩
theorem Dw {C:Cx} {k:List KI} {s:SS} {all:Array Oper} {o:Oper} {rest:List Oper} {op:BinOp} {t yt:TypeId} {ti:TI} {et:TypeId} {sz eb n:Nat} {ez:List Value} {x y:Operand} {rd:List Nat} (h:o.op=.binOp op t x y yt) (hop:op=.eql∨op=.neq)
  (ht:C.Γ.get t=some ti) (hk:ti.k=.slice et sz eb ez) (hy:ev s y=.val (.slice none 0 0)) (hx:NilT s (ev s x) rd n) (hd:L6 C.n o=true) (hw:C7 C.n all o s=some true)
  (hg:∀ b:Bool,(b=true→n=0)→G C (.ops all rest::k) (s.upd o.dst ⟨.val (.bool (if op=.eql then b else !b)),rd,[]⟩)):G C (.ops all (o::rest)::k) s:=fun κ a w hs=>by
 have h2:Rd κ w (ev s y) (a.eval y):=hs.ev y
 rw[hy]at h2
 obtain ⟨ad,m,cap,e1,e2⟩:=hx.at hs
 obtain ⟨d,info,z,k1,k2,_⟩:=C.Γ.ok t ti ht
 rw[hk]at k2
 simp only[TK.ok]at k2
 have hrun:=Mx (P:=C.P) w (t:=t) (e:=et) (by first | exact k2.1 ▸ k1 | (rw[k1,k2.1])) ad m cap 0 0
 have hG:=hg ad.isNone e2
 have hv:=h2.val
 refine wpList_step fun K hK=>?_
 rw[if_pos (Qe hs (Dt hw).2 (Dt hw).1)]
 have hx':(execOp a.eval o).run C.P w=.ok (.value (.bool (if op=.eql then ad.isNone else !ad.isNone))) w:=by
  rcases hop with rfl | rfl<;>simp[execOp,h,e1,hv,eqGuard,binOp,hrun]
 simp only[Oper.wp,hx',Oper.upon]
 exact hK _ _ (hG κ _ w (hs.put (U:=⟨.val (.bool (if op=.eql then ad.isNone else !ad.isNone)),rd,[]⟩) (W2 hd) (Step.refl _ κ w) hs.inv (by simp[Rd]) (fun p hp=>by cases hp)))
def KeepL (s:SS):List (Nat × Ob)→Prop
 | []=>True
 | (k,o)::r=>s.h k=o∧KeepL s r
theorem KeepL.all {s:SS}:∀ {l:List (Nat × Ob)},KeepL s l→∀ p∈l,s.h p.1=p.2
 | [],_,p,hp=>by cases hp
 | (k,o)::r,h,p,hp=>by
  rcases List.mem_cons.1 hp with rfl | hp
  ·exact h.1
  ·exact KeepL.all h.2 p hp
theorem stepD2 {C:Cx} {k:List KI} {s:SS} {all:Array Oper} {done:List Stp} {o:Oper} {rest:List Oper} {U:Up} (hg:Good C.P o s U) (hk:KeepL s U.objs) (hi:all[done.length]? = some o) (hw:C7 C.n all o s=some true)
  (h:DR C k all (done++[⟨done.length,o,⟨U.v,U.rd++U.ws,[]⟩,true⟩]) rest (s.upd o.dst ⟨U.v,U.rd++U.ws,[]⟩)) (hn:(Eu o || Je o)=false:=by rfl):DR C k all done (o::rest) s :=
 Ams _ (.of2 (hg.keep hk.all) hn) hi (Dt hw).1 h
theorem Ahj {κ:Ka} {w w':World} (hi:Inv κ w) (g:Grew w w'):Step (fun _=>False) κ w κ w'∧Inv κ w' :=
 ⟨⟨g.size,g.os,g.tape,g.output,rfl,fun b hb=>g.blk b (hi.mbnd b hb),fun b hb _=>g.blk b hb,fun k b _ hb=>g.blk b (hi.bnd k b hb),fun _ _=>rfl,fun _ h=>h.elim,fun _ h=>.inl h⟩,
  ⟨hi.inj,fun k b h=>Nat.lt_of_lt_of_le (hi.bnd k b h) g.size,hi.apart,fun b h=>Nat.lt_of_lt_of_le (hi.mbnd b h) g.size⟩⟩
theorem Alu {P:Program} {o:Oper} {s:SS} {x y:Operand} {at_:Array TypeId} {k k':IntKind} {m n:Int} (h:o.op=.call ⟨.builtin .min,#[x,y],at_⟩)
  (hx:ev s x=.val (.int k m)) (hy:ev s y=.val (.int k' n)):Good P o s ⟨.val (.int k (if n<m then n else m)),[],[]⟩ :=
 Good.pure fun κ a w _ hr ho=>by
  have h1:=hr x (by simp[h,Op.operands,Call.operands])
  have h2:=hr y (by simp[h,Op.operands,Call.operands])
  rw[hx]at h1
  rw[hy]at h2
  refine⟨.int k (if n<m then n else m),?_,by simp[Rd]⟩
  simp[execOp,h,resolve,invoke,builtin,Builtin.min_,Builtin.min2,h1.val,h2.val]
end Go.Sy
namespace Go.Sy.YteinjapglfkamaaGreat
open Go.Proofs
attribute [local irreducible] Go.Sy.G Go.Sy.DR
set_option maxRecDepth 20000
set_option maxHeartbeats 4000000
theorem Ed {α:Type} (sz:Nat) (e:α→SV) (l:List α) (i:Int):Sy.Spec Tryz.prog 83 [.sl sz e l,Aa i] [] (Ab (Ag i l.length)) []:=cT F83 Tryz.ntmps83 fun F hF=>by
 conv=>whnf
 (repeat' (first | (refine⟨fun h=>?_,fun h=>?_⟩<;>(repeat (first | simp only[decide_eq_true_eq]at h | simp only[decide_eq_false_iff_not]at h))<;>((refine oO ?_))) | (refine Am rfl (.cons .tmp .nil) ?_ rfl)))
 all_goals (refine congrArg Ab ?_)
 all_goals grind [Ag]
theorem Aer {α:Type} (sz:Nat) (e:α→SV) (l:List α) (i:Int):Sy.Spec Tryz.prog 137 [.sl sz e l,Aa i] [] (Ab (Ag i l.length)) []:=cT F137 Tryz.ntmps137 fun F hF=>by
 conv=>whnf
 (repeat' (first | (refine⟨fun h=>?_,fun h=>?_⟩<;>(repeat (first | simp only[decide_eq_true_eq]at h | simp only[decide_eq_false_iff_not]at h))<;>((refine oO ?_))) | (refine Am rfl (.cons .tmp .nil) ?_ rfl)))
 all_goals (refine congrArg Ab ?_)
 all_goals grind [Ag]
theorem Aby {α:Type} (sz:Nat) (e:α→SV) (l:List α) (i:Int):Sy.Spec Tryz.prog 142 [.sl sz e l,Aa i] [] (Ab (Ag i l.length)) []:=cT F142 Tryz.ntmps142 fun F hF=>by
 conv=>whnf
 (repeat' (first | (refine⟨fun h=>?_,fun h=>?_⟩<;>(repeat (first | simp only[decide_eq_true_eq]at h | simp only[decide_eq_false_iff_not]at h))<;>((refine oO ?_))) | (refine Am rfl (.cons .tmp .nil) ?_ rfl)))
 all_goals (refine congrArg Ab ?_)
 all_goals grind [Ag]
theorem Lp {α:Type} (sz:Nat) (e:α→SV) (l:List α) (i:Int):Sy.Spec Tryz.prog 143 [.sl sz e l,Aa i] [] (Ab (Ag i l.length)) []:=cT F143 Tryz.ntmps143 fun F hF=>by
 conv=>whnf
 (repeat' (first | (refine⟨fun h=>?_,fun h=>?_⟩<;>(repeat (first | simp only[decide_eq_true_eq]at h | simp only[decide_eq_false_iff_not]at h))<;>((refine oO ?_))) | (refine Am rfl (.cons .tmp .nil) ?_ rfl)))
 all_goals (refine congrArg Ab ?_)
 all_goals grind [Ag]
theorem Hd {α:Type} (sz:Nat) (e:α→SV) (l:List α) (i:Int):Sy.Spec Tryz.prog 92 [.sl sz e l,Aa i] [] (Ab (Ag i l.length)) []:=cT F92 Tryz.ntmps92 fun F hF=>by
 conv=>whnf
 (repeat' (first | (refine⟨fun h=>?_,fun h=>?_⟩<;>(repeat (first | simp only[decide_eq_true_eq]at h | simp only[decide_eq_false_iff_not]at h))<;>((refine oO ?_))) | (refine Am rfl (.cons .tmp .nil) ?_ rfl)))
 all_goals (refine congrArg Ab ?_)
 all_goals grind [Ag]
theorem Aeq {α:Type} (sz:Nat) (e:α→SV) (l:List α) (i:Int):Sy.Spec Tryz.prog 145 [.sl sz e l,Aa i] [] (Ab (Ag i l.length)) []:=cT F145 Tryz.ntmps145 fun F hF=>by
 conv=>whnf
 (repeat' (first | (refine⟨fun h=>?_,fun h=>?_⟩<;>(repeat (first | simp only[decide_eq_true_eq]at h | simp only[decide_eq_false_iff_not]at h))<;>((refine oO ?_))) | (refine Am rfl (.cons .tmp .nil) ?_ rfl)))
 all_goals (refine congrArg Ab ?_)
 all_goals grind [Ag]
theorem Alm (l:List Int) (x:Int) (hl:Aj l):Sy.Spec Tryz.prog 91 [.sl 1 Aa l,Aa x] [] (Aa (B8 (· == x) l)) []:=cT F91 Tryz.ntmps91 fun F hF=>by
 unfold Aj at hl
 conv=>whnf
 refine Ay l.length (fun j=>∀ i (h:i<l.length),i<j→(l[i] == x)=false) (fun j=>[(0,.sl 1 Aa l),(1,Aa x),(7,Aa l.length),(8,Aa j)]) (fun _=>[]) [] (fun i h hj=>absurd hj qn) ⟨⟨E,E,E,E,E,E,E,E,Y⟩,Y,E,E⟩ ?_
 intro j hj hI
 refine oO ?_
 (repeat' (first | (refine⟨fun h=>?_,fun h=>?_⟩<;>(repeat (first | simp only[decide_eq_true_eq]at h | simp only[decide_eq_false_iff_not]at h | simp only[beq_iff_eq]at h | simp only[beq_eq_false_iff_ne]at h))<;>((refine oO ?_))) | (refine Am rfl (.cons .tmp .nil) ?_ rfl) | (refine⟨qq,?_⟩;((conv=>whnf))) | (refine⟨by (omega),by (omega),?_⟩;((conv=>whnf))) | (refine⟨by (unfold I64;omega),?_⟩;((conv=>whnf))) | refine Aw [] hI qn ?_ ⟨⟨rfl,rfl,rfl,rfl,rfl,rfl,rfl,rfl,trivial⟩,trivial,rfl,rfl⟩))
 all_goals try (refine congrArg Aa ?_)
 ·exact C6 qn hI (by simpa using h.symm)
 ·intro i hi hij
  rcases Nat.lt_or_ge i j with h1 | h1
  ·exact hI i hi h1
  ·have:i=j:=by omega
   subst this
   simpa using Ne.symm h
 ·exact Ds (fun i hi=>hI i hi qn)
theorem Cq (l:List Int) (x:Int) (hl:Aj l):Sy.Spec Tryz.prog 25 [.sl 1 Aa l,Aa x] [] (Ab (inB l x)) []:=cT F25 Tryz.ntmps25 fun F hF=>by
 conv=>whnf
 (repeat' (first | (refine Am rfl (.cons .tmp .nil) ?_ rfl) | (refine c0 (Alm _ _ hl) F91 ?_;((refine oO ?_)))))
 exact congrArg Ab (Acs _ _).symm
def Dk (p:Port) (v:Int):Bool:=v != 0 && (v == p.native || inB p.tagged v)
theorem U4 (p:Port) (v:Int) (hl:Aj p.tagged):Sy.Spec Tryz.prog 93 [A2 p,Aa v] [] (Ab (Dk p v)) []:=cT F93 Tryz.ntmps93 fun F hF=>by
 conv=>whnf
 (repeat' (first | (refine⟨fun h=>?_,fun h=>?_⟩<;>(repeat (first | simp only[beq_iff_eq]at h | simp only[beq_eq_false_iff_ne]at h | simp only[bne_iff_ne]at h | simp only[bne_eq_false_iff_eq]at h))<;>((refine oO ?_))) | (refine Am rfl (.cons .tmp .nil) ?_ rfl) | (refine c0 (Cq _ _ hl) F25 ?_;((refine oO ?_)))))
 all_goals (refine congrArg Ab ?_)
 all_goals grind [Dk]
def Jq (l:List Int) (least most:Int) (i:Nat) (x:Int):Bool:=decide (least≤x) && decide (x≤most) && (i == 0 || decide (nth l ((i:Int)-1)<x))
def C0 (l:List Int) (least most:Int):Bool:=decide (0<l.length) && decide (l.length≤16) && Cg (Jq l least most) l
theorem Aez (l:List Int) (least most:Int) (hl:Aj l):Sy.Spec Tryz.prog 144 [.sl 1 Aa l,Aa least,Aa most] [] (Ab (C0 l least most)) []:=cT F144 Tryz.ntmps144 fun F hF=>by
 unfold Aj at hl
 conv=>whnf
 refine Ay l.length (fun j=>C4 (Jq l least most) l j) (fun j=>[(0,.sl 1 Aa l),(1,Aa least),(2,Aa most),(9,.sl 1 Aa l),(10,Aa l.length),(11,Aa j)]) (fun _=>[]) [] (At _ _) ⟨⟨E,E,E,E,E,E,E,E,E,E,E,E,Y⟩,Y,E,E⟩ ?_
 intro j hj hI
 refine oO ?_
 (repeat' (first | (refine⟨fun h=>?_,fun h=>?_⟩<;>(repeat (first | simp only[decide_eq_true_eq]at h | simp only[decide_eq_false_iff_not]at h))<;>((refine oO ?_);repeat((first|refine aF ?_|refine aT ?_);(refine oO ?_)))) | (refine Am rfl (.cons .tmp .nil) ?_ rfl) | (refine⟨qq,?_⟩;((conv=>whnf))) | (refine⟨by (first | (unfold I64;omega) | omega),by (omega),?_⟩;((conv=>whnf))) | (refine⟨by (unfold I64;omega),?_⟩;((conv=>whnf))) | refine Aw [] hI qn ?_ ⟨⟨rfl,rfl,rfl,rfl,rfl,rfl,rfl,rfl,rfl,rfl,rfl,rfl,trivial⟩,trivial,rfl,rfl⟩))
 all_goals try (refine congrArg Ab ?_)
 all_goals try simp only[Int.toNat_natCast,Int.pred_toNat]at *
 ·rw[C0,A1 (i:=j) qn (by simp[Jq];omega)];simp
 ·rw[C0,A1 (i:=j) qn (by simp[Jq];omega)];simp
 ·rw[C0,A1 (i:=j) qn (by simp only[Jq,Ai (show ((j:Int)-1).toNat<l.length by omega),Int.pred_toNat,Int.toNat_natCast];simp;omega)];simp
 ·exact Ap hI qn (by simp only[Jq,Ai (show ((j:Int)-1).toNat<l.length by omega),Int.pred_toNat,Int.toNat_natCast];simp;omega)
 ·exact Ap hI qn (by simp[Jq];omega)
 ·rw[C0,B0 hI qn,Bool.eq_iff_iff];simp;omega
 ·rw[C0];simp;omega
theorem Zn (l:List Int) (most:Int) (hl:Aj l):Sy.Spec Tryz.prog 86 [.sl 1 Aa l,Aa most] [] (Ab (decide (l.length=0) || C0 l 1 most)) []:=cT F86 Tryz.ntmps86 fun F hF=>by
 conv=>whnf
 (repeat' (first | (refine⟨fun h=>?_,fun h=>?_⟩<;>(repeat (first | simp only[beq_iff_eq]at h | simp only[beq_eq_false_iff_ne]at h))<;>((refine oO ?_))) | (refine Am rfl (.cons .tmp .nil) ?_ rfl) | (refine c0 (Aez l 1 most hl) F144 ?_;((refine oO ?_)))))
 all_goals (refine congrArg Ab ?_)
 all_goals grind
theorem Lz {K:List Nat}:∀ (a b:List SV),B1 K (a++b)=(B1 K a && B1 K b)
 | [],b=>by simp[B1]
 | x::a,b=>by simp[B1,Lz a b,Bool.and_assoc]
theorem Cj {f:FuncId} {first cap xs:List SV} (hc:(SV.clo (.func f) first cap).inn []=true) (hx:B1 [] xs=true):B1 [] (first++xs++cap)=true:=by
 simp only[SV.inn,Bool.and_eq_true]at hc
 rw[Lz,Lz,hc.1,hc.2,hx]
 rfl
theorem E1 (l:List Domain) (p:Domain→Bool) (f:FuncId) (first cap:List SV) (hc:(SV.clo (.func f) first cap).inn []=true) (hf:∀ x∈l,E6 Tryz.prog f (first++[Ao x]++cap) (Ab (p x))) (hl:Aj l) :
  Sy.Spec Tryz.prog 201 [.sl 6 Ao l,.clo (.func f) first cap] [] (Aa (B8 p l)) []:=cT F201 Tryz.ntmps201 fun F hF=>by
 unfold Aj at hl
 have hin:∀ x:Domain,B1 [] (first++[Ao x]++cap)=true:=fun x=>Cj hc rfl
 conv=>whnf
 refine Ay l.length (fun j=>C4 (fun _ x=>!(p x)) l j) (fun j=>[(0,.sl 6 Ao l),(1,.clo (.func f) first cap),(7,Aa l.length),(8,Aa j)]) (fun _=>[]) [] (At _ _) ⟨⟨E,E,A7 _,hc,E,E,E,E,Y⟩,Y,E,E⟩ ?_
 intro j hj hI
 refine oO ?_
 refine⟨fun h=>?_,fun h=>?_⟩
 ·have h:=of_decide_eq_true h
  have hj2:j<l.length:=by omega
  refine oO ?_
  refine⟨E,by omega,by omega,?_⟩
  conv=>whnf
  refine Dp (hf l[j] (List.getElem_mem hj2)) E E E (by simp only[hin];rfl) E E ?_
  refine oO ?_
  refine⟨fun h2=>?_,fun h2=>?_⟩
  ·refine oO ?_
   refine Am E (.cons .tmp .nil) (congrArg Aa ?_) E
   exact C6 hj2 (fun i hi hij=>by simpa using hI i hi hij) h2
  ·refine oO ?_
   refine iW ?_
   exact Aw [] hI hj2 (Ap hI hj2 (by simp[h2])) ⟨⟨E,E,A7 _,hc,E,E,E,E,Y⟩,Y,E,E⟩
 ·have h:=of_decide_eq_false h
  refine oO ?_
  refine Am E (.cons .tmp .nil) (congrArg Aa ?_) E
  exact Ds (fun i hi=>by simpa using hI i hi qn)
theorem Uv (l:List Port) (p:Port→Bool) (f:FuncId) (first cap:List SV) (hc:(SV.clo (.func f) first cap).inn []=true) (hf:∀ x∈l,E6 Tryz.prog f (first++[A2 x]++cap) (Ab (p x))) (hl:Aj l) :
  Sy.Spec Tryz.prog 332 [.sl 7 A2 l,.clo (.func f) first cap] [] (Aa (B8 p l)) []:=cT F332 Tryz.ntmps332 fun F hF=>by
 unfold Aj at hl
 have hin:∀ x:Port,B1 [] (first++[A2 x]++cap)=true:=fun x=>Cj hc rfl
 conv=>whnf
 refine Ay l.length (fun j=>C4 (fun _ x=>!(p x)) l j) (fun j=>[(0,.sl 7 A2 l),(1,.clo (.func f) first cap),(7,Aa l.length),(8,Aa j)]) (fun _=>[]) [] (At _ _) ⟨⟨E,E,A7 _,hc,E,E,E,E,Y⟩,Y,E,E⟩ ?_
 intro j hj hI
 refine oO ?_
 refine⟨fun h=>?_,fun h=>?_⟩
 ·have h:=of_decide_eq_true h
  have hj2:j<l.length:=by omega
  refine oO ?_
  refine⟨E,by omega,by omega,?_⟩
  conv=>whnf
  refine Dp (hf l[j] (List.getElem_mem hj2)) E E E (by simp only[hin];rfl) E E ?_
  refine oO ?_
  refine⟨fun h2=>?_,fun h2=>?_⟩
  ·refine oO ?_
   refine Am E (.cons .tmp .nil) (congrArg Aa ?_) E
   exact C6 hj2 (fun i hi hij=>by simpa using hI i hi hij) h2
  ·refine oO ?_
   refine iW ?_
   exact Aw [] hI hj2 (Ap hI hj2 (by simp[h2])) ⟨⟨E,E,A7 _,hc,E,E,E,E,Y⟩,Y,E,E⟩
 ·have h:=of_decide_eq_false h
  refine oO ?_
  refine Am E (.cons .tmp .nil) (congrArg Aa ?_) E
  exact Ds (fun i hi=>by simpa using hI i hi qn)
theorem Ajj (l:List Port) (p:Nat→Port→Bool) (f:FuncId) (first cap:List SV) (hc:(SV.clo (.func f) first cap).inn []=true) (hf:∀ i (h:i<l.length),E6 Tryz.prog f (first++[Aa i,A2 l[i]]++cap) (Ab (p i l[i]))) (hl:Aj l) :
  Sy.Spec Tryz.prog 75 [.sl 7 A2 l,.clo (.func f) first cap] [] (Ab (Cg p l)) []:=cT F75 Tryz.ntmps75 fun F hF=>by
 unfold Aj at hl
 have hin:∀ (i:Nat) (x:Port),B1 [] (first++[Aa i,A2 x]++cap)=true:=fun i x=>Cj hc rfl
 conv=>whnf
 refine Ay l.length (fun j=>C4 p l j) (fun j=>[(0,.sl 7 A2 l),(1,.clo (.func f) first cap),(7,.sl 7 A2 l),(8,Aa l.length),(9,Aa j)]) (fun _=>[]) [] (At _ _) ⟨⟨E,E,A7 _,hc,E,E,E,E,E,E,Y⟩,Y,E,E⟩ ?_
 intro j hj hI
 refine oO ?_
 refine⟨fun h=>?_,fun h=>?_⟩
 ·have h:=of_decide_eq_true h
  have hj2:j<l.length:=by omega
  refine oO ?_
  refine⟨E,by omega,by omega,?_⟩
  conv=>whnf
  refine Dp (hf j hj2) E E E (by simp only[hin];rfl) E E ?_
  refine oO ?_
  refine⟨fun h2=>?_,fun h2=>?_⟩
  ·refine oO ?_
   refine Am E (.cons .tmp .nil) (congrArg Ab ?_) E
   exact A1 hj2 (by simpa using h2)
  ·refine oO ?_
   refine iW ?_
   exact Aw [] hI hj2 (Ap hI hj2 (by simpa using h2)) ⟨⟨E,E,A7 _,hc,E,E,E,E,E,E,Y⟩,Y,E,E⟩
 ·have h:=of_decide_eq_false h
  refine oO ?_
  refine Am E (.cons .tmp .nil) (congrArg Ab ?_) E
  exact B0 hI qn
theorem Ajk (l:List Link) (p:Nat→Link→Bool) (f:FuncId) (first cap:List SV) (hc:(SV.clo (.func f) first cap).inn []=true) (hf:∀ i (h:i<l.length),E6 Tryz.prog f (first++[Aa i,Cb l[i]]++cap) (Ab (p i l[i]))) (hl:Aj l) :
  Sy.Spec Tryz.prog 77 [.sl 3 Cb l,.clo (.func f) first cap] [] (Ab (Cg p l)) []:=cT F77 Tryz.ntmps77 fun F hF=>by
 unfold Aj at hl
 have hin:∀ (i:Nat) (x:Link),B1 [] (first++[Aa i,Cb x]++cap)=true:=fun i x=>Cj hc rfl
 conv=>whnf
 refine Ay l.length (fun j=>C4 p l j) (fun j=>[(0,.sl 3 Cb l),(1,.clo (.func f) first cap),(7,.sl 3 Cb l),(8,Aa l.length),(9,Aa j)]) (fun _=>[]) [] (At _ _) ⟨⟨E,E,A7 _,hc,E,E,E,E,E,E,Y⟩,Y,E,E⟩ ?_
 intro j hj hI
 refine oO ?_
 refine⟨fun h=>?_,fun h=>?_⟩
 ·have h:=of_decide_eq_true h
  have hj2:j<l.length:=by omega
  refine oO ?_
  refine⟨E,by omega,by omega,?_⟩
  conv=>whnf
  refine Dp (hf j hj2) E E E (by simp only[hin];rfl) E E ?_
  refine oO ?_
  refine⟨fun h2=>?_,fun h2=>?_⟩
  ·refine oO ?_
   refine Am E (.cons .tmp .nil) (congrArg Ab ?_) E
   exact A1 hj2 (by simpa using h2)
  ·refine oO ?_
   refine iW ?_
   exact Aw [] hI hj2 (Ap hI hj2 (by simpa using h2)) ⟨⟨E,E,A7 _,hc,E,E,E,E,E,E,Y⟩,Y,E,E⟩
 ·have h:=of_decide_eq_false h
  refine oO ?_
  refine Am E (.cons .tmp .nil) (congrArg Ab ?_) E
  exact B0 hI qn
theorem Uq (l:List Domain) (p:Nat→Domain→Bool) (f:FuncId) (first cap:List SV) (hc:(SV.clo (.func f) first cap).inn []=true) (hf:∀ i (h:i<l.length),E6 Tryz.prog f (first++[Aa i,Ao l[i]]++cap) (Ab (p i l[i]))) (hl:Aj l) :
  Sy.Spec Tryz.prog 72 [.sl 6 Ao l,.clo (.func f) first cap] [] (Ab (Cg p l)) []:=cT F72 Tryz.ntmps72 fun F hF=>by
 unfold Aj at hl
 have hin:∀ (i:Nat) (x:Domain),B1 [] (first++[Aa i,Ao x]++cap)=true:=fun i x=>Cj hc rfl
 conv=>whnf
 refine Ay l.length (fun j=>C4 p l j) (fun j=>[(0,.sl 6 Ao l),(1,.clo (.func f) first cap),(7,.sl 6 Ao l),(8,Aa l.length),(9,Aa j)]) (fun _=>[]) [] (At _ _) ⟨⟨E,E,A7 _,hc,E,E,E,E,E,E,Y⟩,Y,E,E⟩ ?_
 intro j hj hI
 refine oO ?_
 refine⟨fun h=>?_,fun h=>?_⟩
 ·have h:=of_decide_eq_true h
  have hj2:j<l.length:=by omega
  refine oO ?_
  refine⟨E,by omega,by omega,?_⟩
  conv=>whnf
  refine Dp (hf j hj2) E E E (by simp only[hin];rfl) E E ?_
  refine oO ?_
  refine⟨fun h2=>?_,fun h2=>?_⟩
  ·refine oO ?_
   refine Am E (.cons .tmp .nil) (congrArg Ab ?_) E
   exact A1 hj2 (by simpa using h2)
  ·refine oO ?_
   refine iW ?_
   exact Aw [] hI hj2 (Ap hI hj2 (by simpa using h2)) ⟨⟨E,E,A7 _,hc,E,E,E,E,E,E,Y⟩,Y,E,E⟩
 ·have h:=of_decide_eq_false h
  refine oO ?_
  refine Am E (.cons .tmp .nil) (congrArg Ab ?_) E
  exact B0 hI qn
theorem Adt (l:List Static) (p:Nat→Static→Bool) (f:FuncId) (first cap:List SV) (hc:(SV.clo (.func f) first cap).inn []=true) (hf:∀ i (h:i<l.length),E6 Tryz.prog f (first++[Aa i,Bd l[i]]++cap) (Ab (p i l[i]))) (hl:Aj l) :
  Sy.Spec Tryz.prog 79 [.sl 4 Bd l,.clo (.func f) first cap] [] (Ab (Cg p l)) []:=cT F79 Tryz.ntmps79 fun F hF=>by
 unfold Aj at hl
 have hin:∀ (i:Nat) (x:Static),B1 [] (first++[Aa i,Bd x]++cap)=true:=fun i x=>Cj hc rfl
 conv=>whnf
 refine Ay l.length (fun j=>C4 p l j) (fun j=>[(0,.sl 4 Bd l),(1,.clo (.func f) first cap),(7,.sl 4 Bd l),(8,Aa l.length),(9,Aa j)]) (fun _=>[]) [] (At _ _) ⟨⟨E,E,A7 _,hc,E,E,E,E,E,E,Y⟩,Y,E,E⟩ ?_
 intro j hj hI
 refine oO ?_
 refine⟨fun h=>?_,fun h=>?_⟩
 ·have h:=of_decide_eq_true h
  have hj2:j<l.length:=by omega
  refine oO ?_
  refine⟨E,by omega,by omega,?_⟩
  conv=>whnf
  refine Dp (hf j hj2) E E E (by simp only[hin];rfl) E E ?_
  refine oO ?_
  refine⟨fun h2=>?_,fun h2=>?_⟩
  ·refine oO ?_
   refine Am E (.cons .tmp .nil) (congrArg Ab ?_) E
   exact A1 hj2 (by simpa using h2)
  ·refine oO ?_
   refine iW ?_
   exact Aw [] hI hj2 (Ap hI hj2 (by simpa using h2)) ⟨⟨E,E,A7 _,hc,E,E,E,E,E,E,Y⟩,Y,E,E⟩
 ·have h:=of_decide_eq_false h
  refine oO ?_
  refine Am E (.cons .tmp .nil) (congrArg Ab ?_) E
  exact B0 hI qn
theorem Af4 (l:List Flood) (p:Nat→Flood→Bool) (f:FuncId) (first cap:List SV) (hc:(SV.clo (.func f) first cap).inn []=true) (hf:∀ i (h:i<l.length),E6 Tryz.prog f (first++[Aa i,Bs l[i]]++cap) (Ab (p i l[i]))) (hl:Aj l) :
  Sy.Spec Tryz.prog 81 [.sl 4 Bs l,.clo (.func f) first cap] [] (Ab (Cg p l)) []:=cT F81 Tryz.ntmps81 fun F hF=>by
 unfold Aj at hl
 have hin:∀ (i:Nat) (x:Flood),B1 [] (first++[Aa i,Bs x]++cap)=true:=fun i x=>Cj hc rfl
 conv=>whnf
 refine Ay l.length (fun j=>C4 p l j) (fun j=>[(0,.sl 4 Bs l),(1,.clo (.func f) first cap),(7,.sl 4 Bs l),(8,Aa l.length),(9,Aa j)]) (fun _=>[]) [] (At _ _) ⟨⟨E,E,A7 _,hc,E,E,E,E,E,E,Y⟩,Y,E,E⟩ ?_
 intro j hj hI
 refine oO ?_
 refine⟨fun h=>?_,fun h=>?_⟩
 ·have h:=of_decide_eq_true h
  have hj2:j<l.length:=by omega
  refine oO ?_
  refine⟨E,by omega,by omega,?_⟩
  conv=>whnf
  refine Dp (hf j hj2) E E E (by simp only[hin];rfl) E E ?_
  refine oO ?_
  refine⟨fun h2=>?_,fun h2=>?_⟩
  ·refine oO ?_
   refine Am E (.cons .tmp .nil) (congrArg Ab ?_) E
   exact A1 hj2 (by simpa using h2)
  ·refine oO ?_
   refine iW ?_
   exact Aw [] hI hj2 (Ap hI hj2 (by simpa using h2)) ⟨⟨E,E,A7 _,hc,E,E,E,E,E,E,Y⟩,Y,E,E⟩
 ·have h:=of_decide_eq_false h
  refine oO ?_
  refine Am E (.cons .tmp .nil) (congrArg Ab ?_) E
  exact B0 hI qn
theorem Aml (l:List Vrf) (p:Nat→Vrf→Bool) (f:FuncId) (first cap:List SV) (hc:(SV.clo (.func f) first cap).inn []=true) (hf:∀ i (h:i<l.length),E6 Tryz.prog f (first++[Aa i,Cn l[i]]++cap) (Ab (p i l[i]))) (hl:Aj l) :
  Sy.Spec Tryz.prog 84 [.sl 5 Cn l,.clo (.func f) first cap] [] (Ab (Cg p l)) []:=cT F84 Tryz.ntmps84 fun F hF=>by
 unfold Aj at hl
 have hin:∀ (i:Nat) (x:Vrf),B1 [] (first++[Aa i,Cn x]++cap)=true:=fun i x=>Cj hc rfl
 conv=>whnf
 refine Ay l.length (fun j=>C4 p l j) (fun j=>[(0,.sl 5 Cn l),(1,.clo (.func f) first cap),(7,.sl 5 Cn l),(8,Aa l.length),(9,Aa j)]) (fun _=>[]) [] (At _ _) ⟨⟨E,E,A7 _,hc,E,E,E,E,E,E,Y⟩,Y,E,E⟩ ?_
 intro j hj hI
 refine oO ?_
 refine⟨fun h=>?_,fun h=>?_⟩
 ·have h:=of_decide_eq_true h
  have hj2:j<l.length:=by omega
  refine oO ?_
  refine⟨E,by omega,by omega,?_⟩
  conv=>whnf
  refine Dp (hf j hj2) E E E (by simp only[hin];rfl) E E ?_
  refine oO ?_
  refine⟨fun h2=>?_,fun h2=>?_⟩
  ·refine oO ?_
   refine Am E (.cons .tmp .nil) (congrArg Ab ?_) E
   exact A1 hj2 (by simpa using h2)
  ·refine oO ?_
   refine iW ?_
   exact Aw [] hI hj2 (Ap hI hj2 (by simpa using h2)) ⟨⟨E,E,A7 _,hc,E,E,E,E,E,E,Y⟩,Y,E,E⟩
 ·have h:=of_decide_eq_false h
  refine oO ?_
  refine Am E (.cons .tmp .nil) (congrArg Ab ?_) E
  exact B0 hI qn
theorem Amm (l:List Irb) (p:Nat→Irb→Bool) (f:FuncId) (first cap:List SV) (hc:(SV.clo (.func f) first cap).inn []=true) (hf:∀ i (h:i<l.length),E6 Tryz.prog f (first++[Aa i,Ca l[i]]++cap) (Ab (p i l[i]))) (hl:Aj l) :
  Sy.Spec Tryz.prog 87 [.sl 5 Ca l,.clo (.func f) first cap] [] (Ab (Cg p l)) []:=cT F87 Tryz.ntmps87 fun F hF=>by
 unfold Aj at hl
 have hin:∀ (i:Nat) (x:Irb),B1 [] (first++[Aa i,Ca x]++cap)=true:=fun i x=>Cj hc rfl
 conv=>whnf
 refine Ay l.length (fun j=>C4 p l j) (fun j=>[(0,.sl 5 Ca l),(1,.clo (.func f) first cap),(7,.sl 5 Ca l),(8,Aa l.length),(9,Aa j)]) (fun _=>[]) [] (At _ _) ⟨⟨E,E,A7 _,hc,E,E,E,E,E,E,Y⟩,Y,E,E⟩ ?_
 intro j hj hI
 refine oO ?_
 refine⟨fun h=>?_,fun h=>?_⟩
 ·have h:=of_decide_eq_true h
  have hj2:j<l.length:=by omega
  refine oO ?_
  refine⟨E,by omega,by omega,?_⟩
  conv=>whnf
  refine Dp (hf j hj2) E E E (by simp only[hin];rfl) E E ?_
  refine oO ?_
  refine⟨fun h2=>?_,fun h2=>?_⟩
  ·refine oO ?_
   refine Am E (.cons .tmp .nil) (congrArg Ab ?_) E
   exact A1 hj2 (by simpa using h2)
  ·refine oO ?_
   refine iW ?_
   exact Aw [] hI hj2 (Ap hI hj2 (by simpa using h2)) ⟨⟨E,E,A7 _,hc,E,E,E,E,E,E,Y⟩,Y,E,E⟩
 ·have h:=of_decide_eq_false h
  refine oO ?_
  refine Am E (.cons .tmp .nil) (congrArg Ab ?_) E
  exact B0 hI qn
theorem Amk (l:List Int) (p:Nat→Int→Bool) (f:FuncId) (first cap:List SV) (hc:(SV.clo (.func f) first cap).inn []=true) (hf:∀ i (h:i<l.length),E6 Tryz.prog f (first++[Aa i,Aa l[i]]++cap) (Ab (p i l[i]))) (hl:Aj l) :
  Sy.Spec Tryz.prog 139 [.sl 1 Aa l,.clo (.func f) first cap] [] (Ab (Cg p l)) []:=cT F139 Tryz.ntmps139 fun F hF=>by
 unfold Aj at hl
 have hin:∀ (i:Nat) (x:Int),B1 [] (first++[Aa i,Aa x]++cap)=true:=fun i x=>Cj hc rfl
 conv=>whnf
 refine Ay l.length (fun j=>C4 p l j) (fun j=>[(0,.sl 1 Aa l),(1,.clo (.func f) first cap),(7,.sl 1 Aa l),(8,Aa l.length),(9,Aa j)]) (fun _=>[]) [] (At _ _) ⟨⟨E,E,A7 _,hc,E,E,E,E,E,E,Y⟩,Y,E,E⟩ ?_
 intro j hj hI
 refine oO ?_
 refine⟨fun h=>?_,fun h=>?_⟩
 ·have h:=of_decide_eq_true h
  have hj2:j<l.length:=by omega
  refine oO ?_
  refine⟨E,by omega,by omega,?_⟩
  conv=>whnf
  refine Dp (hf j hj2) E E E (by simp only[hin];rfl) E E ?_
  refine oO ?_
  refine⟨fun h2=>?_,fun h2=>?_⟩
  ·refine oO ?_
   refine Am E (.cons .tmp .nil) (congrArg Ab ?_) E
   exact A1 hj2 (by simpa using h2)
  ·refine oO ?_
   refine iW ?_
   exact Aw [] hI hj2 (Ap hI hj2 (by simpa using h2)) ⟨⟨E,E,A7 _,hc,E,E,E,E,E,E,Y⟩,Y,E,E⟩
 ·have h:=of_decide_eq_false h
  refine oO ?_
  refine Am E (.cons .tmp .nil) (congrArg Ab ?_) E
  exact B0 hI qn
structure Net.Fin (n:Net):Prop where
 devices:Aj n.devices
 ports:Aj n.ports
 links:Aj n.links
 domains:Aj n.domains
 statics:Aj n.statics
 floods:Aj n.floods
 vrfs:Aj n.vrfs
 irbs:Aj n.irbs
 tagged:∀ p∈n.ports,Aj p.tagged
 peers:∀ d∈n.domains,Aj d.peers
 addrs:∀ f∈n.floods,Aj f.addrs
 imports:∀ v∈n.vrfs,Aj v.imports
 exports:∀ v∈n.vrfs,Aj v.exports
def Tx (n:Net) (dev vlan:Int):Int:=B8 (fun d=>d.dev == dev && d.vlan == vlan) n.domains
theorem An1 (dev vlan:Int) (d:Domain):Sy.Spec Tryz.prog 202 [Ao d,.ref 1 (Aa dev) 0,.ref 1 (Aa vlan) 0] [] (Ab (d.dev == dev && d.vlan == vlan)) []:=cT F202 Tryz.ntmps202 fun F hF=>by
 conv=>whnf
 (repeat' (first | (refine⟨fun h=>?_,fun h=>?_⟩<;>(repeat (first | simp only[beq_iff_eq]at h | simp only[beq_eq_false_iff_ne]at h))<;>((refine oO ?_))) | (refine Am rfl (.cons .tmp .nil) ?_ rfl)))
 all_goals (refine congrArg Ab ?_)
 all_goals simp_all
theorem Kq (n:Net) (dev vlan:Int) (hl:Aj n.domains):Sy.Spec Tryz.prog 138 [Al n,Aa dev,Aa vlan] [] (Aa (Tx n dev vlan)) []:=cT F138 Tryz.ntmps138 fun F hF=>by
 conv=>whnf
 refine Ba 4 1 (Aa dev) E E E ?_
 refine Ba 5 1 (Aa vlan) E E E ?_
 refine c0 (E1 n.domains (fun d=>d.dev == dev && d.vlan == vlan) 202 [] [.ref 1 (Aa dev) 0,.ref 1 (Aa vlan) 0] E (fun d _=>⟨⟨_,_,F202⟩,An1 dev vlan d⟩) hl) F201 ?_
 refine oO ?_
 exact dN
def Afn (n:Net):Bool:=decide (n.devices.length≤8) && decide (n.ports.length≤40) && decide (n.links.length≤20) && decide (n.domains.length≤48) && decide (n.statics.length≤64) && decide (n.floods.length≤48) && decide (n.vrfs.length≤16) && decide (n.irbs.length≤48)
theorem fewS (n:Net):Sy.Spec Tryz.prog 71 [Al n] [] (Ab (Afn n)) []:=cT F71 Tryz.ntmps71 fun F hF=>by
 conv=>whnf
 (repeat' (first | (refine⟨fun h=>?_,fun h=>?_⟩<;>(repeat (first | simp only[decide_eq_true_eq]at h | simp only[decide_eq_false_iff_not]at h))<;>((refine oO ?_);repeat((refine aF ?_);(refine oO ?_)))) | (refine Am rfl (.cons .tmp .nil) ?_ rfl)))
 all_goals (refine congrArg Ab ?_)
 all_goals (unfold Afn;rw[Bool.eq_iff_iff];simp;omega)
def E5 (n:Net) (i:Nat) (d:Domain):Bool :=
 Ag d.dev n.devices.length && decide (1≤d.vlan) && decide (d.vlan≤4094) && decide (0≤d.vni) && decide (d.vni≤16777215) && (d.irb == -1 || Ag d.irb n.irbs.length && (nth n.irbs d.irb).domain == i) && Tx n d.dev d.vlan == i
theorem bareS (n:Net) (i:Nat) (d:Domain) (hl:Aj n.domains):Sy.Spec Tryz.prog 73 [Al n,Aa i,Ao d] [] (Ab (E5 n i d)) []:=cT F73 Tryz.ntmps73 fun F hF=>by
 conv=>whnf
 (repeat' (first | (refine⟨fun h=>?_,fun h=>?_⟩<;>(repeat (first | simp only[Ag]at h | simp only[decide_eq_true_eq]at h | simp only[decide_eq_false_iff_not]at h | simp only[beq_iff_eq]at h | simp only[beq_eq_false_iff_ne]at h | simp only[Bool.and_eq_true]at h | simp only[Bool.and_eq_false_iff]at h))<;>((refine oO ?_);repeat((first|refine aF ?_|refine aT ?_);(refine oO ?_)))) | (refine Am rfl (.cons .tmp .nil) ?_ rfl) | (refine⟨qq,?_⟩;((conv=>whnf))) | (refine⟨by (omega),by (omega),?_⟩;((conv=>whnf))) | (refine c0 (Ed 5 Bf n.devices d.dev) F83 ?_;((refine oO ?_))) | (refine c0 (Aer 5 Ca n.irbs d.irb) F137 ?_;((refine oO ?_))) | (refine c0 (Kq n d.dev d.vlan hl) F138 ?_;((refine oO ?_)))))
 all_goals (refine congrArg Ab ?_)
 all_goals (clear hF;grind [E5,Ag,Ai])
def Aax (n:Net) (d:Domain):Bool:=(nth n.devices d.dev).vtep != 0
theorem Aoh (n:Net) (d:Domain) (hd:Ag d.dev n.devices.length=true):Sy.Spec Tryz.prog 203 [Al n,Ao d] [] (Ab (Aax n d)) []:=cT F203 Tryz.ntmps203 fun F hF=>by
 simp only[Ag,Bool.and_eq_true,decide_eq_true_eq]at hd
 conv=>whnf
 (repeat' (first | (refine Am rfl (.cons .tmp .nil) ?_ rfl) | (refine⟨qq,?_⟩;((conv=>whnf))) | (refine⟨by (omega),by (omega),?_⟩;((conv=>whnf)))))
 all_goals (refine congrArg Ab ?_)
 all_goals (clear hF;grind [Aax,Ai])
def K5 (n:Net) (i:Nat) (d:Domain) (k:Int):Bool :=
 Ag k n.domains.length && k != i && Ag (nth n.domains k).dev n.devices.length && (nth n.domains k).dev != d.dev && (nth n.domains k).vni == d.vni && d.vni != 0 && Aax n (nth n.domains k) && Aax n d && inB (nth n.domains k).peers i
theorem peerS (n:Net) (i:Nat) (d:Domain) (k:Int) (hn:n.Fin) (hd:Ag d.dev n.devices.length=true):Sy.Spec Tryz.prog 141 [Al n,Aa i,Ao d,Aa k] [] (Ab (K5 n i d k)) []:=cT F141 Tryz.ntmps141 fun F hF=>by
 conv=>whnf
 (repeat' (first | (refine⟨fun h=>?_,fun h=>?_⟩<;>(repeat (first | simp only[Ag]at h | simp only[decide_eq_true_eq]at h | simp only[decide_eq_false_iff_not]at h | simp only[beq_iff_eq]at h | simp only[beq_eq_false_iff_ne]at h | simp only[bne_iff_ne]at h | simp only[bne_eq_false_iff_eq]at h | simp only[Bool.and_eq_true]at h | simp only[Bool.and_eq_false_iff]at h | simp only[Bool.not_eq_true']at h | simp only[Bool.not_eq_false']at h))<;>((refine oO ?_);repeat((first|refine aF ?_|refine aT ?_);(refine oO ?_)))) | (refine Am rfl (.cons .tmp .nil) ?_ rfl) | (refine⟨qq,?_⟩;((conv=>whnf))) | (refine⟨by (omega),by (omega),?_⟩;((conv=>whnf))) | (refine c0 (Hd 6 Ao n.domains k) F92 ?_;((refine oO ?_))) | (refine c0 (Ed 5 Bf n.devices (n.domains[k.toNat]'qn).dev) F83 ?_;((refine oO ?_))) | (refine c0 (Aoh n (n.domains[k.toNat]'qn) (by simp only[Ag,Bool.and_eq_true,decide_eq_true_eq];omega)) F203 ?_;((refine oO ?_))) | (refine c0 (Aoh n d hd) F203 ?_;((refine oO ?_))) | (refine c0 (Cq (n.domains[k.toNat]'qn).peers i (hn.peers _ (List.getElem_mem _))) F25 ?_;((refine oO ?_)))))
 all_goals (refine congrArg Ab ?_;clear hF;grind [K5,Ag,Ai])
def Lq (n:Net) (i:Nat) (d:Domain):Bool:=Cg (fun at_ k=>K5 n i d k && B8 (· == k) d.peers == at_) d.peers
theorem peers1 (n:Net) (i:Nat) (d:Domain) (at_:Nat) (k:Int) (hn:n.Fin) (hp:Aj d.peers) (hd:Ag d.dev n.devices.length=true) :
  Sy.Spec Tryz.prog 140 [Aa at_,Aa k,.ref 8 (Al n) 0,.ref 1 (Aa i) 0,.ref 6 (Ao d) 0] [] (Ab (K5 n i d k && B8 (· == k) d.peers == at_)) []:=cT F140 Tryz.ntmps140 fun F hF=>by
 conv=>whnf
 (repeat' (first | (refine⟨fun h=>?_,fun h=>?_⟩<;>((refine oO ?_))) | (refine Am rfl (.cons .tmp .nil) ?_ rfl) | (refine c0 (peerS n i d k hn hd) F141 ?_;((refine oO ?_))) | (refine c0 (Alm d.peers k hp) F91 ?_;((refine oO ?_)))))
 all_goals (refine congrArg Ab ?_;clear hF;grind)
theorem peersS (n:Net) (i:Nat) (d:Domain) (hn:n.Fin) (hp:Aj d.peers) (hd:Ag d.dev n.devices.length=true):Sy.Spec Tryz.prog 74 [Al n,Aa i,Ao d] [] (Ab (Lq n i d)) []:=cT F74 Tryz.ntmps74 fun F hF=>by
 conv=>whnf
 refine Ba 3 8 (Al n) E E E ?_
 refine Ba 4 1 (Aa i) E E E ?_
 refine Ba 5 6 (Ao d) E E E ?_
 refine c0 (Amk d.peers (fun at_ k=>K5 n i d k && B8 (· == k) d.peers == at_) 140 [] [.ref 8 (Al n) 0,.ref 1 (Aa i) 0,.ref 6 (Ao d) 0] E (fun a ha=>⟨⟨_,_,F140⟩,peers1 n i d a d.peers[a] hn hp hd⟩) hp) F139 ?_
 refine oO ?_
 exact dN
end Go.Sy.YteinjapglfkamaaGreat
namespace Go.Sy.YteinjapglfkamaaGreat
open Go.Proofs
def Qo {α:Type} (l:List α) (j:Nat):List α:=List.ofFn fun i:Fin l.length=>if i.1<j∨l.length-j≤i.1 then l[l.length-1-i.1] else l[i.1]
theorem C1 {α:Type} (l:List α) (j:Nat):(Qo l j).length=l.length:=by simp[Qo]
theorem Jr {α:Type} (l:List α) (j i:Nat) (h:i<l.length):(Qo l j)[i]'(by rw[C1];exact h)=if i<j∨l.length-j≤i then l[l.length-1-i] else l[i]:=by simp[Qo]
theorem Ahy {α:Type} (l:List α):Qo l 0=l:=by
 apply List.ext_getElem (C1 l 0)
 intro i h1 h2
 rw[Jr l 0 i h2,if_neg qn]
theorem Akn {α:Type} (l:List α) (j:Nat) (h:l.length≤2 * j+1):Qo l j=l.reverse:=by
 apply List.ext_getElem (by rw[C1,List.length_reverse])
 intro i h1 h2
 have hi:i<l.length:=by rw[C1]at h1;exact h1
 rw[Jr l j i hi,List.getElem_reverse]
 split
 ·rfl
 ·congr 1;omega
theorem Ahz {α:Type} (l:List α) (j:Nat) (h:2 * j+1<l.length) :
  ((Qo l j).set j ((Qo l j)[l.length-1-j]'(by rw[C1];omega))).set (l.length-1-j) ((Qo l j)[j]'(by rw[C1];omega))=Qo l (j+1):=by
 apply List.ext_getElem (by simp only[List.length_set,C1])
 intro i h1 h2
 have hi:i<l.length:=by rw[C1]at h2;exact h2
 rw[List.getElem_set,List.getElem_set,Jr l (j+1) i hi,Jr l j i hi,Jr l j _ qn,Jr l j _ qn]
 by_cases e1:l.length-1-j=i
 ·rw[if_pos e1,if_neg qn,if_pos qn]
  congr 1;omega
 ·rw[if_neg e1]
  by_cases e2:j=i
  ·rw[if_pos e2,if_neg qn,if_pos qn]
   congr 1;omega
  ·rw[if_neg e2]
   by_cases e3:i<j∨l.length-j≤i
   ·rw[if_pos e3,if_pos qn]
   ·rw[if_neg e3,if_neg qn]
theorem Ah0 {α:Type} {l u:List α} {j k:Nat} (hu:Qo l j=u) (h:2 * j+1<l.length) (hk:l.length-1-j=k) (h1:k<u.length) (h2:j<u.length):(u.set j u[k]).set k u[j]=Qo l (j+1):=by
 subst hu hk
 exact Ahz l j h
end Go.Sy.YteinjapglfkamaaGreat
namespace Go.Sy.YteinjapglfkamaaGreat
open Go.Proofs
attribute [local irreducible] Go.Sy.G Go.Sy.DR
set_option maxRecDepth 20000
set_option maxHeartbeats 4000000
def Bt (n:Net) (dev vlan:Int):Bool:=decide (0≤Tx n dev vlan)
def Ec (n:Net) (i:Nat) (p:Port):Bool :=
 Ag p.dev n.devices.length && decide (0≤p.native) && decide (p.native≤4094) && (decide (p.tagged.length=0) || C0 p.tagged 1 4094) && !inB p.tagged p.native && !(p.native == 0 && decide (p.tagged.length=0)) &&
  Cg (fun _ v=>Bt n p.dev v) p.tagged && !(decide (0<p.native) && !Bt n p.dev p.native) &&
  (p.link == -1 || Ag p.link n.links.length && ((nth n.links p.link).a == i || (nth n.links p.link).b == i))
theorem Ae8 (n:Net) (i:Nat) (p:Port) (hn:n.Fin) (hp:Aj p.tagged):Sy.Spec Tryz.prog 76 [Al n,Aa i,A2 p] [] (Ab (Ec n i p)) []:=cT F76 Tryz.ntmps76 fun F hF=>by
 conv=>whnf
 (repeat' (first | (refine⟨fun h=>?_,fun h=>?_⟩<;>(repeat (first | simp only[Ag]at h | simp only[decide_eq_true_eq]at h | simp only[decide_eq_false_iff_not]at h | simp only[beq_iff_eq]at h | simp only[beq_eq_false_iff_ne]at h | simp only[Bool.and_eq_true]at h | simp only[Bool.or_eq_true]at h | simp only[Bool.and_eq_false_iff]at h | simp only[Bool.or_eq_false_iff]at h | simp only[Bool.not_eq_true']at h | simp only[Bool.not_eq_false']at h))<;>((refine oO ?_);repeat((first|refine aF ?_|refine aT ?_);(refine oO ?_)))) | (refine Am rfl (.cons .tmp .nil) ?_ rfl) | (refine c0 (Ed 5 Bf n.devices p.dev) F83 ?_;((refine oO ?_))) | (refine c0 (Zn p.tagged 4094 hp) F86 ?_;((refine oO ?_))) | (refine c0 (Cq p.tagged p.native hp) F25 ?_;((refine oO ?_)))))
 all_goals first | (refine congrArg Ab ?_;clear hF;grind [Ec,Ag]) | skip
 all_goals (
  refine Ba 3 8 (Al n) E E E ?_
  refine Ba 5 7 (A2 p) E E E ?_
  refine Ay p.tagged.length (fun j=>C4 (fun _ v=>Bt n p.dev v) p.tagged j) (fun j=>[(1,Aa i),(3,.ref 8 (Al n) 0),(5,.ref 7 (A2 p) 0),(51,.sl 1 Aa p.tagged),(52,Aa p.tagged.length),(53,Aa j)]) (fun _=>[]) [] (At _ _) ⟨⟨E,E,E,E,E,E,E,E,E,E,E,E,Y⟩,Y,E,E⟩ ?_
  intro j hj hI
  have hsh:=hp
  unfold Aj at hsh
  ((first|refine rG Γ hm ?_|refine rD Γ hm qq ?_);(conv=>whnf);repeat((first|refine aF ?_|refine aT ?_);(first|refine rG Γ hm ?_|refine rD Γ hm qq ?_);conv=>whnf)))
 all_goals (
  (repeat' (first | (refine⟨fun h=>?_,fun h=>?_⟩<;>(repeat (first | simp only[Ag]at h | simp only[decide_eq_true_eq]at h | simp only[decide_eq_false_iff_not]at h | simp only[beq_iff_eq]at h | simp only[beq_eq_false_iff_ne]at h | simp only[Bool.and_eq_true]at h | simp only[Bool.and_eq_false_iff]at h))<;>((refine oO ?_);repeat((refine aF ?_);(refine oO ?_)))) | (refine Am rfl (.cons .tmp .nil) ?_ rfl) | (refine⟨qq,?_⟩;((conv=>whnf))) | (refine⟨by (omega),by (omega),?_⟩;((conv=>whnf))) | (refine⟨by (unfold I64;omega),?_⟩;((conv=>whnf))) | (refine c0 (Kq n p.dev (p.tagged[j]'qn) hn.domains) F138 ?_;((refine oO ?_))) | (refine c0 (Kq n p.dev p.native hn.domains) F138 ?_;((refine oO ?_))) | (refine c0 (Aby 3 Cb n.links p.link) F142 ?_;((refine oO ?_))) | refine Aw [] hI qn ?_ ⟨⟨rfl,rfl,rfl,rfl,rfl,rfl,rfl,rfl,rfl,rfl,rfl,rfl,trivial⟩,trivial,rfl,rfl⟩)))
 all_goals first
  | exact Ap hI qn (by simp only[Bt,decide_eq_true_eq];omega)
  | (refine congrArg Ab ?_
     have h0:Cg (fun _ v=>Bt n p.dev v) p.tagged=false:=A1 (i:=j) qn (by simp only[Bt,decide_eq_false_iff_not];omega)
     clear hF hI;grind [Ec])
  | (refine congrArg Ab ?_
     have h0:Cg (fun _ v=>Bt n p.dev v) p.tagged=true:=B0 hI qn
     clear hF hI;grind [Ec,Ag,Bt,Ai])
def Jz (n:Net) (i:Nat) (l:Link):Bool :=
 Ag l.a n.ports.length && Ag l.b n.ports.length && (nth n.ports l.a).dev != (nth n.ports l.b).dev && (nth n.ports l.a).link == i && (nth n.ports l.b).link == i
theorem Ae9 (n:Net) (i:Nat) (l:Link):Sy.Spec Tryz.prog 78 [Al n,Aa i,Cb l] [] (Ab (Jz n i l)) []:=cT F78 Tryz.ntmps78 fun F hF=>by
 conv=>whnf
 (repeat' (first | (refine⟨fun h=>?_,fun h=>?_⟩<;>(repeat (first | simp only[Ag]at h | simp only[decide_eq_true_eq]at h | simp only[decide_eq_false_iff_not]at h | simp only[beq_iff_eq]at h | simp only[beq_eq_false_iff_ne]at h | simp only[bne_iff_ne]at h | simp only[bne_eq_false_iff_eq]at h | simp only[Bool.and_eq_true]at h | simp only[Bool.and_eq_false_iff]at h | simp only[Bool.not_eq_true']at h | simp only[Bool.not_eq_false']at h))<;>((refine oO ?_);repeat((first|refine aF ?_|refine aT ?_);(refine oO ?_)))) | (refine Am rfl (.cons .tmp .nil) ?_ rfl) | (refine⟨qq,?_⟩;((conv=>whnf))) | (refine⟨by (omega),by (omega),?_⟩;((conv=>whnf))) | (refine c0 (Lp 7 A2 n.ports l.a) F143 ?_;((refine oO ?_))) | (refine c0 (Lp 7 A2 n.ports l.b) F143 ?_;((refine oO ?_)))))
 all_goals (refine congrArg Ab ?_;clear hF;grind [Jz,Ag,Ai])
def Eg (n:Net) (s:Static):Bool :=
 Ag s.domain n.domains.length && Ag s.port n.ports.length && (nth n.ports s.port).dev == (nth n.domains s.domain).dev && Dk (nth n.ports s.port) (nth n.domains s.domain).vlan
theorem Z5 (n:Net) (i:Nat) (s:Static) (hn:n.Fin):Sy.Spec Tryz.prog 80 [Al n,Aa i,Bd s] [] (Ab (Eg n s)) []:=cT F80 Tryz.ntmps80 fun F hF=>by
 conv=>whnf
 (repeat' (first | (refine⟨fun h=>?_,fun h=>?_⟩<;>(repeat (first | simp only[Ag]at h | simp only[decide_eq_true_eq]at h | simp only[decide_eq_false_iff_not]at h | simp only[beq_iff_eq]at h | simp only[beq_eq_false_iff_ne]at h | simp only[Bool.and_eq_true]at h | simp only[Bool.and_eq_false_iff]at h | simp only[Bool.not_eq_true']at h | simp only[Bool.not_eq_false']at h))<;>((refine oO ?_);repeat((refine aT ?_);(refine oO ?_)))) | (refine Am rfl (.cons .tmp .nil) ?_ rfl) | (refine⟨qq,?_⟩;((conv=>whnf))) | (refine⟨by (omega),by (omega),?_⟩;((conv=>whnf))) | (refine c0 (Hd 6 Ao n.domains s.domain) F92 ?_;((refine oO ?_))) | (refine c0 (Lp 7 A2 n.ports s.port) F143 ?_;((refine oO ?_))) | (refine c0 (U4 (n.ports[s.port.toNat]'qn) (n.domains[s.domain.toNat]'qn).vlan (hn.tagged _ (List.getElem_mem _))) F93 ?_;((refine oO ?_)))))
 all_goals (refine congrArg Ab ?_;clear hF;grind [Eg,Ag,Ai])
def Uu (n:Net) (i:Nat) (x:Irb):Bool :=
 Ag x.domain n.domains.length && Ag x.vrf n.vrfs.length && (nth n.domains x.domain).dev == (nth n.vrfs x.vrf).dev && (nth n.domains x.domain).irb == i && decide (1≤x.bits) && decide (x.bits≤30)
theorem Air (n:Net) (i:Nat) (x:Irb):Sy.Spec Tryz.prog 88 [Al n,Aa i,Ca x] [] (Ab (Uu n i x)) []:=cT F88 Tryz.ntmps88 fun F hF=>by
 conv=>whnf
 (repeat' (first | (refine⟨fun h=>?_,fun h=>?_⟩<;>(repeat (first | simp only[Ag]at h | simp only[decide_eq_true_eq]at h | simp only[decide_eq_false_iff_not]at h | simp only[beq_iff_eq]at h | simp only[beq_eq_false_iff_ne]at h | simp only[Bool.and_eq_true]at h | simp only[Bool.and_eq_false_iff]at h))<;>((refine rd qq ?_);(conv=>whnf);repeat((refine aF ?_);(refine rd qq ?_);(conv=>whnf)))) | (refine Am rfl (.cons .tmp .nil) ?_ rfl) | (refine⟨qq,?_⟩;((conv=>whnf))) | (refine⟨by (omega),by (omega),?_⟩;((conv=>whnf))) | (refine cD (Hd 6 Ao n.domains x.domain) F92 ?_;((refine rd qq ?_);(conv=>whnf))) | (refine cD (Aeq 5 Cn n.vrfs x.vrf) F145 ?_;((refine rd qq ?_);(conv=>whnf)))))
 all_goals (refine congrArg Ab ?_;clear hF;grind [Uu,Ag,Ai])
def Ji (n:Net) (f:Flood):Bool:=Ag f.dev n.devices.length && decide (f.addrs.length≤16)
theorem right1 (n:Net) (i:Nat) (f:Flood):Sy.Spec Tryz.prog 82 [Aa i,Bs f,.ref 8 (Al n) 0] [] (Ab (Ji n f)) []:=cT F82 Tryz.ntmps82 fun F hF=>by
 conv=>whnf
 (repeat' (first | (refine⟨fun h=>?_,fun h=>?_⟩<;>(repeat (first | simp only[Ag]at h | simp only[decide_eq_true_eq]at h | simp only[decide_eq_false_iff_not]at h | simp only[Bool.and_eq_true]at h | simp only[Bool.and_eq_false_iff]at h))<;>((refine oO ?_))) | (refine Am rfl (.cons .tmp .nil) ?_ rfl) | (refine c0 (Ed 5 Bf n.devices f.dev) F83 ?_;((refine oO ?_)))))
 all_goals (refine congrArg Ab ?_;clear hF;grind [Ji,Ag])
def Abl (l:List Int) (most:Int):Bool:=decide (l.length=0) || C0 l 1 most
def Xo (n:Net) (v:Vrf):Bool:=Ag v.dev n.devices.length && Abl v.imports 65535 && Abl v.exports 65535
theorem right2 (n:Net) (i:Nat) (v:Vrf) (h1:Aj v.imports) (h2:Aj v.exports):Sy.Spec Tryz.prog 85 [Aa i,Cn v,.ref 8 (Al n) 0] [] (Ab (Xo n v)) []:=cT F85 Tryz.ntmps85 fun F hF=>by
 conv=>whnf
 (repeat' (first | (refine⟨fun h=>?_,fun h=>?_⟩<;>(repeat (first | simp only[Ag]at h | simp only[decide_eq_true_eq]at h | simp only[decide_eq_false_iff_not]at h | simp only[Bool.and_eq_true]at h | simp only[Bool.or_eq_true]at h | simp only[Bool.and_eq_false_iff]at h | simp only[Bool.or_eq_false_iff]at h))<;>((refine oO ?_);repeat((refine aF ?_);(refine oO ?_)))) | (refine Am rfl (.cons .tmp .nil) ?_ rfl) | (refine c0 (Ed 5 Bf n.devices v.dev) F83 ?_;((refine oO ?_))) | (refine c0 (Zn v.imports 65535 h1) F86 ?_;((refine oO ?_))) | (refine c0 (Zn v.exports 65535 h2) F86 ?_;((refine oO ?_)))))
 all_goals (refine congrArg Ab ?_;clear hF;grind [Xo,Abl,Ag])
def Ac (n:Net):Bool :=
 Afn n && Cg (E5 n) n.domains && Cg (Lq n) n.domains && Cg (Ec n) n.ports && Cg (Jz n) n.links && Cg (fun _=>Eg n) n.statics && Cg (fun _=>Ji n) n.floods && Cg (fun _=>Xo n) n.vrfs && Cg (Uu n) n.irbs
theorem Kb {n:Net} (h:Cg (E5 n) n.domains=true) {i:Nat} (hi:i<n.domains.length):Ag n.domains[i].dev n.devices.length=true:=by
 have:=allB_iff.1 h i hi
 simp only[E5,Bool.and_eq_true]at this
 exact this.1.1.1.1.1.1
theorem A9 (n:Net) (hn:n.Fin):Sy.Spec Tryz.prog 23 [Al n] [] (Ab (Ac n)) []:=cT F23 Tryz.ntmps23 fun F hF=>by
 conv=>whnf
 refine Ba 1 8 (Al n) E E E ?_
 (repeat' (first | (refine⟨fun h=>?_,fun h=>?_⟩<;>((refine oO ?_);repeat((refine aF ?_);(refine oO ?_)))) | (refine Am rfl (.cons .tmp .nil) ?_ rfl) | (refine c0 (fewS n) F71 ?_;((refine oO ?_))) | (refine c0 (Uq n.domains (E5 n) 73 [Al n] [] rfl (fun i h=>⟨⟨_,_,F73⟩,bareS n i n.domains[i] hn.domains⟩) hn.domains) F72 ?_;((refine oO ?_))) | (refine Sz (Uq n.domains (Lq n) 74 [Al n] [] rfl (fun i h=>⟨⟨_,_,F74⟩,peersS n i n.domains[i] hn (hn.peers _ (List.getElem_mem _)) (Kb ‹_› h)⟩) hn.domains) F72 rfl rfl rfl rfl rfl ?_;((refine oO ?_))) | (refine Sz (Ajj n.ports (Ec n) 76 [Al n] [] rfl (fun i h=>⟨⟨_,_,F76⟩,Ae8 n i n.ports[i] hn (hn.tagged _ (List.getElem_mem _))⟩) hn.ports) F75 rfl rfl rfl rfl rfl ?_;((refine oO ?_))) | (refine c0 (Ajk n.links (Jz n) 78 [Al n] [] rfl (fun i h=>⟨⟨_,_,F78⟩,Ae9 n i n.links[i]⟩) hn.links) F77 ?_;((refine oO ?_))) | (refine c0 (Adt n.statics (fun _=>Eg n) 80 [Al n] [] rfl (fun i h=>⟨⟨_,_,F80⟩,Z5 n i n.statics[i] hn⟩) hn.statics) F79 ?_;((refine oO ?_))) | (refine c0 (Af4 n.floods (fun _=>Ji n) 82 [] [.ref 8 (Al n) 0] rfl (fun i h=>⟨⟨_,_,F82⟩,right1 n i n.floods[i]⟩) hn.floods) F81 ?_;((refine oO ?_))) | (refine Sz (Aml n.vrfs (fun _=>Xo n) 85 [] [.ref 8 (Al n) 0] rfl (fun i h=>⟨⟨_,_,F85⟩,right2 n i n.vrfs[i] (hn.imports _ (List.getElem_mem _)) (hn.exports _ (List.getElem_mem _))⟩) hn.vrfs) F84 rfl rfl rfl rfl rfl ?_;((refine oO ?_))) | (refine c0 (Amm n.irbs (Uu n) 88 [Al n] [] rfl (fun i h=>⟨⟨_,_,F88⟩,Air n i n.irbs[i]⟩) hn.irbs) F87 ?_;((refine oO ?_)))))
 all_goals (refine congrArg Ab ?_)
 all_goals (clear hF;simp_all[Ac])
theorem Al4 {n:Net} (h:Ac n=true) {i:Nat} (hi:i<n.ports.length):Ec n i n.ports[i]=true:=by
 simp only[Ac,Bool.and_eq_true]at h
 exact allB_iff.1 h.1.1.1.1.1.2 i hi
theorem Aom {n:Net} (h:Ac n=true) {i:Nat} (hi:i<n.domains.length):E5 n i n.domains[i]=true:=by
 simp only[Ac,Bool.and_eq_true]at h
 exact allB_iff.1 h.1.1.1.1.1.1.1.2 i hi
theorem Aol {n:Net} (h:Ac n=true):n.devices.length≤8∧n.ports.length≤40∧n.links.length≤20∧n.domains.length≤48∧n.irbs.length≤48:=by
 simp only[Ac,Afn,Bool.and_eq_true,decide_eq_true_eq]at h
 omega
theorem Ada {n:Net} (h:Ac n=true) {i:Nat} (hi:i<n.domains.length) :
  (0≤n.domains[i].dev∧n.domains[i].dev.toNat<n.devices.length)∧(1≤n.domains[i].vlan∧n.domains[i].vlan≤4094)∧(0≤n.domains[i].vni∧n.domains[i].vni≤16777215)∧(n.domains[i].irb=-1∨0≤n.domains[i].irb∧n.domains[i].irb.toNat<n.irbs.length):=by
 have:=Aom h hi
 simp only[E5,Ag,Bool.and_eq_true,Bool.or_eq_true,decide_eq_true_eq,beq_iff_eq]at this
 omega
def Ip (p:Nat→Bool) (j:Nat):List Int:=((List.range j).filter p).map Int.ofNat
theorem Ww (p:Nat→Bool) (j:Nat):Ip p (j+1)=if p j=true then Ip p j++[(j:Int)] else Ip p j:=by
 rw[Ip,List.range_succ,List.filter_append,List.map_append]
 split
 ·rename_i h
  rw[List.filter_cons_of_pos (by exact h),List.filter_nil];rfl
 ·rename_i h
  rw[List.filter_cons_of_neg (by exact h),List.filter_nil,List.map_nil,List.append_nil];rfl
theorem D4 (p:Nat→Bool) (j:Nat):(Ip p j).length≤j:=by
 have:=List.length_filter_le p (List.range j)
 simpa [Ip] using this
theorem Ms {p:Nat→Bool} {j:Nat} {x:Int}:x∈Ip p j↔0≤x∧x<j∧p x.toNat=true:=by
 simp only[Ip,List.mem_map,List.mem_filter,List.mem_range]
 constructor
 ·rintro ⟨i,h1,rfl⟩
  exact⟨Int.natCast_nonneg i,by simp;omega,h1.2⟩
 ·rintro ⟨h1,h2,h3⟩
  exact⟨x.toNat,⟨by omega,h3⟩,Int.toNat_of_nonneg h1⟩
def Og (n:Net) (d:Domain) (i:Nat):Bool:=(nth n.ports i).dev == d.dev && Dk (nth n.ports i) d.vlan
def A0 (n:Net) (i:Int):List Int:=Ip (Og n (nth n.domains i)) n.ports.length
def B5 (n:Net) (i:Int):List Int:=if (0≤i∧i<n.domains.length)∧Ac n=true then A0 n i else []
theorem E0 (n:Net) (hn:n.Fin) (i:Int):Aj (B5 n i):=by
 have:=hn.ports
 unfold Aj at this ⊢
 unfold B5
 split
 ·have:=D4 (Og n (nth n.domains i)) n.ports.length
  unfold A0
  omega
 ·simp
theorem Jc (n:Net) (hn:n.Fin) (i:Int):Sy.Spec Tryz.prog 26 [Al n,Aa i] [] (.sl 1 Aa (B5 n i)) []:=cT F26 Tryz.ntmps26 fun F hF=>by
 have hr:=A9 n hn
 have hpl:=Hd 6 Ao n.domains i
 have hsp:=hn.ports
 unfold Aj at hsp
 conv=>whnf
 refine c0 hr F23 ?_
 cases hb:Ac n
 ·rw[B5,if_neg (by simp[hb])]
  (refine oT ?_;refine bT ?_)
  refine Ak 4 1 Aa E ?_
  refine oO ?_
  exact dN
 refine oF ?_
 refine c0 hpl F92 ?_
 by_cases hi:0≤i∧i<n.domains.length
 rotate_left
 ·have h0:Ag i n.domains.length=false:=by simp only[Ag,Bool.and_eq_false_iff,decide_eq_false_iff_not];omega
  rw[B5,if_neg (by simp[hb,hi]),h0]
  refine oT ?_
  refine Ak 4 1 Aa E ?_
  refine oO ?_
  exact dN
 have h0:Ag i n.domains.length=true:=by simp only[Ag,Bool.and_eq_true,decide_eq_true_eq];exact hi
 rw[B5,if_pos ⟨hi,hb⟩,h0]
 have hk:i.toNat<n.domains.length:=by omega
 have hf:=Ada hb hk
 have e1:nth n.domains i=n.domains[i.toNat]:=Ai hk
 rw[A0,e1]
 obtain ⟨d,hd⟩:∃ d,n.domains[i.toNat]=d:=⟨_,rfl⟩
 rw[hd]at hf ⊢
 refine Ba 2 8 (Al n) E E E ?_
 refine oF ?_
 refine Cc 5 1000 1 Aa E E ?_
 refine Az n.ports.length (fun j=>[(1,Aa i),(2,.ref 8 (Al n) 0),(5,.osl 1000),(19,.sl 7 A2 n.ports),(20,Aa n.ports.length),(21,Aa j)]) (fun j=>[(1000,.row 1 Aa (Ip (Og n d) j))]) []
  ⟨⟨rfl,rfl,rfl,rfl,rfl,rfl,rfl,rfl,rfl,rfl,rfl,rfl,trivial⟩,⟨.inl rfl,rfl,trivial⟩,rfl,rfl⟩ ?_
 intro j hj
 refine oO ?_
 refine⟨fun h=>?_,fun h=>?_⟩
 ·have hlt:j<n.ports.length:=by simpa using h
  have hsucc:=Ww (Og n d) j
  have hfl:=D4 (Og n d) j
  have hin:Og n d j=((n.ports[j]).dev == d.dev && Dk n.ports[j] d.vlan):=by
   rw[Og,Ai (l:=n.ports) (i:=(j:Int)) (by simpa using hlt)];rfl
  rw[hin]at hsucc
  have e1:n.ports[(j:Int).toNat]'qn=n.ports[j]:=rfl
  have hms:=U4 n.ports[j] d.vlan (hn.tagged _ (List.getElem_mem _))
  obtain ⟨p,hp⟩:∃ p,n.ports[j]=p:=⟨_,rfl⟩
  rw[hp]at e1 hsucc hms
  obtain ⟨u,hu⟩:∃ u,Ip (Og n d) j=u:=⟨_,rfl⟩
  rw[hu]at hsucc hfl ⊢
  refine oO ?_
  refine⟨E,by omega,by omega,?_⟩
  rw[e1]
  conv=>whnf
  refine⟨E,hi.1,hk,?_⟩
  rw[hd]
  conv=>whnf
  refine⟨fun h2=>?_,fun h2=>?_⟩
  ·have h3:∃ k:Nat,(k:Int)=i:=⟨i.toNat,by omega⟩
   rw[h2,Bool.true_and]at hsucc
   refine oD ?_
   refine⟨E,hi.1,hk,?_⟩
   rw[hd]
   conv=>whnf
   refine cD hms F93 ?_
   refine oD ?_
   refine kW ?_
   refine⟨fun h4=>?_,fun h4=>?_⟩
   ·rw[if_pos h4]at hsucc
    refine oO ?_
    refine Ad (Ah Γ.toTy 48 E E E E E (.row E) (.lit (e:=Aa) (l:=[(j:Int)]) E E) qy (by simp;omega) (by simp;omega)) E E ?_
    refine oO ?_
    refine iW ?_
    exact Ar [(1000,48)] hlt ⟨⟨E,E,E,E,E,E,E,E,E,E,E,E,Y⟩,⟨.inl (congrArg (Ob.row 1 Aa) hsucc),E,Y⟩,E,E⟩
   ·rw[if_neg (by simp[h4])]at hsucc
    refine oO ?_
    refine iW ?_
    exact Ar [] hlt ⟨⟨E,E,E,E,E,E,E,E,E,E,E,E,Y⟩,⟨.inl (congrArg (Ob.row 1 Aa) hsucc),E,Y⟩,E,E⟩
  ·rw[if_neg (by simp[h2])]at hsucc
   refine oD ?_
   refine⟨qq,?_⟩
   ((conv=>whnf);refine aF ?_;refine rg ?_;conv=>whnf)
   refine iW ?_
   exact Ar [] hlt ⟨⟨E,E,E,E,E,E,E,E,E,E,E,E,Y⟩,⟨.inl (congrArg (Ob.row 1 Aa) hsucc),E,Y⟩,E,E⟩
 ·have:j=n.ports.length:=qB h
  subst this
  refine Aq 1000 E ?_
  refine oO ?_
  exact dN
theorem Aac (n:Net) (hn:n.Fin) (l:List Domain) (p:Domain→Bool) (f:FuncId) (first cap:List SV) (hc:(SV.clo (.func f) first cap).inn []=true) (hf:∀ x∈l,E6 Tryz.prog f (first++[Ao x]++cap) (Ab (p x))) (hl:Aj l) :
  Sy.Spec Tryz.prog 146 [Al n,.sl 6 Ao l,.clo (.func f) first cap] [] (Aa (if Ac n=true then B8 p l else -1)) []:=cT F146 Tryz.ntmps146 fun F hF=>by
 have hr:=A9 n hn
 have q:=E1 l p f first cap hc hf hl
 conv=>whnf
 refine c0 hr F23 ?_
 cases hb:Ac n
 ·rw[if_neg qy]
  refine oT ?_
  exact dN
 rw[if_pos rfl]
 refine oF ?_
 refine Sz q F201 E E (by simp only[B1,hc,Bool.and_true];rfl) E E ?_
 refine oO ?_
 exact dN
theorem Zy (dev vlan:Int) (d:Domain):Sy.Spec Tryz.prog 147 [Ao d,.ref 1 (Aa dev) 0,.ref 1 (Aa vlan) 0] [] (Ab (d.dev == dev && d.vlan == vlan)) []:=cT F147 Tryz.ntmps147 fun F hF=>by
 conv=>whnf
 (repeat' (first | (refine⟨fun h=>?_,fun h=>?_⟩<;>(repeat (first | simp only[beq_iff_eq]at h | simp only[beq_eq_false_iff_ne]at h))<;>((refine oO ?_))) | (refine Am rfl (.cons .tmp .nil) ?_ rfl)))
 all_goals (refine congrArg Ab ?_)
 all_goals simp_all
def Ch (n:Net) (dev vlan:Int):Int:=if Ac n=true then Tx n dev vlan else -1
theorem H4 (n:Net) (hn:n.Fin) (dev vlan:Int):Sy.Spec Tryz.prog 89 [Al n,Aa dev,Aa vlan] [] (Aa (Ch n dev vlan)) []:=cT F89 Tryz.ntmps89 fun F hF=>by
 have q:=Aac n hn n.domains (fun d=>d.dev == dev && d.vlan == vlan) 147 [] [.ref 1 (Aa dev) 0,.ref 1 (Aa vlan) 0] rfl (fun d _=>⟨⟨_,_,F147⟩,Zy dev vlan d⟩) hn.domains
 conv=>whnf
 refine Ba 4 1 (Aa dev) E E E ?_
 refine Ba 5 1 (Aa vlan) E E E ?_
 refine c0 q F146 ?_
 refine oO ?_
 exact dN
def Cv (n:Net) (i:Int):Int :=
 if (0≤i∧i<n.ports.length)∧0≤(nth n.ports i).link∧Ac n=true then
  (if (nth n.links (nth n.ports i).link).a=i then (nth n.links (nth n.ports i).link).b else (nth n.links (nth n.ports i).link).a) else -1
theorem Ho {n:Net} (h:Ac n=true) {i:Nat} (hi:i<n.ports.length) (hl:0≤n.ports[i].link) :
  n.ports[i].link.toNat<n.links.length∧((nth n.links n.ports[i].link).a=i∨(nth n.links n.ports[i].link).b=i):=by
 have:=Al4 h hi
 simp only[Ec,Ag,Bool.and_eq_true,Bool.or_eq_true,decide_eq_true_eq,beq_iff_eq]at this
 rcases this.2 with h1 | h1
 ·omega
 ·exact⟨by omega,h1.2⟩
theorem Q5 (n:Net) (hn:n.Fin) (i:Int):Sy.Spec Tryz.prog 268 [Al n,Aa i] [] (Aa (Cv n i)) []:=cT F268 Tryz.ntmps268 fun F hF=>by
 have hr:=A9 n hn
 conv=>whnf
 refine⟨fun h=>?_,fun h=>?_⟩
 ·have h1:i<0:=of_decide_eq_true h
  rw[Cv,if_neg qn]
  (refine oT ?_;refine bT ?_;refine bT ?_)
  exact dN
 have h1:0≤i:=qB h
 refine oO ?_
 refine⟨fun h=>?_,fun h=>?_⟩
 ·have h2:n.ports.length≤i:=of_decide_eq_true h
  rw[Cv,if_neg qn]
  (refine oT ?_;refine bT ?_)
  exact dN
 have h2:i<n.ports.length:=qB h
 have hk:i.toNat<n.ports.length:=by omega
 have e1:nth n.ports i=n.ports[i.toNat]:=Ai hk
 have hlk:=fun (hb:Ac n=true)=>Ho hb hk
 rw[Cv,e1]
 obtain ⟨p,hp⟩:∃ p,n.ports[i.toNat]=p:=⟨_,rfl⟩
 rw[hp]at hlk ⊢
 refine oO ?_
 refine⟨E,h1,hk,?_⟩
 rw[hp]
 conv=>whnf
 refine⟨fun h=>?_,fun h=>?_⟩
 ·have h3:p.link<0:=of_decide_eq_true h
  rw[if_neg qn]
  refine oT ?_
  exact dN
 have h3:0≤p.link:=qB h
 refine oO ?_
 refine c0 hr F23 ?_
 cases hb:Ac n
 ·rw[if_neg qy]
  refine oT ?_
  exact dN
 rw[if_pos ⟨⟨h1,h2⟩,h3,rfl⟩]
 have hq:=hlk hb h3
 have e2:nth n.links p.link=n.links[p.link.toNat]:=Ai hq.1
 rw[e2]
 obtain ⟨l,hl⟩:∃ l,n.links[p.link.toNat]'hq.1=l:=⟨_,rfl⟩
 rw[hl]
 refine oF ?_
 refine⟨E,h1,hk,?_⟩
 rw[hp]
 conv=>whnf
 refine⟨E,h3,hq.1,?_⟩
 rw[hl]
 conv=>whnf
 refine kW ?_
 refine⟨fun h=>?_,fun h=>?_⟩
 ·have h4:l.a=i:=by simpa using h
  rw[if_pos h4]
  refine oO ?_
  exact dN
 ·have h4:¬ l.a=i:=by simpa using h
  rw[if_neg h4]
  refine oO ?_
  exact dN
theorem e_link {n:Net} (h:Ac n=true) {i:Nat} (hi:i<n.links.length):(0≤n.links[i].a∧n.links[i].a.toNat<n.ports.length)∧(0≤n.links[i].b∧n.links[i].b.toNat<n.ports.length):=by
 simp only[Ac,Bool.and_eq_true]at h
 have:=allB_iff.1 h.1.1.1.1.2 i hi
 simp only[Jz,Ag,Bool.and_eq_true,decide_eq_true_eq]at this
 omega
theorem H3 {n:Net} {i:Int} (h:0≤Cv n i):(0≤i∧i.toNat<n.ports.length)∧Ac n=true∧(Cv n i).toNat<n.ports.length:=by
 unfold Cv at h ⊢
 split at h
 ·rename_i hc
  rw[if_pos hc]
  have hk:i.toNat<n.ports.length:=by omega
  have e1:nth n.ports i=n.ports[i.toNat]:=Ai hk
  rw[e1]at hc h ⊢
  have hq:=Ho hc.2.2 hk hc.2.1
  have e2:nth n.links n.ports[i.toNat].link=n.links[n.ports[i.toNat].link.toNat]:=Ai hq.1
  have hl:=e_link hc.2.2 hq.1
  rw[e2]at h ⊢
  refine⟨by omega,hc.2.2,?_⟩
  split
  ·exact hl.2.2
  ·exact hl.1.2
 ·omega
def U9 (n:Net) (i v:Int):Int:=if v=(nth n.ports i).native then (nth n.ports (Cv n i)).native else if inB (nth n.ports (Cv n i)).tagged v=true then v else 0
def crossT (n:Net) (i v:Int):Int × Int × Bool :=
 if 0≤Cv n i∧Dk (nth n.ports i) v=true∧U9 n i v≠0 then (Cv n i,U9 n i v,true) else (0,0,false)
theorem Acf (n:Net) (hn:n.Fin) (i v:Int):Sy.Spec Tryz.prog 204 [Al n,Aa i,Aa v] [] (.tup [Aa (crossT n i v).1,Aa (crossT n i v).2.1,Ab (crossT n i v).2.2]) []:=cT F204 Tryz.ntmps204 fun F hF=>by
 have q:=Q5 n hn i
 have hth:=H3 (n:=n) (i:=i)
 have hc:=crossT.eq_1 n i v
 unfold U9 at hc
 generalize crossT n i v=r at *
 obtain ⟨far,hfar⟩:∃ far,Cv n i=far:=⟨_,rfl⟩
 rw[hfar]at q hth hc
 ((conv=>whnf);repeat((first|refine aF ?_|refine aT ?_);(first|refine rG Γ hm ?_|refine rD Γ hm qq ?_);conv=>whnf))
 refine c0 q F268 ?_
 ((first|refine rG Γ hm ?_|refine rD Γ hm qq ?_);(conv=>whnf);repeat((first|refine aF ?_|refine aT ?_);(first|refine rG Γ hm ?_|refine rD Γ hm qq ?_);conv=>whnf))
 refine⟨fun h=>?_,fun h=>?_⟩
 ·have h1:far<0:=of_decide_eq_true h
  rw[if_neg qn]at hc
  subst hc
  ((first|refine rG Γ hm ?_|refine rD Γ hm qq ?_);(conv=>whnf);repeat((first|refine aF ?_|refine aT ?_);(first|refine rG Γ hm ?_|refine rD Γ hm qq ?_);conv=>whnf))
  exact dN
 have h1:0≤far:=qB h
 obtain ⟨⟨hi0,hk⟩,hb,hfk⟩:=hth h1
 have e1:nth n.ports i=n.ports[i.toNat]:=Ai hk
 have e2:nth n.ports far=n.ports[far.toNat]:=Ai hfk
 rw[e1,e2]at hc
 have ht1:=hn.tagged _ (List.getElem_mem hk)
 have ht2:=hn.tagged _ (List.getElem_mem hfk)
 obtain ⟨p,hp⟩:∃ p,n.ports[i.toNat]=p:=⟨_,rfl⟩
 obtain ⟨o,ho⟩:∃ o,n.ports[far.toNat]=o:=⟨_,rfl⟩
 rw[hp]at hc ht1
 rw[ho]at hc ht2
 have hms:=U4 p v ht1
 have hcs:=Cq o.tagged v ht2
 refine Ba 3 8 (Al n) E E E ?_
 ((first|refine rG Γ hm ?_|refine rD Γ hm qq ?_);(conv=>whnf);repeat((first|refine aF ?_|refine aT ?_);(first|refine rG Γ hm ?_|refine rD Γ hm qq ?_);conv=>whnf))
 refine⟨E,hi0,hk,?_⟩
 rw[hp]
 ((conv=>whnf);repeat((first|refine aF ?_|refine aT ?_);(first|refine rG Γ hm ?_|refine rD Γ hm qq ?_);conv=>whnf))
 refine c0 hms F93 ?_
 cases hm2:Dk p v
 ·rw[if_neg (by simp[hm2])]at hc
  subst hc
  ((first|refine rG Γ hm ?_|refine rD Γ hm qq ?_);(conv=>whnf);repeat((first|refine aF ?_|refine aT ?_);(first|refine rG Γ hm ?_|refine rD Γ hm qq ?_);conv=>whnf))
  exact dN
 ((first|refine rG Γ hm ?_|refine rD Γ hm qq ?_);(conv=>whnf);repeat((first|refine aF ?_|refine aT ?_);(first|refine rG Γ hm ?_|refine rD Γ hm qq ?_);conv=>whnf))
 refine⟨E,h1,hfk,?_⟩
 rw[ho]
 ((conv=>whnf);repeat((first|refine aF ?_|refine aT ?_);(first|refine rG Γ hm ?_|refine rD Γ hm qq ?_);conv=>whnf))
 refine⟨E,hi0,hk,?_⟩
 rw[hp]
 ((conv=>whnf);repeat((first|refine aF ?_|refine aT ?_);(first|refine rG Γ hm ?_|refine rD Γ hm qq ?_);conv=>whnf))
 refine⟨fun h=>?_,fun h=>?_⟩
 ·have h2:v=p.native:=by simpa using h
  rw[if_pos h2]at hc
  ((first|refine rG Γ hm ?_|refine rD Γ hm qq ?_);(conv=>whnf);repeat((first|refine aF ?_|refine aT ?_);(first|refine rG Γ hm ?_|refine rD Γ hm qq ?_);conv=>whnf))
  refine⟨fun h=>?_,fun h=>?_⟩
  ·have h3:o.native=0:=by simpa using h
   rw[if_neg (fun hh=>hh.2.2 h3)]at hc
   subst hc
   ((first|refine rG Γ hm ?_|refine rD Γ hm qq ?_);(conv=>whnf);repeat((first|refine aF ?_|refine aT ?_);(first|refine rG Γ hm ?_|refine rD Γ hm qq ?_);conv=>whnf))
   exact dN
  ·have h3:o.native≠0:=by simpa using h
   rw[if_pos ⟨h1,hm2,h3⟩]at hc
   subst hc
   ((first|refine rG Γ hm ?_|refine rD Γ hm qq ?_);(conv=>whnf);repeat((first|refine aF ?_|refine aT ?_);(first|refine rG Γ hm ?_|refine rD Γ hm qq ?_);conv=>whnf))
   exact dN
 have h2:¬ v=p.native:=by simpa using h
 rw[if_neg h2]at hc
 ((first|refine rG Γ hm ?_|refine rD Γ hm qq ?_);(conv=>whnf);repeat((first|refine aF ?_|refine aT ?_);(first|refine rG Γ hm ?_|refine rD Γ hm qq ?_);conv=>whnf))
 refine c0 hcs F25 ?_
 cases hin:inB o.tagged v
 ·rw[hin,if_neg qy]at hc
  subst hc
  ((first|refine rG Γ hm ?_|refine rD Γ hm qq ?_);(conv=>whnf);repeat((first|refine aF ?_|refine aT ?_);(first|refine rG Γ hm ?_|refine rD Γ hm qq ?_);conv=>whnf))
  exact dN
 rw[hin,if_pos rfl]at hc
 ((first|refine rG Γ hm ?_|refine rD Γ hm qq ?_);(conv=>whnf);repeat((first|refine aF ?_|refine aT ?_);(first|refine rG Γ hm ?_|refine rD Γ hm qq ?_);conv=>whnf))
 refine⟨fun h=>?_,fun h=>?_⟩
 ·have h3:v=0:=by simpa using h
  rw[if_neg (fun hh=>hh.2.2 h3)]at hc
  subst hc
  ((first|refine rG Γ hm ?_|refine rD Γ hm qq ?_);(conv=>whnf);repeat((first|refine aF ?_|refine aT ?_);(first|refine rG Γ hm ?_|refine rD Γ hm qq ?_);conv=>whnf))
  exact dN
 ·have h3:v≠0:=by simpa using h
  rw[if_pos ⟨h1,hm2,h3⟩]at hc
  subst hc
  ((first|refine rG Γ hm ?_|refine rD Γ hm qq ?_);(conv=>whnf);repeat((first|refine aF ?_|refine aT ?_);(first|refine rG Γ hm ?_|refine rD Γ hm qq ?_);conv=>whnf))
  exact dN
def linkDomT (n:Net) (i v:Int):Int × Bool:=if (crossT n i v).2.2=true then (Ch n (nth n.ports (crossT n i v).1).dev (crossT n i v).2.1,true) else (0,false)
theorem Ss {n:Net} {i v:Int} (h:(crossT n i v).2.2=true):0≤(crossT n i v).1∧(crossT n i v).1.toNat<n.ports.length:=by
 unfold crossT at h ⊢
 split at h
 ·rename_i hc
  rw[if_pos hc]
  exact⟨hc.1,(H3 hc.1).2.2⟩
 ·cases h
theorem Z2 (n:Net) (hn:n.Fin) (i v:Int):Sy.Spec Tryz.prog 149 [Al n,Aa i,Aa v] [] (.tup [Aa (linkDomT n i v).1,Ab (linkDomT n i v).2]) []:=cT F149 Tryz.ntmps149 fun F hF=>by
 have q:=Acf n hn i v
 have hth:=Ss (n:=n) (i:=i) (v:=v)
 have hc:=linkDomT.eq_1 n i v
 generalize linkDomT n i v=r at *
 generalize crossT n i v=x at *
 obtain ⟨far,to,ok⟩:=x
 ((conv=>whnf);repeat((first|refine aF ?_|refine aT ?_);(first|refine rG Γ hm ?_|refine rD Γ hm qq ?_);conv=>whnf))
 refine c0 q F204 ?_
 cases ok
 ·rw[if_neg qy]at hc
  subst hc
  ((first|refine rG Γ hm ?_|refine rD Γ hm qq ?_);(conv=>whnf);repeat((first|refine aF ?_|refine aT ?_);(first|refine rG Γ hm ?_|refine rD Γ hm qq ?_);conv=>whnf))
  exact dN
 rw[if_pos rfl]at hc
 have hf:=hth rfl
 dsimp only at hf hc
 have e2:nth n.ports far=n.ports[far.toNat]:=Ai hf.2
 rw[e2]at hc
 obtain ⟨o,ho⟩:∃ o,n.ports[far.toNat]'hf.2=o:=⟨_,rfl⟩
 rw[ho]at hc
 have q2:=H4 n hn o.dev to
 subst hc
 refine Ba 3 8 (Al n) E E E ?_
 ((first|refine rG Γ hm ?_|refine rD Γ hm qq ?_);(conv=>whnf);repeat((first|refine aF ?_|refine aT ?_);(first|refine rG Γ hm ?_|refine rD Γ hm qq ?_);conv=>whnf))
 refine⟨E,hf.1,hf.2,?_⟩
 rw[ho]
 ((conv=>whnf);repeat((first|refine aF ?_|refine aT ?_);(first|refine rG Γ hm ?_|refine rD Γ hm qq ?_);conv=>whnf))
 refine cD q2 F89 ?_
 ((first|refine rG Γ hm ?_|refine rD Γ hm qq ?_);(conv=>whnf);repeat((first|refine aF ?_|refine aT ?_);(first|refine rG Γ hm ?_|refine rD Γ hm qq ?_);conv=>whnf))
 refine⟨qq,?_⟩
 ((conv=>whnf);repeat((first|refine aF ?_|refine aT ?_);(first|refine rG Γ hm ?_|refine rD Γ hm qq ?_);conv=>whnf))
 exact dN
theorem Im (l:List Int) (p:Int→Bool) (f:FuncId) (first cap:List SV) (hc:(SV.clo (.func f) first cap).inn []=true) (hf:∀ x∈l,E6 Tryz.prog f (first++[Aa x]++cap) (Ab (p x))) (hl:Aj l) :
  Sy.Spec Tryz.prog 362 [.sl 1 Aa l,.clo (.func f) first cap] [] (Aa (B8 p l)) []:=cT F362 Tryz.ntmps362 fun F hF=>by
 unfold Aj at hl
 have hin:∀ x:Int,B1 [] (first++[Aa x]++cap)=true:=fun x=>Cj hc rfl
 conv=>whnf
 refine Ay l.length (fun j=>C4 (fun _ x=>!(p x)) l j) (fun j=>[(0,.sl 1 Aa l),(1,.clo (.func f) first cap),(7,Aa l.length),(8,Aa j)]) (fun _=>[]) [] (At _ _) ⟨⟨E,E,A7 _,hc,E,E,E,E,Y⟩,Y,E,E⟩ ?_
 intro j hj hI
 refine oO ?_
 refine⟨fun h=>?_,fun h=>?_⟩
 ·have h:=of_decide_eq_true h
  have hj2:j<l.length:=by omega
  refine oO ?_
  refine⟨E,by omega,by omega,?_⟩
  conv=>whnf
  refine Dp (hf l[j] (List.getElem_mem hj2)) E E E (by simp only[hin];rfl) E E ?_
  refine oO ?_
  refine⟨fun h2=>?_,fun h2=>?_⟩
  ·refine oO ?_
   refine Am E (.cons .tmp .nil) (congrArg Aa ?_) E
   exact C6 hj2 (fun i hi hij=>by simpa using hI i hi hij) h2
  ·refine oO ?_
   refine iW ?_
   exact Aw [] hI hj2 (Ap hI hj2 (by simp[h2])) ⟨⟨E,E,A7 _,hc,E,E,E,E,Y⟩,Y,E,E⟩
 ·have h:=of_decide_eq_false h
  refine oO ?_
  refine Am E (.cons .tmp .nil) (congrArg Aa ?_) E
  exact Ds (fun i hi=>by simpa using hI i hi qn)
theorem Sv (l:List Int) (p:Int→Bool) (f:FuncId) (first cap:List SV) (hc:(SV.clo (.func f) first cap).inn []=true) (hf:∀ x∈l,E6 Tryz.prog f (first++[Aa x]++cap) (Ab (p x))) (hl:Aj l) :
  Sy.Spec Tryz.prog 384 [.sl 1 Aa l,.clo (.func f) first cap] [] (Ab (decide (0≤B8 p l))) []:=cT F384 Tryz.ntmps384 fun F hF=>by
 have h0:B1 [] [.sl 1 Aa l,.clo (.func f) first cap]=true:=by simp only[B1,hc];rfl
 conv=>whnf
 refine Sz (Im l p f first cap hc hf hl) F362 E E (by simp only[h0];rfl) E E ?_
 refine oO ?_
 exact dN
theorem Wk (l:List Irb) (p:Irb→Bool) (f:FuncId) (first cap:List SV) (hc:(SV.clo (.func f) first cap).inn []=true) (hf:∀ x∈l,E6 Tryz.prog f (first++[Ca x]++cap) (Ab (p x))) (hl:Aj l) :
  Sy.Spec Tryz.prog 272 [.sl 5 Ca l,.clo (.func f) first cap] [] (Aa (B8 p l)) []:=cT F272 Tryz.ntmps272 fun F hF=>by
 unfold Aj at hl
 have hin:∀ x:Irb,B1 [] (first++[Ca x]++cap)=true:=fun x=>Cj hc rfl
 ((conv=>whnf);repeat((first|refine aF ?_|refine aT ?_);(first|refine rG Γ hm ?_|refine rD Γ hm qq ?_);conv=>whnf))
 refine Ay l.length (fun j=>C4 (fun _ x=>!(p x)) l j) (fun j=>[(0,.sl 5 Ca l),(1,.clo (.func f) first cap),(7,Aa l.length),(8,Aa j)]) (fun _=>[]) [] (At _ _) ⟨⟨E,E,A7 _,hc,E,E,E,E,Y⟩,Y,E,E⟩ ?_
 intro j hj hI
 ((first|refine rG Γ hm ?_|refine rD Γ hm qq ?_);(conv=>whnf);repeat((first|refine aF ?_|refine aT ?_);(first|refine rG Γ hm ?_|refine rD Γ hm qq ?_);conv=>whnf))
 refine⟨fun h=>?_,fun h=>?_⟩
 ·have h:=of_decide_eq_true h
  have hj2:j<l.length:=by omega
  ((first|refine rG Γ hm ?_|refine rD Γ hm qq ?_);(conv=>whnf);repeat((first|refine aF ?_|refine aT ?_);(first|refine rG Γ hm ?_|refine rD Γ hm qq ?_);conv=>whnf))
  refine⟨E,by omega,by omega,?_⟩
  ((conv=>whnf);repeat((first|refine aF ?_|refine aT ?_);(first|refine rG Γ hm ?_|refine rD Γ hm qq ?_);conv=>whnf))
  refine Dp (hf l[j] (List.getElem_mem hj2)) E E E (by simp only[hin];rfl) E E ?_
  ((first|refine rG Γ hm ?_|refine rD Γ hm qq ?_);(conv=>whnf);repeat((first|refine aF ?_|refine aT ?_);(first|refine rG Γ hm ?_|refine rD Γ hm qq ?_);conv=>whnf))
  refine⟨fun h2=>?_,fun h2=>?_⟩
  ·((first|refine rG Γ hm ?_|refine rD Γ hm qq ?_);(conv=>whnf);repeat((first|refine aF ?_|refine aT ?_);(first|refine rG Γ hm ?_|refine rD Γ hm qq ?_);conv=>whnf))
   refine Am E (.cons .tmp .nil) (congrArg Aa ?_) E
   exact C6 hj2 (fun i hi hij=>by simpa using hI i hi hij) h2
  ·((first|refine rG Γ hm ?_|refine rD Γ hm qq ?_);(conv=>whnf);repeat((first|refine aF ?_|refine aT ?_);(first|refine rG Γ hm ?_|refine rD Γ hm qq ?_);conv=>whnf))
   refine iL ?_
   ((conv=>whnf);repeat((first|refine aF ?_|refine aT ?_);(first|refine rG Γ hm ?_|refine rD Γ hm qq ?_);conv=>whnf))
   exact Aw [] hI hj2 (Ap hI hj2 (by simp[h2])) ⟨⟨E,E,A7 _,hc,E,E,E,E,Y⟩,Y,E,E⟩
 ·have h:=of_decide_eq_false h
  ((first|refine rG Γ hm ?_|refine rD Γ hm qq ?_);(conv=>whnf);repeat((first|refine aF ?_|refine aT ?_);(first|refine rG Γ hm ?_|refine rD Γ hm qq ?_);conv=>whnf))
  refine Am E (.cons .tmp .nil) (congrArg Aa ?_) E
  exact Ds (fun i hi=>by simpa using hI i hi qn)
theorem I4 (l:List Irb) (p:Irb→Bool) (f:FuncId) (first cap:List SV) (hc:(SV.clo (.func f) first cap).inn []=true) (hf:∀ x∈l,E6 Tryz.prog f (first++[Ca x]++cap) (Ab (p x))) (hl:Aj l) :
  Sy.Spec Tryz.prog 208 [.sl 5 Ca l,.clo (.func f) first cap] [] (Ab (decide (0≤B8 p l))) []:=cT F208 Tryz.ntmps208 fun F hF=>by
 have h0:B1 [] [.sl 5 Ca l,.clo (.func f) first cap]=true:=by simp only[B1,hc];rfl
 ((conv=>whnf);repeat((first|refine aF ?_|refine aT ?_);(first|refine rG Γ hm ?_|refine rD Γ hm qq ?_);conv=>whnf))
 refine Sz (Wk l p f first cap hc hf hl) F272 E E (by simp only[h0];rfl) E E ?_
 ((first|refine rG Γ hm ?_|refine rD Γ hm qq ?_);(conv=>whnf);repeat((first|refine aF ?_|refine aT ?_);(first|refine rG Γ hm ?_|refine rD Γ hm qq ?_);conv=>whnf))
 exact dN
theorem Amw (v:Vrf) (hv:Aj v.imports) (t:Int):Sy.Spec Tryz.prog 383 [Aa t,.ref 5 (Cn v) 0] [] (Ab (inB v.imports t)) []:=cT F383 Tryz.ntmps383 fun F hF=>by
 have q:=Cq v.imports t hv
 conv=>whnf
 refine c0 q F25 ?_
 refine oO ?_
 exact dN
def Ae7 (n:Net) (i k:Int):Bool:=i == k || (nth n.vrfs i).dev == (nth n.vrfs k).dev && decide (0≤B8 (inB (nth n.vrfs k).imports) (nth n.vrfs i).exports)
theorem Ad3 (n:Net) (hn:n.Fin) (hb:Ac n=true) (i k:Int) (hi:0≤i∧i.toNat<n.vrfs.length) (hk:0≤k∧k.toNat<n.vrfs.length) :
  Sy.Spec Tryz.prog 372 [Al n,Aa i,Aa k] [] (Ab (Ae7 n i k)) []:=cT F372 Tryz.ntmps372 fun F hF=>by
 have hr:=A9 n hn
 rw[hb]at hr
 have him:=hn.imports _ (List.getElem_mem hk.2)
 have hex:=hn.exports _ (List.getElem_mem hi.2)
 rw[Ae7,Ai hi.2,Ai hk.2]
 obtain ⟨a,ha⟩:∃ a,n.vrfs[i.toNat]'hi.2=a:=⟨_,rfl⟩
 obtain ⟨b,hbb⟩:∃ b,n.vrfs[k.toNat]'hk.2=b:=⟨_,rfl⟩
 rw[ha]at hex ⊢
 rw[hbb]at him ⊢
 have q:=Sv a.exports (inB b.imports) 383 [] [.ref 5 (Cn b) 0] rfl (fun t _=>⟨⟨_,_,F383⟩,Amw b him t⟩) hex
 conv=>whnf
 refine⟨fun h=>absurd (of_decide_eq_true h) qn,fun _=>?_⟩
 refine oO ?_
 refine⟨fun h=>absurd (of_decide_eq_true h) qn,fun _=>?_⟩
 refine oO ?_
 refine⟨fun h=>absurd (of_decide_eq_true h) qn,fun _=>?_⟩
 refine oO ?_
 refine⟨fun h=>absurd (of_decide_eq_true h) qn,fun _=>?_⟩
 refine oO ?_
 refine c0 hr F23 ?_
 refine oF ?_
 refine⟨E,hi.1,hi.2,?_⟩
 rw[ha]
 conv=>whnf
 refine⟨E,hk.1,hk.2,?_⟩
 rw[hbb]
 conv=>whnf
 refine kW ?_
 refine⟨fun h=>?_,fun h=>?_⟩
 ·rw[h,Bool.true_or]
  refine oO ?_
  exact dN
 rw[h,Bool.false_or]
 refine oO ?_
 refine⟨fun h=>?_,fun h=>?_⟩
 ·rw[h,Bool.true_and]
  refine Ba 8 5 (Cn b) E E E ?_
  refine oO ?_
  refine c0 q F384 ?_
  refine oO ?_
  exact dN
 ·rw[h,Bool.false_and]
  refine oO ?_
  exact dN
def Jf (n:Net) (i:Int):Int:=(nth n.domains (nth n.irbs i).domain).dev
theorem e_irb {n:Net} (h:Ac n=true) {i:Nat} (hi:i<n.irbs.length):Uu n i n.irbs[i]=true:=by
 simp only[Ac,Bool.and_eq_true]at h
 exact allB_iff.1 h.2 i hi
theorem C3 {n:Net} (h:Ac n=true) {i:Nat} (hi:i<n.irbs.length) :
  (0≤n.irbs[i].domain∧n.irbs[i].domain.toNat<n.domains.length)∧(0≤n.irbs[i].vrf∧n.irbs[i].vrf.toNat<n.vrfs.length)∧(0≤n.irbs[i].bits∧n.irbs[i].bits≤32):=by
 have:=e_irb h hi
 simp only[Uu,Ag,Bool.and_eq_true,decide_eq_true_eq]at this
 omega
theorem Hy (n:Net) (hb:Ac n=true) (i:Int) (hi:0≤i∧i.toNat<n.irbs.length):Sy.Spec Tryz.prog 326 [Al n,Aa i] [] (Aa (Jf n i)) []:=cT F326 Tryz.ntmps326 fun F hF=>by
 have hf:=(C3 hb hi.2).1
 rw[Jf,Ai hi.2]
 obtain ⟨x,hx⟩:∃ x,n.irbs[i.toNat]'hi.2=x:=⟨_,rfl⟩
 rw[hx]at hf ⊢
 rw[Ai hf.2]
 obtain ⟨d,hd⟩:∃ d,n.domains[x.domain.toNat]'hf.2=d:=⟨_,rfl⟩
 rw[hd]
 conv=>whnf
 refine⟨E,hi.1,hi.2,?_⟩
 rw[hx]
 conv=>whnf
 refine⟨E,hf.1,hf.2,?_⟩
 rw[hd]
 conv=>whnf
 refine kW ?_
 exact dN
def Agg (n:Net) (i k:Int):Bool:=Jf n i == Jf n k && Ae7 n (nth n.irbs k).vrf (nth n.irbs i).vrf
theorem Aee (n:Net) (hn:n.Fin) (hb:Ac n=true) (i k:Int) (hi:0≤i∧i.toNat<n.irbs.length) (hk:0≤k∧k.toNat<n.irbs.length) :
  Sy.Spec Tryz.prog 328 [Al n,Aa i,Aa k] [] (Ab (Agg n i k)) []:=cT F328 Tryz.ntmps328 fun F hF=>by
 have q1:=Hy n hb i hi
 have q2:=Hy n hb k hk
 have f1:=(C3 hb hi.2).2.1
 have f2:=(C3 hb hk.2).2.1
 have q3:=Ad3 n hn hb _ _ f2 f1
 rw[Agg,Ai hi.2,Ai hk.2]
 obtain ⟨x,hx⟩:∃ x,n.irbs[i.toNat]'hi.2=x:=⟨_,rfl⟩
 obtain ⟨y,hy⟩:∃ y,n.irbs[k.toNat]'hk.2=y:=⟨_,rfl⟩
 rw[hx,hy]at q3
 rw[hx,hy]
 generalize Jf n i=di at *
 generalize Jf n k=dk at *
 conv=>whnf
 refine cD q1 F326 ?_
 refine oD ?_
 refine cD q2 F326 ?_
 refine oD ?_
 refine⟨fun h=>?_,fun h=>?_⟩
 ·rw[h,Bool.true_and]
  refine oD ?_
  refine⟨E,hk.1,hk.2,?_⟩
  rw[hy]
  conv=>whnf
  refine⟨E,hi.1,hi.2,?_⟩
  rw[hx]
  conv=>whnf
  refine cD q3 F372 ?_
  refine oD ?_
  refine kW ?_
  exact dN
 ·rw[h,Bool.false_and]
  refine oD ?_
  refine kW ?_
  exact dN
structure Hop where
 (kind port domain addr:Int)
abbrev Bl (h:Hop):SV:=.agg [Aa h.kind,Aa h.port,Aa h.domain,Bi h.addr]
instance:Inhabited Hop:=⟨⟨0,0,0,0⟩⟩
def W6 (n:Net) (d:Int):Prop:=(0≤d∧d<n.domains.length)∧Ac n=true
instance (n:Net) (d:Int):Decidable (W6 n d):=inferInstanceAs (Decidable (_∧_))
theorem Abt (n:Net) (hn:n.Fin) (d:Int):Sy.Spec Tryz.prog 148 [Al n,Aa d] [] (Ab (decide (W6 n d))) []:=cT F148 Tryz.ntmps148 fun F hF=>by
 have hr:=A9 n hn
 conv=>whnf
 refine⟨fun h=>?_,fun h=>?_⟩
 ·have h1:0≤d:=of_decide_eq_true h
  refine Ba 2 8 (Al n) E E E ?_
  refine oO ?_
  refine⟨fun h=>?_,fun h=>?_⟩
  ·have h2:d<n.domains.length:=of_decide_eq_true h
   refine oO ?_
   refine c0 hr F23 ?_
   refine oO ?_
   refine Am E (.cons .tmp .nil) (congrArg Ab ?_) E
   cases hb:Ac n<;>simp[W6,h1,h2,hb]
  ·have h2:¬ d<n.domains.length:=of_decide_eq_false h
   refine oO ?_
   refine Am E (.cons .tmp .nil) (congrArg Ab ?_) E
   simp[W6,h2]
 ·have h1:¬ 0≤d:=of_decide_eq_false h
  refine oF ?_
  refine Am E (.cons .tmp .nil) (congrArg Ab ?_) E
  simp[W6,h1]
def linkHop (n:Net) (d p:Int):Option Hop:=if (linkDomT n p (nth n.domains d).vlan).2=true then some ⟨1,p,(linkDomT n p (nth n.domains d).vlan).1,0⟩ else none
def Iz (p:Int):Hop:=⟨2,0,p,0⟩
def hopsL (n:Net) (d:Int):List Hop:=(B5 n d).filterMap (linkHop n d)++(nth n.domains d).peers.map Iz
def Hl (n:Net) (d:Int):List Hop:=if W6 n d then hopsL n d else []
theorem Z3 {n:Net} {d:Int} {l:List Int} {j:Nat} {p:Int} (h:j<l.length) (hp:l[j]=p):(l.take (j+1)).filterMap (linkHop n d) =
  (l.take j).filterMap (linkHop n d)++(match linkHop n d p with | some h=>[h] | none=>[]):=by
 subst hp
 rw[List.take_add_one,List.getElem?_eq_getElem h,List.filterMap_append]
 cases hh:linkHop n d l[j]<;>simp[hh]
theorem Ael (n:Net) (hn:n.Fin) (d:Int):Sy.Spec Tryz.prog 95 [Al n,Aa d] [] (.sl 4 Bl (Hl n d)) []:=cT F95 Tryz.ntmps95 fun F hF=>by
 have hp:=Abt n hn d
 have hm2:=Jc n hn d
 have hms:=E0 n hn d
 unfold Aj at hms
 conv=>whnf
 refine Ba 2 8 (Al n) E E E ?_
 refine oO ?_
 refine c0 hp F148 ?_
 by_cases hd:W6 n d
 rotate_left
 ·rw[Hl,if_neg hd,decide_eq_false hd]
  refine oT ?_
  refine Ak 4 4 Bl E ?_
  refine oO ?_
  exact dN
 rw[Hl,if_pos hd,decide_eq_true hd]
 have hk:d.toNat<n.domains.length:=by have:=hd.1;omega
 have h0:0≤d:=hd.1.1
 have hpe:=hn.peers _ (List.getElem_mem hk)
 unfold Aj at hpe
 have hh:=hopsL.eq_1 n d
 have hlh:=linkHop.eq_1 n d
 have hsn:=fun j p h hp=>Z3 (n:=n) (d:=d) (l:=B5 n d) (j:=j) (p:=p) h hp
 have hfl:∀ j,((B5 n d).take j |>.filterMap (linkHop n d)).length≤(B5 n d).length:=fun j=>by
  refine Nat.le_trans (List.length_filterMap_le _ _) ?_
  rw[List.length_take];omega
 have hall:(B5 n d).take (B5 n d).length=B5 n d:=List.take_length
 rw[Ai hk]at hh hlh
 obtain ⟨x,hx⟩:∃ x,n.domains[d.toNat]'hk=x:=⟨_,rfl⟩
 rw[hx]at hh hlh hpe
 generalize hopsL n d=res at *
 generalize B5 n d=mem at *
 refine oF ?_
 refine c0 hm2 F26 ?_
 refine oO ?_
 refine Cc 5 1000 4 Bl E E ?_
 refine Az mem.length (fun j=>[(1,Aa d),(2,.ref 8 (Al n) 0),(5,.osl 1000),(18,.sl 1 Aa mem),(19,Aa mem.length),(20,Aa j)]) (fun j=>[(1000,.row 4 Bl ((mem.take j).filterMap (linkHop n d)))]) []
  ⟨⟨rfl,rfl,rfl,rfl,rfl,rfl,rfl,rfl,rfl,rfl,rfl,rfl,trivial⟩,⟨.inl rfl,rfl,trivial⟩,rfl,rfl⟩ ?_
 intro j hj
 have hflj:=hfl j
 refine oO ?_
 refine⟨fun h=>?_,fun h=>?_⟩
 ·have hlt:j<mem.length:=by simpa using h
  have hj0:((j:Nat):Int).toNat<mem.length:=by simpa using hlt
  obtain ⟨p,hp'⟩:∃ p,mem[((j:Nat):Int).toNat]'hj0=p:=⟨_,rfl⟩
  have hs:=hsn j p hlt hp'
  have q:=Z2 n hn p x.vlan
  rw[hlh p]at hs
  generalize linkDomT n p x.vlan=ld at *
  obtain ⟨to,ok⟩:=ld
  refine oO ?_
  refine⟨E,by omega,hj0,?_⟩
  rw[hp']
  conv=>whnf
  refine⟨E,h0,hk,?_⟩
  rw[hx]
  conv=>whnf
  refine cD q F149 ?_
  refine oD ?_
  refine kW ?_
  dsimp only at hs
  refine⟨fun h=>?_,fun h=>?_⟩<;>(have h:ok=_:=h;subst h)
  ·refine oO ?_
   refine Ad (Ah Γ.toTy 42 E E E E E (.row E) (.lit (e:=Bl) (l:=[⟨1,p,to,0⟩]) E E) qy (by simp;omega) (by simp;omega)) E E ?_
   refine oO ?_
   refine iW ?_
   exact Ar [(1000,42)] hlt ⟨⟨E,E,E,E,E,E,E,E,E,E,E,E,Y⟩,⟨.inl (congrArg (Ob.row 4 Bl) hs),E,Y⟩,E,E⟩
  ·refine oO ?_
   refine iW ?_
   exact Ar [] hlt ⟨⟨E,E,E,E,E,E,E,E,E,E,E,E,Y⟩,⟨.inl (congrArg (Ob.row 4 Bl) (hs.trans (List.append_nil _))),E,Y⟩,E,E⟩
 ·have:j=mem.length:=qB h
  subst this
  rw[hall]at hflj ⊢
  generalize mem.filterMap (linkHop n d)=first at *
  refine oO ?_
  refine⟨E,h0,hk,?_⟩
  rw[hx]
  conv=>whnf
  refine Az x.peers.length (fun j=>[(5,.osl 1000),(49,.sl 1 Aa x.peers),(50,Aa x.peers.length),(51,Aa j)]) (fun j=>[(1000,.row 4 Bl (first++(x.peers.take j).map Iz))]) []
   ⟨⟨rfl,rfl,rfl,rfl,rfl,rfl,rfl,rfl,trivial⟩,⟨.inl (congrArg (Ob.row 4 Bl) (List.append_nil _)),rfl,trivial⟩,rfl,rfl⟩ ?_
  intro j hj
  refine oO ?_
  refine⟨fun h=>?_,fun h=>?_⟩
  ·have hlt:j<x.peers.length:=by simpa using h
   have hj0:((j:Nat):Int).toNat<x.peers.length:=by simpa using hlt
   obtain ⟨p,hp'⟩:∃ p,x.peers[((j:Nat):Int).toNat]'hj0=p:=⟨_,rfl⟩
   have hs:(first++(x.peers.take j).map Iz)++[⟨2,0,p,0⟩]=first++(x.peers.take (j+1)).map Iz:=by
    rw[List.take_add_one,List.getElem?_eq_getElem hlt,List.map_append,List.append_assoc]
    congr 2
    simp only[Option.toList,List.map_cons,List.map_nil,Iz]
    congr 2
    exact hp'.symm
   refine oO ?_
   refine⟨E,by omega,hj0,?_⟩
   rw[hp']
   conv=>whnf
   refine Ad (Ah Γ.toTy 59 E E E E E (.row E) (.lit (e:=Bl) (l:=[⟨2,0,p,0⟩]) E E) qy (by simp;omega) (by simp;omega)) E E ?_
   refine oO ?_
   refine iW ?_
   exact Ar [(1000,59)] hlt ⟨⟨E,E,E,E,E,E,E,E,Y⟩,⟨.inl (congrArg (Ob.row 4 Bl) hs.symm),E,Y⟩,E,E⟩
  ·have:j=x.peers.length:=qB h
   subst this
   refine oO ?_
   refine Aq 1000 E ?_
   refine oO ?_
   refine Am E (.cons .tmp .nil) ?_ E
   rw[hh,List.take_length]
   rfl
end Go.Sy.YteinjapglfkamaaGreat
