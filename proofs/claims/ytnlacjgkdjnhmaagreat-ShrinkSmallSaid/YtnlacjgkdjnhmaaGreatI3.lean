/-
  Sy22 Ty N1 R1 R2 R3 R5 R6 A5 A6 R7 R8 K0 Sy25 Sy26 Sy27 Sy28 Sh E1 N2: parts of a proof, joined by program.
-/
import Derived.Test.YtnlacjgkdjnhmaaGreatI2
import Derived.Test.YtnlacjgkdjnhmaaGreatProg
import Derived.Laws.Bits64b
import Derived.ChangeKeysEq
import Derived.Below
import Derived.Lib.Join
import Derived.Lib.Strings
import Derived.Lib.Bytealg
namespace Go.Sy
mutual
def frb (d sz:Nat) (x:SV):SV→SV
 | .ptr k o=>bif Nat.beq k d then .ref sz x o else .ptr k o
 | .agg l=>.agg (Zh d sz x l)
 | .tup l=>.tup (Zh d sz x l)
 | .ifc t y=>.ifc t (frb d sz x y)
 | .clo f g l=>.clo f (Zh d sz x g) (Zh d sz x l)
 | y=>y
def Zh (d sz:Nat) (x:SV):List SV→List SV
 | []=>[]
 | y::l=>frb d sz x y::Zh d sz x l
end
mutual
theorem Aec {κ κ':Ka} {w:World} {K:Nat→Prop} {d sz:Nat} {x:SV} (st:Step K κ w κ' w) (hx:∀ o v,Rd κ w (.ptr d o) v→Rd κ' w (.ref sz x o) v):∀ (y:SV) (v:Value),Rd κ w y v→Rd κ' w (frb d sz x y) v
 | .ptr k o,v,h=>by
  unfold frb
  by_cases hk:k=d
  ·subst hk;rw[show Nat.beq k k=true from Nat.beq_refl k];exact hx o v h
  ·rw[show Nat.beq k d=false from by cases hb:Nat.beq k d with | false=>rfl | true=>exact absurd (Nat.eq_of_beq_eq_true hb) hk];exact Rd.step st _ _ h
 | .agg l,v,h=>by
  simp only[Rd]at h
  unfold frb
  simp only[Rd]
  obtain ⟨cs,h1,h2,h3⟩:=h
  exact⟨cs,h1,h2,L3 st hx l cs h3⟩
 | .tup l,v,h=>by
  simp only[Rd]at h
  unfold frb
  simp only[Rd]
  obtain ⟨cs,h1,h3⟩:=h
  exact⟨cs,h1,L3 st hx l cs h3⟩
 | .ifc t y,v,h=>by
  simp only[Rd]at h
  unfold frb
  simp only[Rd]
  obtain ⟨u,h1,h3⟩:=h
  exact⟨u,h1,Aec st hx y u h3⟩
 | .clo f g l,v,h=>by
  simp only[Rd]at h
  unfold frb
  simp only[Rd]
  obtain ⟨fs,cs,h1,h2,h3⟩:=h
  exact⟨fs,cs,h1,L3 st hx g fs h2,L3 st hx l cs h3⟩
 | .top,v,h=>by unfold frb;exact Rd.step st _ _ h
 | .val u,v,h=>by unfold frb;exact Rd.step st _ _ h
 | .sl sz e l,v,h=>by unfold frb;exact Rd.step st _ _ h
 | .ref sz z o,v,h=>by unfold frb;exact Rd.step st _ _ h
 | .rpt k sz i o,v,h=>by unfold frb;exact Rd.step st _ _ h
 | .osl k,v,h=>by unfold frb;exact Rd.step st _ _ h
theorem L3 {κ κ':Ka} {w:World} {K:Nat→Prop} {d sz:Nat} {x:SV} (st:Step K κ w κ' w) (hx:∀ o v,Rd κ w (.ptr d o) v→Rd κ' w (.ref sz x o) v):∀ (l:List SV) (vs:List Value),RdL κ w l vs→RdL κ' w (Zh d sz x l) vs
 | [],vs,h=>by
  unfold Zh
  simpa [RdL] using h
 | y::l,vs,h=>by
  simp only[RdL]at h
  unfold Zh
  simp only[RdL]
  obtain ⟨v,r,h1,h2,h3⟩:=h
  exact⟨v,r,h1,Aec st hx y v h2,L3 st hx l r h3⟩
end
def frbO (d sz:Nat) (x:SV):Ob→Ob
 | .box l=>.box (Zh d sz x l)
 | o=>o
theorem Aes {κ κ':Ka} {w:World} {d sz:Nat} {l:List SV} {x:SV} (h:ObOK κ w d (.box l)) (hl:cellsOf x=l) (hb:x.boxed=true) (_hd:Jn l=true) (hsz:l.length=sz) (ho:∀ b,b<w.heap.size→¬ Own κ b→¬ Own κ' b)
  (hdead:∀ b,(κ d).block? = some b→b<w.heap.size∧¬ Own κ' b) (hxd:x.data=true) (o:Nat) (v:Value) (hv:Rd κ w (.ptr d o) v):Rd κ' w (.ref sz x o) v:=by
 obtain ⟨b,cs,T,fr,e1,e2,e3,e4,e5⟩:=h
 simp only[Rd,e1]at hv
 obtain ⟨h1,h2⟩:=hdead b (by rw[e1];rfl)
 rw[← hl]at e5
 obtain ⟨u,f1,f2⟩:=Rd.of_cells hb e4 e5
 simp only[Rd,RdD]
 refine⟨b,0,u,by rw[Nat.zero_add];exact hv,h2,h1,RdD.keep ⟨Nat.le_refl _,fun _ _ _=>rfl,ho⟩ _ _ (Rd.data _ _ hxd f1),?_,by rw[f2];exact e4,fun j hj=>?_⟩
 ·have:=e5.length
  rw[← hsz,← hl,← this,← f2]
  simp
 ·rw[Nat.zero_add,cell_of_row w b _ cs.toArray T fr e2,← f2]
theorem B0 {C:Cx} {k:List KI} {s:SS} (d sz:Nat) (x:SV) {l:List SV} (h:s.h d=.box l) (hl:cellsOf x=l) (hc:(x.boxed && x.data && Jn l && Nat.beq l.length sz)=true)
  (hg:G C k ⟨fun i=>frb d sz x (s.σ i),fun j=>bif Nat.beq j d then .non else frbO d sz x (s.h j)⟩):G C k s:=fun κ a w hs=>by
 simp only[Bool.and_eq_true]at hc
 obtain ⟨⟨⟨hb,hxd⟩,hd⟩,hsz⟩:=hc
 have hsz:=Nat.eq_of_beq_eq_true hsz
 have hob:=hs.obj d
 rw[h]at hob
 have st:=E1 (κ:=κ) (w:=w) (some d)
 have inv:=If hs.inv (some d)
 have hx:∀ o v,Rd κ w (.ptr d o) v→Rd (Cq κ d .dead) w (.ref sz x o) v:=fun o v hv =>
  Aes hob hl hb hd hsz st.keeps.out (fun b hb=>⟨hs.inv.bnd d b hb,by
   rintro (⟨q,hq⟩ | hq)
   ·by_cases hqd:q=d
    ·subst hqd;change (Cq κ q .dead q).block? = some b at hq;rw[Ar]at hq;cases hq
    ·change (Cq κ d .dead q).block? = some b at hq
     rw[Bt _ _ hqd]at hq
     exact hqd (hs.inv.inj q d b hq hb)
   ·exact hs.inv.apart d b hb hq⟩) hxd o v hv
 refine hg (Cq κ d .dead) a w ⟨hs.defers,hs.size,inv,hs.ctx.step inv st,fun j=>Aec st hx _ _ (hs.slot j),fun j=>?_⟩
 show ObOK _ w j (bif Nat.beq j d then .non else frbO d sz x (s.h j))
 by_cases hj:j=d
 ·subst hj;rw[show Nat.beq j j=true from Nat.beq_refl j];trivial
 ·rw[show Nat.beq j d=false from by cases hb:Nat.beq j d with | false=>rfl | true=>exact absurd (Nat.eq_of_beq_eq_true hb) hj]
  have hb:=ObOK.step st (fun e=>hj (Option.some.inj e).symm) _ (hs.obj j)
  have h0:=hs.obj j
  show ObOK _ w j (frbO d sz x (s.h j))
  cases hh:s.h j with
  | box m =>
   rw[hh]at h0 hb
   obtain ⟨b,cs,T,fr,e1,e2,e3,e4,e5⟩:=h0
   exact⟨b,cs,T,fr,by show Cq κ d .dead j=_;rw[Bt _ _ hj];exact e1,e2,e3,e4,L3 st hx m cs e5⟩
  | fresh=>rw[hh]at hb;exact hb
  | non=>rw[hh]at hb;exact hb
  | row sz' e' l'=>rw[hh]at hb;exact hb
  | lit sz' svs=>rw[hh]at hb;exact hb
  | glob sz' x' g'=>rw[hh]at hb;exact hb
  | pin b' n' cap' sz' e' l'=>rw[hh]at hb;exact hb
  | dat v' sz' e' l'=>rw[hh]at hb;exact hb
theorem Ap {C:Cx} {k:List KI} {s:SS} (d sz:Nat) {α:Type} (e:α→SV) (h:s.σ d=.val (.slice none 0 0)) (hg:G C k ⟨upd s.σ d (.sl sz e []),s.h⟩):G C k s :=
 G_set d (fun κ w v hv=>by
  rw[h]at hv
  simp only[Rd]at hv
  simp only[Rd,RdD]
  exact .inl ⟨Y,none,0,hv⟩) hg
end Go.Sy
namespace Go.Sy.YtnlacjgkdjnhmaaGreat
open Go.Proofs
set_option maxRecDepth 100000
theorem ty1:A5 Tryz.prog 1=some ⟨.func,1,[.nilFunc]⟩:=by kernel_rfl
theorem ty2:A5 Tryz.prog 2=some ⟨.int .i64,1,[.int .i64 0]⟩:=by kernel_rfl
theorem ty3:A5 Tryz.prog 3=some ⟨.int .i64,1,[.int .i64 0]⟩:=by kernel_rfl
theorem ty4:A5 Tryz.prog 4=some ⟨.bool,1,[.bool false]⟩:=by kernel_rfl
theorem ty5:A5 Tryz.prog 5=some ⟨.int .u8,1,[.int .u8 0]⟩:=by kernel_rfl
theorem ty9:A5 Tryz.prog 9=some ⟨.string,1,[.string .empty]⟩:=by kernel_rfl
theorem ty20:A5 Tryz.prog 20=some ⟨.iface,1,[.nilIface]⟩:=by kernel_rfl
theorem ty22:A5 Tryz.prog 22=some ⟨.slice 51 5 48 [.int .i64 0,.int .i64 0,.string .empty,.int .u64 0,.int .u32 0],1,[.slice none 0 0]⟩:=by kernel_rfl
theorem ty23:A5 Tryz.prog 23=some ⟨.slice 53 7 80 [.int .i64 0,.int .i64 0,.int .i64 0,.int .i64 0,.int .i64 0,.string .empty,.slice none 0 0],1,[.slice none 0 0]⟩:=by kernel_rfl
theorem ty24:A5 Tryz.prog 24=some ⟨.slice 91 3 24 [.int .i64 0,.int .i64 0,.int .i64 0],1,[.slice none 0 0]⟩:=by kernel_rfl
theorem ty25:A5 Tryz.prog 25=some ⟨.slice 55 6 64 [.int .i64 0,.int .i64 0,.int .i64 0,.int .i64 0,.int .i64 0,.slice none 0 0],1,[.slice none 0 0]⟩:=by kernel_rfl
theorem ty26:A5 Tryz.prog 26=some ⟨.slice 95 4 32 [.int .i64 0,.int .i64 0,.int .i64 0,.int .u64 0],1,[.slice none 0 0]⟩:=by kernel_rfl
theorem ty27:A5 Tryz.prog 27=some ⟨.slice 69 4 48 [.int .i64 0,.int .i64 0,.int .i64 0,.slice none 0 0],1,[.slice none 0 0]⟩:=by kernel_rfl
theorem ty28:A5 Tryz.prog 28=some ⟨.slice 71 5 80 [.int .i64 0,.int .i64 0,.string .empty,.slice none 0 0,.slice none 0 0],1,[.slice none 0 0]⟩:=by kernel_rfl
theorem ty29:A5 Tryz.prog 29=some ⟨.slice 107 5 40 [.int .i64 0,.int .i64 0,.int .i64 0,.int .u32 0,.int .i64 0],1,[.slice none 0 0]⟩:=by kernel_rfl
theorem ty31:A5 Tryz.prog 31=some ⟨.struct [(0,1),(1,1),(2,1),(3,1),(4,1),(5,1),(6,1),(7,1)],8,[.slice none 0 0,.slice none 0 0,.slice none 0 0,.slice none 0 0,.slice none 0 0,.slice none 0 0,.slice none 0 0,.slice none 0 0]⟩:=by kernel_rfl
theorem ty32:A5 Tryz.prog 32=some ⟨.slice 3 1 8 [.int .i64 0],1,[.slice none 0 0]⟩:=by kernel_rfl
theorem ty33:A5 Tryz.prog 33=some ⟨.slice 58 1 24 [.slice none 0 0],1,[.slice none 0 0]⟩:=by kernel_rfl
theorem ty34:A5 Tryz.prog 34=some ⟨.slice 46 6 80 [.int .i64 0,.int .i64 0,.int .i64 0,.int .i64 0,.slice none 0 0,.slice none 0 0],1,[.slice none 0 0]⟩:=by kernel_rfl
theorem ty39:A5 Tryz.prog 39=some ⟨.int .i64,1,[.int .i64 0]⟩:=by kernel_rfl
theorem ty43:A5 Tryz.prog 43=some ⟨.slice 5 1 1 [.int .u8 0],1,[.slice none 0 0]⟩:=by kernel_rfl
theorem ty44:A5 Tryz.prog 44=some ⟨.slice 4 1 1 [.bool false],1,[.slice none 0 0]⟩:=by kernel_rfl
theorem ty46:A5 Tryz.prog 46=some ⟨.struct [(0,1),(1,1),(2,1),(3,1),(4,1),(5,1)],6,[.int .i64 0,.int .i64 0,.int .i64 0,.int .i64 0,.slice none 0 0,.slice none 0 0]⟩:=by kernel_rfl
theorem ty48:A5 Tryz.prog 48=some ⟨.int .u64,1,[.int .u64 0]⟩:=by kernel_rfl
theorem ty49:A5 Tryz.prog 49=some ⟨.int .u32,1,[.int .u32 0]⟩:=by kernel_rfl
theorem ty51:A5 Tryz.prog 51=some ⟨.struct [(0,1),(1,1),(2,1),(3,1),(4,1)],5,[.int .i64 0,.int .i64 0,.string .empty,.int .u64 0,.int .u32 0]⟩:=by kernel_rfl
theorem ty53:A5 Tryz.prog 53=some ⟨.struct [(0,1),(1,1),(2,1),(3,1),(4,1),(5,1),(6,1)],7,[.int .i64 0,.int .i64 0,.int .i64 0,.int .i64 0,.int .i64 0,.string .empty,.slice none 0 0]⟩:=by kernel_rfl
theorem ty55:A5 Tryz.prog 55=some ⟨.struct [(0,1),(1,1),(2,1),(3,1),(4,1),(5,1)],6,[.int .i64 0,.int .i64 0,.int .i64 0,.int .i64 0,.int .i64 0,.slice none 0 0]⟩:=by kernel_rfl
theorem ty58:A5 Tryz.prog 58=some ⟨.slice 160 3 24 [.int .u64 0,.int .i64 0,.int .i64 0],1,[.slice none 0 0]⟩:=by kernel_rfl
theorem ty60:A5 Tryz.prog 60=some ⟨.struct [(0,8),(8,1),(9,1)],10,[.slice none 0 0,.slice none 0 0,.slice none 0 0,.slice none 0 0,.slice none 0 0,.slice none 0 0,.slice none 0 0,.slice none 0 0,.slice none 0 0,.slice none 0 0]⟩:=by kernel_rfl
theorem ty67:A5 Tryz.prog 67=some ⟨.slice 49 1 4 [.int .u32 0],1,[.slice none 0 0]⟩:=by kernel_rfl
theorem ty69:A5 Tryz.prog 69=some ⟨.struct [(0,1),(1,1),(2,1),(3,1)],4,[.int .i64 0,.int .i64 0,.int .i64 0,.slice none 0 0]⟩:=by kernel_rfl
theorem ty71:A5 Tryz.prog 71=some ⟨.struct [(0,1),(1,1),(2,1),(3,1),(4,1)],5,[.int .i64 0,.int .i64 0,.string .empty,.slice none 0 0,.slice none 0 0]⟩:=by kernel_rfl
theorem ty73:A5 Tryz.prog 73=some ⟨.slice 78 3 40 [.int .i64 0,.int .i64 0,.slice none 0 0],1,[.slice none 0 0]⟩:=by kernel_rfl
theorem ty78:A5 Tryz.prog 78=some ⟨.struct [(0,1),(1,1),(2,1)],3,[.int .i64 0,.int .i64 0,.slice none 0 0]⟩:=by kernel_rfl
theorem ty79:A5 Tryz.prog 79=some ⟨.ptr,1,[.pointer none]⟩:=by kernel_rfl
theorem ty84:A5 Tryz.prog 84=some ⟨.struct [(0,8)],8,[.slice none 0 0,.slice none 0 0,.slice none 0 0,.slice none 0 0,.slice none 0 0,.slice none 0 0,.slice none 0 0,.slice none 0 0]⟩:=by kernel_rfl
theorem ty86:A5 Tryz.prog 86=some ⟨.func,1,[.nilFunc]⟩:=by kernel_rfl
theorem ty88:A5 Tryz.prog 88=some ⟨.func,1,[.nilFunc]⟩:=by kernel_rfl
theorem ty91:A5 Tryz.prog 91=some ⟨.struct [(0,1),(1,1),(2,1)],3,[.int .i64 0,.int .i64 0,.int .i64 0]⟩:=by kernel_rfl
theorem ty92:A5 Tryz.prog 92=some ⟨.func,1,[.nilFunc]⟩:=by kernel_rfl
theorem ty95:A5 Tryz.prog 95=some ⟨.struct [(0,1),(1,1),(2,1),(3,1)],4,[.int .i64 0,.int .i64 0,.int .i64 0,.int .u64 0]⟩:=by kernel_rfl
theorem ty96:A5 Tryz.prog 96=some ⟨.func,1,[.nilFunc]⟩:=by kernel_rfl
theorem ty99:A5 Tryz.prog 99=some ⟨.func,1,[.nilFunc]⟩:=by kernel_rfl
theorem ty102:A5 Tryz.prog 102=some ⟨.func,1,[.nilFunc]⟩:=by kernel_rfl
theorem ty105:A5 Tryz.prog 105=some ⟨.struct [(0,1),(1,1)],2,[.int .u32 0,.int .i64 0]⟩:=by kernel_rfl
theorem ty107:A5 Tryz.prog 107=some ⟨.struct [(0,1),(1,1),(2,1),(3,2)],5,[.int .i64 0,.int .i64 0,.int .i64 0,.int .u32 0,.int .i64 0]⟩:=by kernel_rfl
theorem ty108:A5 Tryz.prog 108=some ⟨.func,1,[.nilFunc]⟩:=by kernel_rfl
theorem ty114:A5 Tryz.prog 114=some ⟨.struct [(0,1),(1,1),(2,1),(3,1)],4,[.int .u64 0,.int .u64 0,.int .i64 0,.slice none 0 0]⟩:=by kernel_rfl
theorem ty116:A5 Tryz.prog 116=some ⟨.struct [(0,1),(1,1),(2,1),(3,4)],7,[.int .i64 0,.int .i64 0,.int .i64 0,.int .u64 0,.int .u64 0,.int .i64 0,.slice none 0 0]⟩:=by kernel_rfl
theorem ty119:A5 Tryz.prog 119=some ⟨.ptr,1,[.pointer none]⟩:=by kernel_rfl
theorem ty120:A5 Tryz.prog 120=some ⟨.slice 172 1 24 [.slice none 0 0],1,[.slice none 0 0]⟩:=by kernel_rfl
theorem ty125:A5 Tryz.prog 125=some ⟨.struct [(0,0),(0,0),(0,1)],1,[.int .i64 0]⟩:=by kernel_rfl
theorem ty126:A5 Tryz.prog 126=some ⟨.array 125 64 1,64,[.int .i64 0,.int .i64 0,.int .i64 0,.int .i64 0,.int .i64 0,.int .i64 0,.int .i64 0,.int .i64 0,.int .i64 0,.int .i64 0,.int .i64 0,.int .i64 0,.int .i64 0,.int .i64 0,.int .i64 0,.int .i64 0,.int .i64 0,.int .i64 0,.int .i64 0,.int .i64 0,.int .i64 0,.int .i64 0,.int .i64 0,.int .i64 0,.int .i64 0,.int .i64 0,.int .i64 0,.int .i64 0,.int .i64 0,.int .i64 0,.int .i64 0,.int .i64 0,.int .i64 0,.int .i64 0,.int .i64 0,.int .i64 0,.int .i64 0,.int .i64 0,.int .i64 0,.int .i64 0,.int .i64 0,.int .i64 0,.int .i64 0,.int .i64 0,.int .i64 0,.int .i64 0,.int .i64 0,.int .i64 0,.int .i64 0,.int .i64 0,.int .i64 0,.int .i64 0,.int .i64 0,.int .i64 0,.int .i64 0,.int .i64 0,.int .i64 0,.int .i64 0,.int .i64 0,.int .i64 0,.int .i64 0,.int .i64 0,.int .i64 0,.int .i64 0]⟩:=by kernel_rfl
theorem ty128:A5 Tryz.prog 128=some ⟨.struct [(0,8),(8,1),(9,1),(10,1),(11,1),(12,1),(13,64)],77,[.slice none 0 0,.slice none 0 0,.slice none 0 0,.slice none 0 0,.slice none 0 0,.slice none 0 0,.slice none 0 0,.slice none 0 0,.pointer none,.slice none 0 0,.slice none 0 0,.int .i64 0,.int .i64 0,.int .i64 0,.int .i64 0,.int .i64 0,.int .i64 0,.int .i64 0,.int .i64 0,.int .i64 0,.int .i64 0,.int .i64 0,.int .i64 0,.int .i64 0,.int .i64 0,.int .i64 0,.int .i64 0,.int .i64 0,.int .i64 0,.int .i64 0,.int .i64 0,.int .i64 0,.int .i64 0,.int .i64 0,.int .i64 0,.int .i64 0,.int .i64 0,.int .i64 0,.int .i64 0,.int .i64 0,.int .i64 0,.int .i64 0,.int .i64 0,.int .i64 0,.int .i64 0,.int .i64 0,.int .i64 0,.int .i64 0,.int .i64 0,.int .i64 0,.int .i64 0,.int .i64 0,.int .i64 0,.int .i64 0,.int .i64 0,.int .i64 0,.int .i64 0,.int .i64 0,.int .i64 0,.int .i64 0,.int .i64 0,.int .i64 0,.int .i64 0,.int .i64 0,.int .i64 0,.int .i64 0,.int .i64 0,.int .i64 0,.int .i64 0,.int .i64 0,.int .i64 0,.int .i64 0,.int .i64 0,.int .i64 0,.int .i64 0,.int .i64 0,.int .i64 0]⟩:=by kernel_rfl
theorem ty131:A5 Tryz.prog 131=some ⟨.struct [(0,0),(0,1)],1,[.int .u32 0]⟩:=by kernel_rfl
theorem ty135:A5 Tryz.prog 135=some ⟨.struct [(0,0),(0,2)],2,[.int .i32 0,.int .u32 0]⟩:=by kernel_rfl
theorem ty137:A5 Tryz.prog 137=some ⟨.struct [(0,0),(0,1),(1,2)],3,[.int .u32 0,.int .i32 0,.int .u32 0]⟩:=by kernel_rfl
theorem ty139:A5 Tryz.prog 139=some ⟨.struct [(0,1),(1,3),(4,1)],5,[.slice none 0 0,.int .u32 0,.int .i32 0,.int .u32 0,.slice none 0 0]⟩:=by kernel_rfl
theorem ty141:A5 Tryz.prog 141=some ⟨.func,1,[.nilFunc]⟩:=by kernel_rfl
theorem ty145:A5 Tryz.prog 145=some ⟨.func,1,[.nilFunc]⟩:=by kernel_rfl
theorem ty156:A5 Tryz.prog 156=some ⟨.func,1,[.nilFunc]⟩:=by kernel_rfl
theorem ty160:A5 Tryz.prog 160=some ⟨.struct [(0,1),(1,1),(2,1)],3,[.int .u64 0,.int .i64 0,.int .i64 0]⟩:=by kernel_rfl
theorem ty164:A5 Tryz.prog 164=some ⟨.slice 170 9 104 [.int .i64 0,.int .i64 0,.int .i64 0,.slice none 0 0,.int .u64 0,.int .u64 0,.int .i64 0,.slice none 0 0,.int .i64 0],1,[.slice none 0 0]⟩:=by kernel_rfl
theorem ty170:A5 Tryz.prog 170=some ⟨.struct [(0,1),(1,1),(2,1),(3,1),(4,4),(8,1)],9,[.int .i64 0,.int .i64 0,.int .i64 0,.slice none 0 0,.int .u64 0,.int .u64 0,.int .i64 0,.slice none 0 0,.int .i64 0]⟩:=by kernel_rfl
theorem ty172:A5 Tryz.prog 172=some ⟨.slice 116 7 72 [.int .i64 0,.int .i64 0,.int .i64 0,.int .u64 0,.int .u64 0,.int .i64 0,.slice none 0 0],1,[.slice none 0 0]⟩:=by kernel_rfl
theorem ty177:A5 Tryz.prog 177=some ⟨.func,1,[.nilFunc]⟩:=by kernel_rfl
theorem ty178:A5 Tryz.prog 178=some ⟨.int .u64,1,[.int .u64 0]⟩:=by kernel_rfl
theorem ty181:A5 Tryz.prog 181=some ⟨.ptr,1,[.pointer none]⟩:=by kernel_rfl
theorem ty225:A5 Tryz.prog 225=some ⟨.func,1,[.nilFunc]⟩:=by kernel_rfl
theorem ty232:A5 Tryz.prog 232=some ⟨.struct [(0,8),(8,1),(9,1),(10,1),(11,1)],12,[.slice none 0 0,.slice none 0 0,.slice none 0 0,.slice none 0 0,.slice none 0 0,.slice none 0 0,.slice none 0 0,.slice none 0 0,.slice none 0 0,.slice none 0 0,.slice none 0 0,.slice none 0 0]⟩:=by kernel_rfl
theorem ty233:A5 Tryz.prog 233=some ⟨.func,1,[.nilFunc]⟩:=by kernel_rfl
theorem ty238:A5 Tryz.prog 238=some ⟨.ptr,1,[.pointer none]⟩:=by kernel_rfl
theorem ty243:A5 Tryz.prog 243=some ⟨.struct [(0,8),(8,1),(9,1),(10,1),(11,1)],12,[.slice none 0 0,.slice none 0 0,.slice none 0 0,.slice none 0 0,.slice none 0 0,.slice none 0 0,.slice none 0 0,.slice none 0 0,.slice none 0 0,.int .i64 0,.int .i64 0,.slice none 0 0]⟩:=by kernel_rfl
theorem ty247:A5 Tryz.prog 247=some ⟨.struct [(0,1),(1,1),(2,1),(3,1),(4,1),(5,1),(6,1)],7,[.int .i64 0,.int .i64 0,.int .i64 0,.int .i64 0,.int .u32 0,.int .u32 0,.slice none 0 0]⟩:=by kernel_rfl
theorem ty256:A5 Tryz.prog 256=some ⟨.struct [(0,8)],8,[.slice none 0 0,.slice none 0 0,.slice none 0 0,.slice none 0 0,.slice none 0 0,.slice none 0 0,.slice none 0 0,.slice none 0 0]⟩:=by kernel_rfl
theorem ty260:A5 Tryz.prog 260=some ⟨.ptr,1,[.pointer none]⟩:=by kernel_rfl
theorem ty261:A5 Tryz.prog 261=some ⟨.ptr,1,[.pointer none]⟩:=by kernel_rfl
theorem ty263:A5 Tryz.prog 263=some ⟨.ptr,1,[.pointer none]⟩:=by kernel_rfl
theorem ty271:A5 Tryz.prog 271=some ⟨.func,1,[.nilFunc]⟩:=by kernel_rfl
theorem ty275:A5 Tryz.prog 275=some ⟨.ptr,1,[.pointer none]⟩:=by kernel_rfl
theorem ty277:A5 Tryz.prog 277=some ⟨.slice 280 3 24 [.int .i64 0,.int .i64 0,.int .i64 0],1,[.slice none 0 0]⟩:=by kernel_rfl
theorem ty280:A5 Tryz.prog 280=some ⟨.struct [(0,1),(1,1),(2,1)],3,[.int .i64 0,.int .i64 0,.int .i64 0]⟩:=by kernel_rfl
theorem ty284:A5 Tryz.prog 284=some ⟨.slice 286 5 40 [.int .i64 0,.int .i64 0,.int .i64 0,.int .i64 0,.int .i64 0],1,[.slice none 0 0]⟩:=by kernel_rfl
theorem ty286:A5 Tryz.prog 286=some ⟨.struct [(0,1),(1,1),(2,1),(3,1),(4,1)],5,[.int .i64 0,.int .i64 0,.int .i64 0,.int .i64 0,.int .i64 0]⟩:=by kernel_rfl
theorem ty308:A5 Tryz.prog 308=some ⟨.ptr,1,[.pointer none]⟩:=by kernel_rfl
theorem ty310:A5 Tryz.prog 310=some ⟨.ptr,1,[.pointer none]⟩:=by kernel_rfl
theorem ty312:A5 Tryz.prog 312=some ⟨.ptr,1,[.pointer none]⟩:=by kernel_rfl
theorem ty314:A5 Tryz.prog 314=some ⟨.struct [(0,7),(7,1)],8,[.int .i64 0,.int .i64 0,.int .i64 0,.int .i64 0,.int .u32 0,.int .u32 0,.slice none 0 0,.int .i64 0]⟩:=by kernel_rfl
theorem ty316:A5 Tryz.prog 316=some ⟨.struct [(0,8),(8,1)],9,[.int .i64 0,.int .i64 0,.int .i64 0,.int .i64 0,.int .u32 0,.int .u32 0,.slice none 0 0,.int .i64 0,.int .i64 0]⟩:=by kernel_rfl
theorem ty320:A5 Tryz.prog 320=some ⟨.func,1,[.nilFunc]⟩:=by kernel_rfl
theorem ty325:A5 Tryz.prog 325=some ⟨.iface,1,[.nilIface]⟩:=by kernel_rfl
theorem ty335:A5 Tryz.prog 335=some ⟨.array 3 4 1,4,[.int .i64 0,.int .i64 0,.int .i64 0,.int .i64 0]⟩:=by kernel_rfl
theorem ty348:A5 Tryz.prog 348=some ⟨.func,1,[.nilFunc]⟩:=by kernel_rfl
theorem tq51:My Tryz.prog 51=some [.int .i64,.int .i64,.string,.int .u64,.int .u32]:=by kernel_rfl
theorem tq91:My Tryz.prog 91=some [.int .i64,.int .i64,.int .i64]:=by kernel_rfl
theorem tq95:My Tryz.prog 95=some [.int .i64,.int .i64,.int .i64,.int .u64]:=by kernel_rfl
theorem tq105:My Tryz.prog 105=some [.int .u32,.int .i64]:=by kernel_rfl
theorem tq160:My Tryz.prog 160=some [.int .u64,.int .i64,.int .i64]:=by kernel_rfl
theorem tq280:My Tryz.prog 280=some [.int .i64,.int .i64,.int .i64]:=by kernel_rfl
theorem tq286:My Tryz.prog 286=some [.int .i64,.int .i64,.int .i64,.int .i64,.int .i64]:=by kernel_rfl
def tab:Tr TI:=(.nd 108 (⟨.func,1,[.nilFunc]⟩) (.nd 48 (⟨.int .u64,1,[.int .u64 0]⟩) (.nd 26 (⟨.slice 95 4 32 [.int .i64 0,.int .i64 0,.int .i64 0,.int .u64 0],1,[.slice none 0 0]⟩) (.nd 9 (⟨.string,1,[.string .empty]⟩) (.nd 3 (⟨.int .i64,1,[.int .i64 0]⟩) (.nd 2 (⟨.int .i64,1,[.int .i64 0]⟩) (.nd 1 (⟨.func,1,[.nilFunc]⟩) .lf .lf) .lf) (.nd 5 (⟨.int .u8,1,[.int .u8 0]⟩) (.nd 4 (⟨.bool,1,[.bool false]⟩) .lf .lf) .lf)) (.nd 23 (⟨.slice 53 7 80 [.int .i64 0,.int .i64 0,.int .i64 0,.int .i64 0,.int .i64 0,.string .empty,.slice none 0 0],1,[.slice none 0 0]⟩) (.nd 22 (⟨.slice 51 5 48 [.int .i64 0,.int .i64 0,.string .empty,.int .u64 0,.int .u32 0],1,[.slice none 0 0]⟩) (.nd 20 (⟨.iface,1,[.nilIface]⟩) .lf .lf) .lf) (.nd 25 (⟨.slice 55 6 64 [.int .i64 0,.int .i64 0,.int .i64 0,.int .i64 0,.int .i64 0,.slice none 0 0],1,[.slice none 0 0]⟩) (.nd 24 (⟨.slice 91 3 24 [.int .i64 0,.int .i64 0,.int .i64 0],1,[.slice none 0 0]⟩) .lf .lf) .lf))) (.nd 33 (⟨.slice 58 1 24 [.slice none 0 0],1,[.slice none 0 0]⟩) (.nd 29 (⟨.slice 107 5 40 [.int .i64 0,.int .i64 0,.int .i64 0,.int .u32 0,.int .i64 0],1,[.slice none 0 0]⟩) (.nd 28 (⟨.slice 71 5 80 [.int .i64 0,.int .i64 0,.string .empty,.slice none 0 0,.slice none 0 0],1,[.slice none 0 0]⟩) (.nd 27 (⟨.slice 69 4 48 [.int .i64 0,.int .i64 0,.int .i64 0,.slice none 0 0],1,[.slice none 0 0]⟩) .lf .lf) .lf) (.nd 32 (⟨.slice 3 1 8 [.int .i64 0],1,[.slice none 0 0]⟩) (.nd 31 (⟨.struct [(0,1),(1,1),(2,1),(3,1),(4,1),(5,1),(6,1),(7,1)],8,[.slice none 0 0,.slice none 0 0,.slice none 0 0,.slice none 0 0,.slice none 0 0,.slice none 0 0,.slice none 0 0,.slice none 0 0]⟩) .lf .lf) .lf)) (.nd 43 (⟨.slice 5 1 1 [.int .u8 0],1,[.slice none 0 0]⟩) (.nd 39 (⟨.int .i64,1,[.int .i64 0]⟩) (.nd 34 (⟨.slice 46 6 80 [.int .i64 0,.int .i64 0,.int .i64 0,.int .i64 0,.slice none 0 0,.slice none 0 0],1,[.slice none 0 0]⟩) .lf .lf) .lf) (.nd 46 (⟨.struct [(0,1),(1,1),(2,1),(3,1),(4,1),(5,1)],6,[.int .i64 0,.int .i64 0,.int .i64 0,.int .i64 0,.slice none 0 0,.slice none 0 0]⟩) (.nd 44 (⟨.slice 4 1 1 [.bool false],1,[.slice none 0 0]⟩) .lf .lf) .lf)))) (.nd 79 (⟨.ptr,1,[.pointer none]⟩) (.nd 60 (⟨.struct [(0,8),(8,1),(9,1)],10,[.slice none 0 0,.slice none 0 0,.slice none 0 0,.slice none 0 0,.slice none 0 0,.slice none 0 0,.slice none 0 0,.slice none 0 0,.slice none 0 0,.slice none 0 0]⟩) (.nd 53 (⟨.struct [(0,1),(1,1),(2,1),(3,1),(4,1),(5,1),(6,1)],7,[.int .i64 0,.int .i64 0,.int .i64 0,.int .i64 0,.int .i64 0,.string .empty,.slice none 0 0]⟩) (.nd 51 (⟨.struct [(0,1),(1,1),(2,1),(3,1),(4,1)],5,[.int .i64 0,.int .i64 0,.string .empty,.int .u64 0,.int .u32 0]⟩) (.nd 49 (⟨.int .u32,1,[.int .u32 0]⟩) .lf .lf) .lf) (.nd 58 (⟨.slice 160 3 24 [.int .u64 0,.int .i64 0,.int .i64 0],1,[.slice none 0 0]⟩) (.nd 55 (⟨.struct [(0,1),(1,1),(2,1),(3,1),(4,1),(5,1)],6,[.int .i64 0,.int .i64 0,.int .i64 0,.int .i64 0,.int .i64 0,.slice none 0 0]⟩) .lf .lf) .lf)) (.nd 71 (⟨.struct [(0,1),(1,1),(2,1),(3,1),(4,1)],5,[.int .i64 0,.int .i64 0,.string .empty,.slice none 0 0,.slice none 0 0]⟩) (.nd 69 (⟨.struct [(0,1),(1,1),(2,1),(3,1)],4,[.int .i64 0,.int .i64 0,.int .i64 0,.slice none 0 0]⟩) (.nd 67 (⟨.slice 49 1 4 [.int .u32 0],1,[.slice none 0 0]⟩) .lf .lf) .lf) (.nd 78 (⟨.struct [(0,1),(1,1),(2,1)],3,[.int .i64 0,.int .i64 0,.slice none 0 0]⟩) (.nd 73 (⟨.slice 78 3 40 [.int .i64 0,.int .i64 0,.slice none 0 0],1,[.slice none 0 0]⟩) .lf .lf) .lf))) (.nd 95 (⟨.struct [(0,1),(1,1),(2,1),(3,1)],4,[.int .i64 0,.int .i64 0,.int .i64 0,.int .u64 0]⟩) (.nd 88 (⟨.func,1,[.nilFunc]⟩) (.nd 86 (⟨.func,1,[.nilFunc]⟩) (.nd 84 (⟨.struct [(0,8)],8,[.slice none 0 0,.slice none 0 0,.slice none 0 0,.slice none 0 0,.slice none 0 0,.slice none 0 0,.slice none 0 0,.slice none 0 0]⟩) .lf .lf) .lf) (.nd 92 (⟨.func,1,[.nilFunc]⟩) (.nd 91 (⟨.struct [(0,1),(1,1),(2,1)],3,[.int .i64 0,.int .i64 0,.int .i64 0]⟩) .lf .lf) .lf)) (.nd 102 (⟨.func,1,[.nilFunc]⟩) (.nd 99 (⟨.func,1,[.nilFunc]⟩) (.nd 96 (⟨.func,1,[.nilFunc]⟩) .lf .lf) .lf) (.nd 107 (⟨.struct [(0,1),(1,1),(2,1),(3,2)],5,[.int .i64 0,.int .i64 0,.int .i64 0,.int .u32 0,.int .i64 0]⟩) (.nd 105 (⟨.struct [(0,1),(1,1)],2,[.int .u32 0,.int .i64 0]⟩) .lf .lf) .lf))))) (.nd 233 (⟨.func,1,[.nilFunc]⟩) (.nd 141 (⟨.func,1,[.nilFunc]⟩) (.nd 126 (⟨.array 125 64 1,64,[.int .i64 0,.int .i64 0,.int .i64 0,.int .i64 0,.int .i64 0,.int .i64 0,.int .i64 0,.int .i64 0,.int .i64 0,.int .i64 0,.int .i64 0,.int .i64 0,.int .i64 0,.int .i64 0,.int .i64 0,.int .i64 0,.int .i64 0,.int .i64 0,.int .i64 0,.int .i64 0,.int .i64 0,.int .i64 0,.int .i64 0,.int .i64 0,.int .i64 0,.int .i64 0,.int .i64 0,.int .i64 0,.int .i64 0,.int .i64 0,.int .i64 0,.int .i64 0,.int .i64 0,.int .i64 0,.int .i64 0,.int .i64 0,.int .i64 0,.int .i64 0,.int .i64 0,.int .i64 0,.int .i64 0,.int .i64 0,.int .i64 0,.int .i64 0,.int .i64 0,.int .i64 0,.int .i64 0,.int .i64 0,.int .i64 0,.int .i64 0,.int .i64 0,.int .i64 0,.int .i64 0,.int .i64 0,.int .i64 0,.int .i64 0,.int .i64 0,.int .i64 0,.int .i64 0,.int .i64 0,.int .i64 0,.int .i64 0,.int .i64 0,.int .i64 0]⟩) (.nd 119 (⟨.ptr,1,[.pointer none]⟩) (.nd 116 (⟨.struct [(0,1),(1,1),(2,1),(3,4)],7,[.int .i64 0,.int .i64 0,.int .i64 0,.int .u64 0,.int .u64 0,.int .i64 0,.slice none 0 0]⟩) (.nd 114 (⟨.struct [(0,1),(1,1),(2,1),(3,1)],4,[.int .u64 0,.int .u64 0,.int .i64 0,.slice none 0 0]⟩) .lf .lf) .lf) (.nd 125 (⟨.struct [(0,0),(0,0),(0,1)],1,[.int .i64 0]⟩) (.nd 120 (⟨.slice 172 1 24 [.slice none 0 0],1,[.slice none 0 0]⟩) .lf .lf) .lf)) (.nd 135 (⟨.struct [(0,0),(0,2)],2,[.int .i32 0,.int .u32 0]⟩) (.nd 131 (⟨.struct [(0,0),(0,1)],1,[.int .u32 0]⟩) (.nd 128 (⟨.struct [(0,8),(8,1),(9,1),(10,1),(11,1),(12,1),(13,64)],77,[.slice none 0 0,.slice none 0 0,.slice none 0 0,.slice none 0 0,.slice none 0 0,.slice none 0 0,.slice none 0 0,.slice none 0 0,.pointer none,.slice none 0 0,.slice none 0 0,.int .i64 0,.int .i64 0,.int .i64 0,.int .i64 0,.int .i64 0,.int .i64 0,.int .i64 0,.int .i64 0,.int .i64 0,.int .i64 0,.int .i64 0,.int .i64 0,.int .i64 0,.int .i64 0,.int .i64 0,.int .i64 0,.int .i64 0,.int .i64 0,.int .i64 0,.int .i64 0,.int .i64 0,.int .i64 0,.int .i64 0,.int .i64 0,.int .i64 0,.int .i64 0,.int .i64 0,.int .i64 0,.int .i64 0,.int .i64 0,.int .i64 0,.int .i64 0,.int .i64 0,.int .i64 0,.int .i64 0,.int .i64 0,.int .i64 0,.int .i64 0,.int .i64 0,.int .i64 0,.int .i64 0,.int .i64 0,.int .i64 0,.int .i64 0,.int .i64 0,.int .i64 0,.int .i64 0,.int .i64 0,.int .i64 0,.int .i64 0,.int .i64 0,.int .i64 0,.int .i64 0,.int .i64 0,.int .i64 0,.int .i64 0,.int .i64 0,.int .i64 0,.int .i64 0,.int .i64 0,.int .i64 0,.int .i64 0,.int .i64 0,.int .i64 0,.int .i64 0,.int .i64 0]⟩) .lf .lf) .lf) (.nd 139 (⟨.struct [(0,1),(1,3),(4,1)],5,[.slice none 0 0,.int .u32 0,.int .i32 0,.int .u32 0,.slice none 0 0]⟩) (.nd 137 (⟨.struct [(0,0),(0,1),(1,2)],3,[.int .u32 0,.int .i32 0,.int .u32 0]⟩) .lf .lf) .lf))) (.nd 172 (⟨.slice 116 7 72 [.int .i64 0,.int .i64 0,.int .i64 0,.int .u64 0,.int .u64 0,.int .i64 0,.slice none 0 0],1,[.slice none 0 0]⟩) (.nd 160 (⟨.struct [(0,1),(1,1),(2,1)],3,[.int .u64 0,.int .i64 0,.int .i64 0]⟩) (.nd 156 (⟨.func,1,[.nilFunc]⟩) (.nd 145 (⟨.func,1,[.nilFunc]⟩) .lf .lf) .lf) (.nd 170 (⟨.struct [(0,1),(1,1),(2,1),(3,1),(4,4),(8,1)],9,[.int .i64 0,.int .i64 0,.int .i64 0,.slice none 0 0,.int .u64 0,.int .u64 0,.int .i64 0,.slice none 0 0,.int .i64 0]⟩) (.nd 164 (⟨.slice 170 9 104 [.int .i64 0,.int .i64 0,.int .i64 0,.slice none 0 0,.int .u64 0,.int .u64 0,.int .i64 0,.slice none 0 0,.int .i64 0],1,[.slice none 0 0]⟩) .lf .lf) .lf)) (.nd 181 (⟨.ptr,1,[.pointer none]⟩) (.nd 178 (⟨.int .u64,1,[.int .u64 0]⟩) (.nd 177 (⟨.func,1,[.nilFunc]⟩) .lf .lf) .lf) (.nd 232 (⟨.struct [(0,8),(8,1),(9,1),(10,1),(11,1)],12,[.slice none 0 0,.slice none 0 0,.slice none 0 0,.slice none 0 0,.slice none 0 0,.slice none 0 0,.slice none 0 0,.slice none 0 0,.slice none 0 0,.slice none 0 0,.slice none 0 0,.slice none 0 0]⟩) (.nd 225 (⟨.func,1,[.nilFunc]⟩) .lf .lf) .lf)))) (.nd 284 (⟨.slice 286 5 40 [.int .i64 0,.int .i64 0,.int .i64 0,.int .i64 0,.int .i64 0],1,[.slice none 0 0]⟩) (.nd 261 (⟨.ptr,1,[.pointer none]⟩) (.nd 247 (⟨.struct [(0,1),(1,1),(2,1),(3,1),(4,1),(5,1),(6,1)],7,[.int .i64 0,.int .i64 0,.int .i64 0,.int .i64 0,.int .u32 0,.int .u32 0,.slice none 0 0]⟩) (.nd 243 (⟨.struct [(0,8),(8,1),(9,1),(10,1),(11,1)],12,[.slice none 0 0,.slice none 0 0,.slice none 0 0,.slice none 0 0,.slice none 0 0,.slice none 0 0,.slice none 0 0,.slice none 0 0,.slice none 0 0,.int .i64 0,.int .i64 0,.slice none 0 0]⟩) (.nd 238 (⟨.ptr,1,[.pointer none]⟩) .lf .lf) .lf) (.nd 260 (⟨.ptr,1,[.pointer none]⟩) (.nd 256 (⟨.struct [(0,8)],8,[.slice none 0 0,.slice none 0 0,.slice none 0 0,.slice none 0 0,.slice none 0 0,.slice none 0 0,.slice none 0 0,.slice none 0 0]⟩) .lf .lf) .lf)) (.nd 275 (⟨.ptr,1,[.pointer none]⟩) (.nd 271 (⟨.func,1,[.nilFunc]⟩) (.nd 263 (⟨.ptr,1,[.pointer none]⟩) .lf .lf) .lf) (.nd 280 (⟨.struct [(0,1),(1,1),(2,1)],3,[.int .i64 0,.int .i64 0,.int .i64 0]⟩) (.nd 277 (⟨.slice 280 3 24 [.int .i64 0,.int .i64 0,.int .i64 0],1,[.slice none 0 0]⟩) .lf .lf) .lf))) (.nd 316 (⟨.struct [(0,8),(8,1)],9,[.int .i64 0,.int .i64 0,.int .i64 0,.int .i64 0,.int .u32 0,.int .u32 0,.slice none 0 0,.int .i64 0,.int .i64 0]⟩) (.nd 310 (⟨.ptr,1,[.pointer none]⟩) (.nd 308 (⟨.ptr,1,[.pointer none]⟩) (.nd 286 (⟨.struct [(0,1),(1,1),(2,1),(3,1),(4,1)],5,[.int .i64 0,.int .i64 0,.int .i64 0,.int .i64 0,.int .i64 0]⟩) .lf .lf) .lf) (.nd 314 (⟨.struct [(0,7),(7,1)],8,[.int .i64 0,.int .i64 0,.int .i64 0,.int .i64 0,.int .u32 0,.int .u32 0,.slice none 0 0,.int .i64 0]⟩) (.nd 312 (⟨.ptr,1,[.pointer none]⟩) .lf .lf) .lf)) (.nd 335 (⟨.array 3 4 1,4,[.int .i64 0,.int .i64 0,.int .i64 0,.int .i64 0]⟩) (.nd 325 (⟨.iface,1,[.nilIface]⟩) (.nd 320 (⟨.func,1,[.nilFunc]⟩) .lf .lf) .lf) (.nd 348 (⟨.func,1,[.nilFunc]⟩) .lf .lf))))))
def etab:Tr (List EK):=(.nd 105 ([.int .u32,.int .i64]) (.nd 91 ([.int .i64,.int .i64,.int .i64]) (.nd 51 ([.int .i64,.int .i64,.string,.int .u64,.int .u32]) .lf .lf) (.nd 95 ([.int .i64,.int .i64,.int .i64,.int .u64]) .lf .lf)) (.nd 280 ([.int .i64,.int .i64,.int .i64]) (.nd 160 ([.int .u64,.int .i64,.int .i64]) .lf .lf) (.nd 286 ([.int .i64,.int .i64,.int .i64,.int .i64,.int .i64]) .lf .lf)))
theorem tab_ok:tab.all (fun t i=>A5 Tryz.prog t=some i):=⟨ty108,⟨ty48,⟨ty26,⟨ty9,⟨ty3,⟨ty2,⟨ty1,trivial,trivial⟩,trivial⟩,⟨ty5,⟨ty4,trivial,trivial⟩,trivial⟩⟩,⟨ty23,⟨ty22,⟨ty20,trivial,trivial⟩,trivial⟩,⟨ty25,⟨ty24,trivial,trivial⟩,trivial⟩⟩⟩,⟨ty33,⟨ty29,⟨ty28,⟨ty27,trivial,trivial⟩,trivial⟩,⟨ty32,⟨ty31,trivial,trivial⟩,trivial⟩⟩,⟨ty43,⟨ty39,⟨ty34,trivial,trivial⟩,trivial⟩,⟨ty46,⟨ty44,trivial,trivial⟩,trivial⟩⟩⟩⟩,⟨ty79,⟨ty60,⟨ty53,⟨ty51,⟨ty49,trivial,trivial⟩,trivial⟩,⟨ty58,⟨ty55,trivial,trivial⟩,trivial⟩⟩,⟨ty71,⟨ty69,⟨ty67,trivial,trivial⟩,trivial⟩,⟨ty78,⟨ty73,trivial,trivial⟩,trivial⟩⟩⟩,⟨ty95,⟨ty88,⟨ty86,⟨ty84,trivial,trivial⟩,trivial⟩,⟨ty92,⟨ty91,trivial,trivial⟩,trivial⟩⟩,⟨ty102,⟨ty99,⟨ty96,trivial,trivial⟩,trivial⟩,⟨ty107,⟨ty105,trivial,trivial⟩,trivial⟩⟩⟩⟩⟩,⟨ty233,⟨ty141,⟨ty126,⟨ty119,⟨ty116,⟨ty114,trivial,trivial⟩,trivial⟩,⟨ty125,⟨ty120,trivial,trivial⟩,trivial⟩⟩,⟨ty135,⟨ty131,⟨ty128,trivial,trivial⟩,trivial⟩,⟨ty139,⟨ty137,trivial,trivial⟩,trivial⟩⟩⟩,⟨ty172,⟨ty160,⟨ty156,⟨ty145,trivial,trivial⟩,trivial⟩,⟨ty170,⟨ty164,trivial,trivial⟩,trivial⟩⟩,⟨ty181,⟨ty178,⟨ty177,trivial,trivial⟩,trivial⟩,⟨ty232,⟨ty225,trivial,trivial⟩,trivial⟩⟩⟩⟩,⟨ty284,⟨ty261,⟨ty247,⟨ty243,⟨ty238,trivial,trivial⟩,trivial⟩,⟨ty260,⟨ty256,trivial,trivial⟩,trivial⟩⟩,⟨ty275,⟨ty271,⟨ty263,trivial,trivial⟩,trivial⟩,⟨ty280,⟨ty277,trivial,trivial⟩,trivial⟩⟩⟩,⟨ty316,⟨ty310,⟨ty308,⟨ty286,trivial,trivial⟩,trivial⟩,⟨ty314,⟨ty312,trivial,trivial⟩,trivial⟩⟩,⟨ty335,⟨ty325,⟨ty320,trivial,trivial⟩,trivial⟩,⟨ty348,trivial,trivial⟩⟩⟩⟩⟩⟩
theorem Al9:etab.all (fun t i=>My Tryz.prog t=some i):=⟨tq105,⟨tq91,⟨tq51,trivial,trivial⟩,⟨tq95,trivial,trivial⟩⟩,⟨tq280,⟨tq160,trivial,trivial⟩,⟨tq286,trivial,trivial⟩⟩⟩
def Γ:TyE Tryz.prog:=⟨⟨fun t=>tab.look t,fun _ _ h=>Alg (Tr.look_ok tab_ok h)⟩,fun t=>etab.look t,fun _ _ h=>Akk (Tr.look_ok Al9 h)⟩
theorem hm:Tryz.prog.follows .mixedOrders=true:=by kernel_rfl
theorem F3:Fun Tryz.prog 3 Tryz.f3 (Ae Tryz.f3):=⟨Tryz.func3,rfl,by kernel_rfl⟩
theorem F4:Fun Tryz.prog 4 Tryz.f4 (Ae Tryz.f4):=⟨Tryz.func4,rfl,by kernel_rfl⟩
theorem F5:Fun Tryz.prog 5 Tryz.f5 (Ae Tryz.f5):=⟨Tryz.func5,rfl,by kernel_rfl⟩
theorem F6:Fun Tryz.prog 6 Tryz.f6 (Ae Tryz.f6):=⟨Tryz.func6,rfl,by kernel_rfl⟩
theorem F7:Fun Tryz.prog 7 Tryz.f7 (Ae Tryz.f7):=⟨Tryz.func7,rfl,by kernel_rfl⟩
theorem F8:Fun Tryz.prog 8 Tryz.f8 (Ae Tryz.f8):=⟨Tryz.func8,rfl,by kernel_rfl⟩
theorem F9:Fun Tryz.prog 9 Tryz.f9 (Ae Tryz.f9):=⟨Tryz.func9,rfl,by kernel_rfl⟩
theorem F10:Fun Tryz.prog 10 Tryz.f10 (Ae Tryz.f10):=⟨Tryz.func10,rfl,by kernel_rfl⟩
theorem F11:Fun Tryz.prog 11 Tryz.f11 (Ae Tryz.f11):=⟨Tryz.func11,rfl,by kernel_rfl⟩
theorem F12:Fun Tryz.prog 12 Tryz.f12 (Ae Tryz.f12):=⟨Tryz.func12,rfl,by kernel_rfl⟩
theorem F13:Fun Tryz.prog 13 Tryz.f13 (Ae Tryz.f13):=⟨Tryz.func13,rfl,by kernel_rfl⟩
theorem F14:Fun Tryz.prog 14 Tryz.f14 (Ae Tryz.f14):=⟨Tryz.func14,rfl,by kernel_rfl⟩
theorem F15:Fun Tryz.prog 15 Tryz.f15 (Ae Tryz.f15):=⟨Tryz.func15,rfl,by kernel_rfl⟩
theorem F16:Fun Tryz.prog 16 Tryz.f16 (Ae Tryz.f16):=⟨Tryz.func16,rfl,by kernel_rfl⟩
theorem F17:Fun Tryz.prog 17 Tryz.f17 (Ae Tryz.f17):=⟨Tryz.func17,rfl,by kernel_rfl⟩
theorem F18:Fun Tryz.prog 18 Tryz.f18 (Ae Tryz.f18):=⟨Tryz.func18,rfl,by kernel_rfl⟩
theorem F19:Fun Tryz.prog 19 Tryz.f19 (Ae Tryz.f19):=⟨Tryz.func19,rfl,by kernel_rfl⟩
theorem F20:Fun Tryz.prog 20 Tryz.f20 (Ae Tryz.f20):=⟨Tryz.func20,rfl,by kernel_rfl⟩
theorem F21:Fun Tryz.prog 21 Tryz.f21 (Ae Tryz.f21):=⟨Tryz.func21,rfl,by kernel_rfl⟩
theorem F22:Fun Tryz.prog 22 Tryz.f22 (Ae Tryz.f22):=⟨Tryz.func22,rfl,by kernel_rfl⟩
theorem F23:Fun Tryz.prog 23 Tryz.f23 (Ae Tryz.f23):=⟨Tryz.func23,rfl,by kernel_rfl⟩
theorem F24:Fun Tryz.prog 24 Tryz.f24 (Ae Tryz.f24):=⟨Tryz.func24,rfl,by kernel_rfl⟩
theorem F25:Fun Tryz.prog 25 Tryz.f25 (Ae Tryz.f25):=⟨Tryz.func25,rfl,by kernel_rfl⟩
theorem F26:Fun Tryz.prog 26 Tryz.f26 (Ae Tryz.f26):=⟨Tryz.func26,rfl,by kernel_rfl⟩
theorem F27:Fun Tryz.prog 27 Tryz.f27 (Ae Tryz.f27):=⟨Tryz.func27,rfl,by kernel_rfl⟩
theorem F28:Fun Tryz.prog 28 Tryz.f28 (Ae Tryz.f28):=⟨Tryz.func28,rfl,by kernel_rfl⟩
theorem F29:Fun Tryz.prog 29 Tryz.f29 (Ae Tryz.f29):=⟨Tryz.func29,rfl,by kernel_rfl⟩
theorem F30:Fun Tryz.prog 30 Tryz.f30 (Ae Tryz.f30):=⟨Tryz.func30,rfl,by kernel_rfl⟩
theorem F31:Fun Tryz.prog 31 Tryz.f31 (Ae Tryz.f31):=⟨Tryz.func31,rfl,by kernel_rfl⟩
theorem F32:Fun Tryz.prog 32 Tryz.f32 (Ae Tryz.f32):=⟨Tryz.func32,rfl,by kernel_rfl⟩
theorem F33:Fun Tryz.prog 33 Tryz.f33 (Ae Tryz.f33):=⟨Tryz.func33,rfl,by kernel_rfl⟩
theorem F34:Fun Tryz.prog 34 Tryz.f34 (Ae Tryz.f34):=⟨Tryz.func34,rfl,by kernel_rfl⟩
theorem F35:Fun Tryz.prog 35 Tryz.f35 (Ae Tryz.f35):=⟨Tryz.func35,rfl,by kernel_rfl⟩
theorem F36:Fun Tryz.prog 36 Tryz.f36 (Ae Tryz.f36):=⟨Tryz.func36,rfl,by kernel_rfl⟩
theorem F37:Fun Tryz.prog 37 Tryz.f37 (Ae Tryz.f37):=⟨Tryz.func37,rfl,by kernel_rfl⟩
theorem F38:Fun Tryz.prog 38 Tryz.f38 (Ae Tryz.f38):=⟨Tryz.func38,rfl,by kernel_rfl⟩
theorem F39:Fun Tryz.prog 39 Tryz.f39 (Ae Tryz.f39):=⟨Tryz.func39,rfl,by kernel_rfl⟩
theorem F40:Fun Tryz.prog 40 Tryz.f40 (Ae Tryz.f40):=⟨Tryz.func40,rfl,by kernel_rfl⟩
theorem F41:Fun Tryz.prog 41 Tryz.f41 (Ae Tryz.f41):=⟨Tryz.func41,rfl,by kernel_rfl⟩
theorem F42:Fun Tryz.prog 42 Tryz.f42 (Ae Tryz.f42):=⟨Tryz.func42,rfl,by kernel_rfl⟩
theorem F43:Fun Tryz.prog 43 Tryz.f43 (Ae Tryz.f43):=⟨Tryz.func43,rfl,by kernel_rfl⟩
theorem F44:Fun Tryz.prog 44 Tryz.f44 (Ae Tryz.f44):=⟨Tryz.func44,rfl,by kernel_rfl⟩
theorem F45:Fun Tryz.prog 45 Tryz.f45 (Ae Tryz.f45):=⟨Tryz.func45,rfl,by kernel_rfl⟩
theorem F46:Fun Tryz.prog 46 Tryz.f46 (Ae Tryz.f46):=⟨Tryz.func46,rfl,by kernel_rfl⟩
theorem F47:Fun Tryz.prog 47 Tryz.f47 (Ae Tryz.f47):=⟨Tryz.func47,rfl,by kernel_rfl⟩
theorem F48:Fun Tryz.prog 48 Tryz.f48 (Ae Tryz.f48):=⟨Tryz.func48,rfl,by kernel_rfl⟩
theorem F49:Fun Tryz.prog 49 Tryz.f49 (Ae Tryz.f49):=⟨Tryz.func49,rfl,by kernel_rfl⟩
theorem F50:Fun Tryz.prog 50 Tryz.f50 (Ae Tryz.f50):=⟨Tryz.func50,rfl,by kernel_rfl⟩
theorem F51:Fun Tryz.prog 51 Tryz.f51 (Ae Tryz.f51):=⟨Tryz.func51,rfl,by kernel_rfl⟩
theorem F52:Fun Tryz.prog 52 Tryz.f52 (Ae Tryz.f52):=⟨Tryz.func52,rfl,by kernel_rfl⟩
theorem F53:Fun Tryz.prog 53 Tryz.f53 (Ae Tryz.f53):=⟨Tryz.func53,rfl,by kernel_rfl⟩
theorem F54:Fun Tryz.prog 54 Tryz.f54 (Ae Tryz.f54):=⟨Tryz.func54,rfl,by kernel_rfl⟩
theorem F55:Fun Tryz.prog 55 Tryz.f55 (Ae Tryz.f55):=⟨Tryz.func55,rfl,by kernel_rfl⟩
theorem F56:Fun Tryz.prog 56 Tryz.f56 (Ae Tryz.f56):=⟨Tryz.func56,rfl,by kernel_rfl⟩
theorem F57:Fun Tryz.prog 57 Tryz.f57 (Ae Tryz.f57):=⟨Tryz.func57,rfl,by kernel_rfl⟩
theorem F58:Fun Tryz.prog 58 Tryz.f58 (Ae Tryz.f58):=⟨Tryz.func58,rfl,by kernel_rfl⟩
theorem F59:Fun Tryz.prog 59 Tryz.f59 (Ae Tryz.f59):=⟨Tryz.func59,rfl,by kernel_rfl⟩
theorem F60:Fun Tryz.prog 60 Tryz.f60 (Ae Tryz.f60):=⟨Tryz.func60,rfl,by kernel_rfl⟩
theorem F61:Fun Tryz.prog 61 Tryz.f61 (Ae Tryz.f61):=⟨Tryz.func61,rfl,by kernel_rfl⟩
theorem F62:Fun Tryz.prog 62 Tryz.f62 (Ae Tryz.f62):=⟨Tryz.func62,rfl,by kernel_rfl⟩
theorem F63:Fun Tryz.prog 63 Tryz.f63 (Ae Tryz.f63):=⟨Tryz.func63,rfl,by kernel_rfl⟩
theorem F64:Fun Tryz.prog 64 Tryz.f64 (Ae Tryz.f64):=⟨Tryz.func64,rfl,by kernel_rfl⟩
theorem F65:Fun Tryz.prog 65 Tryz.f65 (Ae Tryz.f65):=⟨Tryz.func65,rfl,by kernel_rfl⟩
theorem F66:Fun Tryz.prog 66 Tryz.f66 (Ae Tryz.f66):=⟨Tryz.func66,rfl,by kernel_rfl⟩
theorem F67:Fun Tryz.prog 67 Tryz.f67 (Ae Tryz.f67):=⟨Tryz.func67,rfl,by kernel_rfl⟩
theorem F68:Fun Tryz.prog 68 Tryz.f68 (Ae Tryz.f68):=⟨Tryz.func68,rfl,by kernel_rfl⟩
theorem F69:Fun Tryz.prog 69 Tryz.f69 (Ae Tryz.f69):=⟨Tryz.func69,rfl,by kernel_rfl⟩
theorem F70:Fun Tryz.prog 70 Tryz.f70 (Ae Tryz.f70):=⟨Tryz.func70,rfl,by kernel_rfl⟩
theorem F71:Fun Tryz.prog 71 Tryz.f71 (Ae Tryz.f71):=⟨Tryz.func71,rfl,by kernel_rfl⟩
theorem F72:Fun Tryz.prog 72 Tryz.f72 (Ae Tryz.f72):=⟨Tryz.func72,rfl,by kernel_rfl⟩
theorem F73:Fun Tryz.prog 73 Tryz.f73 (Ae Tryz.f73):=⟨Tryz.func73,rfl,by kernel_rfl⟩
theorem F74:Fun Tryz.prog 74 Tryz.f74 (Ae Tryz.f74):=⟨Tryz.func74,rfl,by kernel_rfl⟩
theorem F75:Fun Tryz.prog 75 Tryz.f75 (Ae Tryz.f75):=⟨Tryz.func75,rfl,by kernel_rfl⟩
theorem F76:Fun Tryz.prog 76 Tryz.f76 (Ae Tryz.f76):=⟨Tryz.func76,rfl,by kernel_rfl⟩
theorem F77:Fun Tryz.prog 77 Tryz.f77 (Ae Tryz.f77):=⟨Tryz.func77,rfl,by kernel_rfl⟩
theorem F78:Fun Tryz.prog 78 Tryz.f78 (Ae Tryz.f78):=⟨Tryz.func78,rfl,by kernel_rfl⟩
theorem F79:Fun Tryz.prog 79 Tryz.f79 (Ae Tryz.f79):=⟨Tryz.func79,rfl,by kernel_rfl⟩
theorem F80:Fun Tryz.prog 80 Tryz.f80 (Ae Tryz.f80):=⟨Tryz.func80,rfl,by kernel_rfl⟩
theorem F81:Fun Tryz.prog 81 Tryz.f81 (Ae Tryz.f81):=⟨Tryz.func81,rfl,by kernel_rfl⟩
theorem F82:Fun Tryz.prog 82 Tryz.f82 (Ae Tryz.f82):=⟨Tryz.func82,rfl,by kernel_rfl⟩
theorem F83:Fun Tryz.prog 83 Tryz.f83 (Ae Tryz.f83):=⟨Tryz.func83,rfl,by kernel_rfl⟩
theorem F84:Fun Tryz.prog 84 Tryz.f84 (Ae Tryz.f84):=⟨Tryz.func84,rfl,by kernel_rfl⟩
theorem F85:Fun Tryz.prog 85 Tryz.f85 (Ae Tryz.f85):=⟨Tryz.func85,rfl,by kernel_rfl⟩
theorem F86:Fun Tryz.prog 86 Tryz.f86 (Ae Tryz.f86):=⟨Tryz.func86,rfl,by kernel_rfl⟩
theorem F87:Fun Tryz.prog 87 Tryz.f87 (Ae Tryz.f87):=⟨Tryz.func87,rfl,by kernel_rfl⟩
theorem F88:Fun Tryz.prog 88 Tryz.f88 (Ae Tryz.f88):=⟨Tryz.func88,rfl,by kernel_rfl⟩
theorem F89:Fun Tryz.prog 89 Tryz.f89 (Ae Tryz.f89):=⟨Tryz.func89,rfl,by kernel_rfl⟩
theorem F90:Fun Tryz.prog 90 Tryz.f90 (Ae Tryz.f90):=⟨Tryz.func90,rfl,by kernel_rfl⟩
theorem F91:Fun Tryz.prog 91 Tryz.f91 (Ae Tryz.f91):=⟨Tryz.func91,rfl,by kernel_rfl⟩
theorem F92:Fun Tryz.prog 92 Tryz.f92 (Ae Tryz.f92):=⟨Tryz.func92,rfl,by kernel_rfl⟩
theorem F93:Fun Tryz.prog 93 Tryz.f93 (Ae Tryz.f93):=⟨Tryz.func93,rfl,by kernel_rfl⟩
theorem F94:Fun Tryz.prog 94 Tryz.f94 (Ae Tryz.f94):=⟨Tryz.func94,rfl,by kernel_rfl⟩
theorem F95:Fun Tryz.prog 95 Tryz.f95 (Ae Tryz.f95):=⟨Tryz.func95,rfl,by kernel_rfl⟩
theorem F96:Fun Tryz.prog 96 Tryz.f96 (Ae Tryz.f96):=⟨Tryz.func96,rfl,by kernel_rfl⟩
theorem F97:Fun Tryz.prog 97 Tryz.f97 (Ae Tryz.f97):=⟨Tryz.func97,rfl,by kernel_rfl⟩
theorem F98:Fun Tryz.prog 98 Tryz.f98 (Ae Tryz.f98):=⟨Tryz.func98,rfl,by kernel_rfl⟩
theorem F99:Fun Tryz.prog 99 Tryz.f99 (Ae Tryz.f99):=⟨Tryz.func99,rfl,by kernel_rfl⟩
theorem F100:Fun Tryz.prog 100 Tryz.f100 (Ae Tryz.f100):=⟨Tryz.func100,rfl,by kernel_rfl⟩
theorem F101:Fun Tryz.prog 101 Tryz.f101 (Ae Tryz.f101):=⟨Tryz.func101,rfl,by kernel_rfl⟩
theorem F102:Fun Tryz.prog 102 Tryz.f102 (Ae Tryz.f102):=⟨Tryz.func102,rfl,by kernel_rfl⟩
theorem F103:Fun Tryz.prog 103 Tryz.f103 (Ae Tryz.f103):=⟨Tryz.func103,rfl,by kernel_rfl⟩
theorem F104:Fun Tryz.prog 104 Tryz.f104 (Ae Tryz.f104):=⟨Tryz.func104,rfl,by kernel_rfl⟩
theorem F105:Fun Tryz.prog 105 Tryz.f105 (Ae Tryz.f105):=⟨Tryz.func105,rfl,by kernel_rfl⟩
theorem F106:Fun Tryz.prog 106 Tryz.f106 (Ae Tryz.f106):=⟨Tryz.func106,rfl,by kernel_rfl⟩
theorem F107:Fun Tryz.prog 107 Tryz.f107 (Ae Tryz.f107):=⟨Tryz.func107,rfl,by kernel_rfl⟩
theorem F108:Fun Tryz.prog 108 Tryz.f108 (Ae Tryz.f108):=⟨Tryz.func108,rfl,by kernel_rfl⟩
theorem F109:Fun Tryz.prog 109 Tryz.f109 (Ae Tryz.f109):=⟨Tryz.func109,rfl,by kernel_rfl⟩
theorem F110:Fun Tryz.prog 110 Tryz.f110 (Ae Tryz.f110):=⟨Tryz.func110,rfl,by kernel_rfl⟩
theorem F111:Fun Tryz.prog 111 Tryz.f111 (Ae Tryz.f111):=⟨Tryz.func111,rfl,by kernel_rfl⟩
theorem F112:Fun Tryz.prog 112 Tryz.f112 (Ae Tryz.f112):=⟨Tryz.func112,rfl,by kernel_rfl⟩
theorem F113:Fun Tryz.prog 113 Tryz.f113 (Ae Tryz.f113):=⟨Tryz.func113,rfl,by kernel_rfl⟩
theorem F114:Fun Tryz.prog 114 Tryz.f114 (Ae Tryz.f114):=⟨Tryz.func114,rfl,by kernel_rfl⟩
theorem F115:Fun Tryz.prog 115 Tryz.f115 (Ae Tryz.f115):=⟨Tryz.func115,rfl,by kernel_rfl⟩
theorem F116:Fun Tryz.prog 116 Tryz.f116 (Ae Tryz.f116):=⟨Tryz.func116,rfl,by kernel_rfl⟩
theorem F118:Fun Tryz.prog 118 Tryz.f118 (Ae Tryz.f118):=⟨Tryz.func118,rfl,by kernel_rfl⟩
theorem F119:Fun Tryz.prog 119 Tryz.f119 (Ae Tryz.f119):=⟨Tryz.func119,rfl,by kernel_rfl⟩
theorem F120:Fun Tryz.prog 120 Tryz.f120 (Ae Tryz.f120):=⟨Tryz.func120,rfl,by kernel_rfl⟩
theorem F121:Fun Tryz.prog 121 Tryz.f121 (Ae Tryz.f121):=⟨Tryz.func121,rfl,by kernel_rfl⟩
theorem F122:Fun Tryz.prog 122 Tryz.f122 (Ae Tryz.f122):=⟨Tryz.func122,rfl,by kernel_rfl⟩
theorem F123:Fun Tryz.prog 123 Tryz.f123 (Ae Tryz.f123):=⟨Tryz.func123,rfl,by kernel_rfl⟩
theorem F124:Fun Tryz.prog 124 Tryz.f124 (Ae Tryz.f124):=⟨Tryz.func124,rfl,by kernel_rfl⟩
theorem F125:Fun Tryz.prog 125 Tryz.f125 (Ae Tryz.f125):=⟨Tryz.func125,rfl,by kernel_rfl⟩
theorem F126:Fun Tryz.prog 126 Tryz.f126 (Ae Tryz.f126):=⟨Tryz.func126,rfl,by kernel_rfl⟩
theorem F127:Fun Tryz.prog 127 Tryz.f127 (Ae Tryz.f127):=⟨Tryz.func127,rfl,by kernel_rfl⟩
theorem F128:Fun Tryz.prog 128 Tryz.f128 (Ae Tryz.f128):=⟨Tryz.func128,rfl,by kernel_rfl⟩
theorem F129:Fun Tryz.prog 129 Tryz.f129 (Ae Tryz.f129):=⟨Tryz.func129,rfl,by kernel_rfl⟩
theorem F130:Fun Tryz.prog 130 Tryz.f130 (Ae Tryz.f130):=⟨Tryz.func130,rfl,by kernel_rfl⟩
theorem F131:Fun Tryz.prog 131 Tryz.f131 (Ae Tryz.f131):=⟨Tryz.func131,rfl,by kernel_rfl⟩
theorem F132:Fun Tryz.prog 132 Tryz.f132 (Ae Tryz.f132):=⟨Tryz.func132,rfl,by kernel_rfl⟩
theorem F133:Fun Tryz.prog 133 Tryz.f133 (Ae Tryz.f133):=⟨Tryz.func133,rfl,by kernel_rfl⟩
theorem F134:Fun Tryz.prog 134 Tryz.f134 (Ae Tryz.f134):=⟨Tryz.func134,rfl,by kernel_rfl⟩
theorem F135:Fun Tryz.prog 135 Tryz.f135 (Ae Tryz.f135):=⟨Tryz.func135,rfl,by kernel_rfl⟩
theorem F136:Fun Tryz.prog 136 Tryz.f136 (Ae Tryz.f136):=⟨Tryz.func136,rfl,by kernel_rfl⟩
theorem F137:Fun Tryz.prog 137 Tryz.f137 (Ae Tryz.f137):=⟨Tryz.func137,rfl,by kernel_rfl⟩
theorem F138:Fun Tryz.prog 138 Tryz.f138 (Ae Tryz.f138):=⟨Tryz.func138,rfl,by kernel_rfl⟩
theorem F139:Fun Tryz.prog 139 Tryz.f139 (Ae Tryz.f139):=⟨Tryz.func139,rfl,by kernel_rfl⟩
theorem F140:Fun Tryz.prog 140 Tryz.f140 (Ae Tryz.f140):=⟨Tryz.func140,rfl,by kernel_rfl⟩
theorem F141:Fun Tryz.prog 141 Tryz.f141 (Ae Tryz.f141):=⟨Tryz.func141,rfl,by kernel_rfl⟩
theorem F142:Fun Tryz.prog 142 Tryz.f142 (Ae Tryz.f142):=⟨Tryz.func142,rfl,by kernel_rfl⟩
theorem F143:Fun Tryz.prog 143 Tryz.f143 (Ae Tryz.f143):=⟨Tryz.func143,rfl,by kernel_rfl⟩
theorem F144:Fun Tryz.prog 144 Tryz.f144 (Ae Tryz.f144):=⟨Tryz.func144,rfl,by kernel_rfl⟩
theorem F145:Fun Tryz.prog 145 Tryz.f145 (Ae Tryz.f145):=⟨Tryz.func145,rfl,by kernel_rfl⟩
theorem F146:Fun Tryz.prog 146 Tryz.f146 (Ae Tryz.f146):=⟨Tryz.func146,rfl,by kernel_rfl⟩
theorem F148:Fun Tryz.prog 148 Tryz.f148 (Ae Tryz.f148):=⟨Tryz.func148,rfl,by kernel_rfl⟩
theorem F149:Fun Tryz.prog 149 Tryz.f149 (Ae Tryz.f149):=⟨Tryz.func149,rfl,by kernel_rfl⟩
theorem F150:Fun Tryz.prog 150 Tryz.f150 (Ae Tryz.f150):=⟨Tryz.func150,rfl,by kernel_rfl⟩
theorem F151:Fun Tryz.prog 151 Tryz.f151 (Ae Tryz.f151):=⟨Tryz.func151,rfl,by kernel_rfl⟩
theorem F152:Fun Tryz.prog 152 Tryz.f152 (Ae Tryz.f152):=⟨Tryz.func152,rfl,by kernel_rfl⟩
theorem F153:Fun Tryz.prog 153 Tryz.f153 (Ae Tryz.f153):=⟨Tryz.func153,rfl,by kernel_rfl⟩
theorem F154:Fun Tryz.prog 154 Tryz.f154 (Ae Tryz.f154):=⟨Tryz.func154,rfl,by kernel_rfl⟩
theorem F155:Fun Tryz.prog 155 Tryz.f155 (Ae Tryz.f155):=⟨Tryz.func155,rfl,by kernel_rfl⟩
theorem F156:Fun Tryz.prog 156 Tryz.f156 (Ae Tryz.f156):=⟨Tryz.func156,rfl,by kernel_rfl⟩
theorem F157:Fun Tryz.prog 157 Tryz.f157 (Ae Tryz.f157):=⟨Tryz.func157,rfl,by kernel_rfl⟩
theorem F158:Fun Tryz.prog 158 Tryz.f158 (Ae Tryz.f158):=⟨Tryz.func158,rfl,by kernel_rfl⟩
theorem F159:Fun Tryz.prog 159 Tryz.f159 (Ae Tryz.f159):=⟨Tryz.func159,rfl,by kernel_rfl⟩
theorem F160:Fun Tryz.prog 160 Tryz.f160 (Ae Tryz.f160):=⟨Tryz.func160,rfl,by kernel_rfl⟩
theorem F161:Fun Tryz.prog 161 Tryz.f161 (Ae Tryz.f161):=⟨Tryz.func161,rfl,by kernel_rfl⟩
theorem F162:Fun Tryz.prog 162 Tryz.f162 (Ae Tryz.f162):=⟨Tryz.func162,rfl,by kernel_rfl⟩
theorem F163:Fun Tryz.prog 163 Tryz.f163 (Ae Tryz.f163):=⟨Tryz.func163,rfl,by kernel_rfl⟩
theorem F164:Fun Tryz.prog 164 Tryz.f164 (Ae Tryz.f164):=⟨Tryz.func164,rfl,by kernel_rfl⟩
theorem F165:Fun Tryz.prog 165 Tryz.f165 (Ae Tryz.f165):=⟨Tryz.func165,rfl,by kernel_rfl⟩
theorem F166:Fun Tryz.prog 166 Tryz.f166 (Ae Tryz.f166):=⟨Tryz.func166,rfl,by kernel_rfl⟩
theorem F167:Fun Tryz.prog 167 Tryz.f167 (Ae Tryz.f167):=⟨Tryz.func167,rfl,by kernel_rfl⟩
theorem F168:Fun Tryz.prog 168 Tryz.f168 (Ae Tryz.f168):=⟨Tryz.func168,rfl,by kernel_rfl⟩
theorem F169:Fun Tryz.prog 169 Tryz.f169 (Ae Tryz.f169):=⟨Tryz.func169,rfl,by kernel_rfl⟩
theorem F170:Fun Tryz.prog 170 Tryz.f170 (Ae Tryz.f170):=⟨Tryz.func170,rfl,by kernel_rfl⟩
theorem F171:Fun Tryz.prog 171 Tryz.f171 (Ae Tryz.f171):=⟨Tryz.func171,rfl,by kernel_rfl⟩
theorem F172:Fun Tryz.prog 172 Tryz.f172 (Ae Tryz.f172):=⟨Tryz.func172,rfl,by kernel_rfl⟩
theorem F173:Fun Tryz.prog 173 Tryz.f173 (Ae Tryz.f173):=⟨Tryz.func173,rfl,by kernel_rfl⟩
theorem F174:Fun Tryz.prog 174 Tryz.f174 (Ae Tryz.f174):=⟨Tryz.func174,rfl,by kernel_rfl⟩
theorem F175:Fun Tryz.prog 175 Tryz.f175 (Ae Tryz.f175):=⟨Tryz.func175,rfl,by kernel_rfl⟩
theorem F176:Fun Tryz.prog 176 Tryz.f176 (Ae Tryz.f176):=⟨Tryz.func176,rfl,by kernel_rfl⟩
theorem F177:Fun Tryz.prog 177 Tryz.f177 (Ae Tryz.f177):=⟨Tryz.func177,rfl,by kernel_rfl⟩
theorem F178:Fun Tryz.prog 178 Tryz.f178 (Ae Tryz.f178):=⟨Tryz.func178,rfl,by kernel_rfl⟩
theorem F179:Fun Tryz.prog 179 Tryz.f179 (Ae Tryz.f179):=⟨Tryz.func179,rfl,by kernel_rfl⟩
theorem F180:Fun Tryz.prog 180 Tryz.f180 (Ae Tryz.f180):=⟨Tryz.func180,rfl,by kernel_rfl⟩
theorem F181:Fun Tryz.prog 181 Tryz.f181 (Ae Tryz.f181):=⟨Tryz.func181,rfl,by kernel_rfl⟩
theorem F182:Fun Tryz.prog 182 Tryz.f182 (Ae Tryz.f182):=⟨Tryz.func182,rfl,by kernel_rfl⟩
theorem F183:Fun Tryz.prog 183 Tryz.f183 (Ae Tryz.f183):=⟨Tryz.func183,rfl,by kernel_rfl⟩
theorem F184:Fun Tryz.prog 184 Tryz.f184 (Ae Tryz.f184):=⟨Tryz.func184,rfl,by kernel_rfl⟩
theorem F185:Fun Tryz.prog 185 Tryz.f185 (Ae Tryz.f185):=⟨Tryz.func185,rfl,by kernel_rfl⟩
theorem F186:Fun Tryz.prog 186 Tryz.f186 (Ae Tryz.f186):=⟨Tryz.func186,rfl,by kernel_rfl⟩
theorem F187:Fun Tryz.prog 187 Tryz.f187 (Ae Tryz.f187):=⟨Tryz.func187,rfl,by kernel_rfl⟩
theorem F192:Fun Tryz.prog 192 Tryz.f192 (Ae Tryz.f192):=⟨Tryz.func192,rfl,by kernel_rfl⟩
theorem F193:Fun Tryz.prog 193 Tryz.f193 (Ae Tryz.f193):=⟨Tryz.func193,rfl,by kernel_rfl⟩
theorem F194:Fun Tryz.prog 194 Tryz.f194 (Ae Tryz.f194):=⟨Tryz.func194,rfl,by kernel_rfl⟩
theorem F195:Fun Tryz.prog 195 Tryz.f195 (Ae Tryz.f195):=⟨Tryz.func195,rfl,by kernel_rfl⟩
theorem F196:Fun Tryz.prog 196 Tryz.f196 (Ae Tryz.f196):=⟨Tryz.func196,rfl,by kernel_rfl⟩
theorem F197:Fun Tryz.prog 197 Tryz.f197 (Ae Tryz.f197):=⟨Tryz.func197,rfl,by kernel_rfl⟩
theorem F198:Fun Tryz.prog 198 Tryz.f198 (Ae Tryz.f198):=⟨Tryz.func198,rfl,by kernel_rfl⟩
theorem F199:Fun Tryz.prog 199 Tryz.f199 (Ae Tryz.f199):=⟨Tryz.func199,rfl,by kernel_rfl⟩
theorem F200:Fun Tryz.prog 200 Tryz.f200 (Ae Tryz.f200):=⟨Tryz.func200,rfl,by kernel_rfl⟩
theorem F201:Fun Tryz.prog 201 Tryz.f201 (Ae Tryz.f201):=⟨Tryz.func201,rfl,by kernel_rfl⟩
theorem F202:Fun Tryz.prog 202 Tryz.f202 (Ae Tryz.f202):=⟨Tryz.func202,rfl,by kernel_rfl⟩
theorem F203:Fun Tryz.prog 203 Tryz.f203 (Ae Tryz.f203):=⟨Tryz.func203,rfl,by kernel_rfl⟩
theorem F204:Fun Tryz.prog 204 Tryz.f204 (Ae Tryz.f204):=⟨Tryz.func204,rfl,by kernel_rfl⟩
theorem F205:Fun Tryz.prog 205 Tryz.f205 (Ae Tryz.f205):=⟨Tryz.func205,rfl,by kernel_rfl⟩
theorem F206:Fun Tryz.prog 206 Tryz.f206 (Ae Tryz.f206):=⟨Tryz.func206,rfl,by kernel_rfl⟩
theorem F207:Fun Tryz.prog 207 Tryz.f207 (Ae Tryz.f207):=⟨Tryz.func207,rfl,by kernel_rfl⟩
theorem F208:Fun Tryz.prog 208 Tryz.f208 (Ae Tryz.f208):=⟨Tryz.func208,rfl,by kernel_rfl⟩
theorem F209:Fun Tryz.prog 209 Tryz.f209 (Ae Tryz.f209):=⟨Tryz.func209,rfl,by kernel_rfl⟩
theorem F210:Fun Tryz.prog 210 Tryz.f210 (Ae Tryz.f210):=⟨Tryz.func210,rfl,by kernel_rfl⟩
theorem F211:Fun Tryz.prog 211 Tryz.f211 (Ae Tryz.f211):=⟨Tryz.func211,rfl,by kernel_rfl⟩
theorem F216:Fun Tryz.prog 216 Tryz.f216 (Ae Tryz.f216):=⟨Tryz.func216,rfl,by kernel_rfl⟩
theorem F217:Fun Tryz.prog 217 Tryz.f217 (Ae Tryz.f217):=⟨Tryz.func217,rfl,by kernel_rfl⟩
theorem F218:Fun Tryz.prog 218 Tryz.f218 (Ae Tryz.f218):=⟨Tryz.func218,rfl,by kernel_rfl⟩
theorem F219:Fun Tryz.prog 219 Tryz.f219 (Ae Tryz.f219):=⟨Tryz.func219,rfl,by kernel_rfl⟩
theorem F221:Fun Tryz.prog 221 Tryz.f221 (Ae Tryz.f221):=⟨Tryz.func221,rfl,by kernel_rfl⟩
theorem F222:Fun Tryz.prog 222 Tryz.f222 (Ae Tryz.f222):=⟨Tryz.func222,rfl,by kernel_rfl⟩
theorem F223:Fun Tryz.prog 223 Tryz.f223 (Ae Tryz.f223):=⟨Tryz.func223,rfl,by kernel_rfl⟩
theorem F224:Fun Tryz.prog 224 Tryz.f224 (Ae Tryz.f224):=⟨Tryz.func224,rfl,by kernel_rfl⟩
theorem F225:Fun Tryz.prog 225 Tryz.f225 (Ae Tryz.f225):=⟨Tryz.func225,rfl,by kernel_rfl⟩
theorem F226:Fun Tryz.prog 226 Tryz.f226 (Ae Tryz.f226):=⟨Tryz.func226,rfl,by kernel_rfl⟩
theorem F236:Fun Tryz.prog 236 Tryz.f236 (Ae Tryz.f236):=⟨Tryz.func236,rfl,by kernel_rfl⟩
theorem F265:Fun Tryz.prog 265 Tryz.f265 (Ae Tryz.f265):=⟨Tryz.func265,rfl,by kernel_rfl⟩
theorem F266:Fun Tryz.prog 266 Tryz.f266 (Ae Tryz.f266):=⟨Tryz.func266,rfl,by kernel_rfl⟩
theorem F267:Fun Tryz.prog 267 Tryz.f267 (Ae Tryz.f267):=⟨Tryz.func267,rfl,by kernel_rfl⟩
theorem F268:Fun Tryz.prog 268 Tryz.f268 (Ae Tryz.f268):=⟨Tryz.func268,rfl,by kernel_rfl⟩
theorem rg {F:Fr} {n:Nat} {B:Exit→Act→World→Prop} {bn:List Nat} {hbn:∀ k,F.k0 k≠.new→k∈bn} {k:List KI} {s:SS} (h:Jl ⟨Tryz.prog,Γ.toTy,F,n,B,bn,hbn⟩ Γ 400 k s):G ⟨Tryz.prog,Γ.toTy,F,n,B,bn,hbn⟩ k s:=rG Γ hm h
theorem rd {F:Fr} {n:Nat} {B:Exit→Act→World→Prop} {bn:List Nat} {hbn:∀ k,F.k0 k≠.new→k∈bn} {k:List KI} {s:SS} {all:Array Oper} {done:List Stp} {rest:List Oper} (hs:all.toList=done.map (·.o)++rest) (h:Qr ⟨Tryz.prog,Γ.toTy,F,n,B,bn,hbn⟩ Γ 400 k all done rest s):DR ⟨Tryz.prog,Γ.toTy,F,n,B,bn,hbn⟩ k all done rest s:=rD Γ hm hs h
end Go.Sy.YtnlacjgkdjnhmaaGreat
namespace Go.Sy.YtnlacjgkdjnhmaaGreat
open Go.Proofs
structure Device where
 (row prio:Int) (name:ByteArray) (mac vtep:Int)
structure Port where
 (row dev native cost link:Int) (name:ByteArray) (tagged:List Int)
structure Link where
 (row a b:Int)
structure Domain where
 (dev vlan vni irb row:Int) (peers:List Int)
structure Static where
 (row domain port mac:Int)
structure Flood where
 (row dev vni:Int) (addrs:List Int)
structure Vrf where
 (row dev:Int) (name:ByteArray) (imports exports:List Int)
structure Irb where
 (row domain vrf addr bits:Int)
structure Net where
 (devices:List Device) (ports:List Port) (links:List Link) (domains:List Domain) (statics:List Static) (floods:List Flood) (vrfs:List Vrf) (irbs:List Irb)
def A1 (d:Device):SV:=.agg [Aa d.row,Aa d.prio,Xg d.name,A7 d.mac,Ce d.vtep]
def A3 (p:Port):SV:=.agg [Aa p.row,Aa p.dev,Aa p.native,Aa p.cost,Aa p.link,Xg p.name,.sl 1 Aa p.tagged]
def B6 (l:Link):SV:=.agg [Aa l.row,Aa l.a,Aa l.b]
def As (d:Domain):SV:=.agg [Aa d.dev,Aa d.vlan,Aa d.vni,Aa d.irb,Aa d.row,.sl 1 Aa d.peers]
def Be (s:Static):SV:=.agg [Aa s.row,Aa s.domain,Aa s.port,A7 s.mac]
def Bu (f:Flood):SV:=.agg [Aa f.row,Aa f.dev,Aa f.vni,.sl 1 Ce f.addrs]
def Ci (v:Vrf):SV:=.agg [Aa v.row,Aa v.dev,Xg v.name,.sl 1 Aa v.imports,.sl 1 Aa v.exports]
def C7 (i:Irb):SV:=.agg [Aa i.row,Aa i.domain,Aa i.vrf,Ce i.addr,Aa i.bits]
def Aa9 (n:Net):List SV:=[.sl 5 A1 n.devices,.sl 7 A3 n.ports,.sl 3 B6 n.links,.sl 6 As n.domains,.sl 4 Be n.statics,.sl 4 Bu n.floods,.sl 5 Ci n.vrfs,.sl 5 C7 n.irbs]
def Aq (n:Net):SV:=.agg [.sl 5 A1 n.devices,.sl 7 A3 n.ports,.sl 3 B6 n.links,.sl 6 As n.domains,.sl 4 Be n.statics,.sl 4 Bu n.floods,.sl 5 Ci n.vrfs,.sl 5 C7 n.irbs]
instance:Inhabited Device:=⟨⟨0,0,.empty,0,0⟩⟩
instance:Inhabited Port:=⟨⟨0,0,0,0,0,.empty,[]⟩⟩
instance:Inhabited Link:=⟨⟨0,0,0⟩⟩
instance:Inhabited Domain:=⟨⟨0,0,0,0,0,[]⟩⟩
instance:Inhabited Static:=⟨⟨0,0,0,0⟩⟩
instance:Inhabited Flood:=⟨⟨0,0,0,[]⟩⟩
instance:Inhabited Vrf:=⟨⟨0,0,.empty,[],[]⟩⟩
instance:Inhabited Irb:=⟨⟨0,0,0,0,0⟩⟩
def Ag (i:Int) (n:Nat):Bool:=decide (0≤i) && decide (i<n)
def inB (l:List Int) (x:Int):Bool:=l.any (· == x)
def nth {α:Type} [Inhabited α] (l:List α) (i:Int):α:=(l[i.toNat]?).getD default
theorem Ao {α:Type} [Inhabited α] {l:List α} {i:Int} (h:i.toNat<l.length):nth l i=l[i.toNat]:=by
 simp[nth,h]
def Dn {α:Type} (p:α→Bool) (l:List α):Int:=match l.findIdx? p with | some i=>(i:Int) | none=>-1
theorem Eh {α:Type} {p:α→Bool} {l:List α} {j:Nat} (h:j<l.length) (h1:∀ i (hi:i<l.length),i<j→p l[i]=false) (h2:p l[j]=true):Dn p l=j:=by
 have:l.findIdx? p=some j:=by
  rw[List.findIdx?_eq_some_iff_getElem]
  exact⟨h,h2,fun i hi=>by simp[h1 i qn hi]⟩
 simp[Dn,this]
theorem E5 {α:Type} {p:α→Bool} {l:List α} (h1:∀ i (hi:i<l.length),p l[i]=false):Dn p l=-1:=by
 have:l.findIdx? p=none:=by
  rw[List.findIdx?_eq_none_iff]
  intro x hx
  obtain ⟨i,hi,rfl⟩:=List.mem_iff_getElem.1 hx
  exact h1 i hi
 simp[Dn,this]
theorem Hb {α:Type} (p:α→Bool) (l:List α):Dn p l<l.length:=by
 unfold Dn
 split
 ·rename_i i h
  rw[List.findIdx?_eq_some_iff_getElem]at h
  obtain ⟨h,_⟩:=h
  omega
 ·omega
theorem Abs {α:Type} (p:α→Bool) (l:List α):decide (0≤Dn p l)=l.any p:=by
 unfold Dn
 split
 ·rename_i i h
  rw[List.findIdx?_eq_some_iff_getElem]at h
  obtain ⟨h,h2,_⟩:=h
  have:l.any p=true:=List.any_eq_true.2 ⟨_,List.getElem_mem h,h2⟩
  rw[this]
  simp
 ·rename_i h
  rw[List.findIdx?_eq_none_iff]at h
  have:l.any p=false:=by
   rw[List.any_eq_false]
   intro x hx
   simp[h x hx]
  rw[this]
  simp
def En {α:Type} (p:Nat→α→Bool) (l:List α):Bool:=l.zipIdx.all fun q=>p q.2 q.1
theorem allB_iff {α:Type} {p:Nat→α→Bool} {l:List α}:En p l=true↔∀ i (h:i<l.length),p i l[i]=true:=by
 simp only[En,List.all_eq_true]
 constructor
 ·intro h i hi
  exact h (l[i],i) (by rw[List.mk_mem_zipIdx_iff_getElem?];simp[hi])
 ·rintro h ⟨x,i⟩ hx
  rw[List.mk_mem_zipIdx_iff_getElem?]at hx
  obtain ⟨hi,rfl⟩:=List.getElem?_eq_some_iff.1 hx
  exact h i hi
theorem Ahw {α:Type} {p:Nat→α→Bool} {l:List α} (h:∀ i (h:i<l.length),p i l[i]=true):En p l=true:=allB_iff.2 h
theorem B7 {α:Type} {p:Nat→α→Bool} {l:List α} {i:Nat} (h:i<l.length) (h1:p i l[i]=false):En p l=false:=by
 cases hh:En p l with
 | false=>rfl
 | true=>have:=allB_iff.1 hh i h;rw[h1]at this;cases this
def Dy {α:Type} (p:Nat→α→Bool) (l:List α) (j:Nat):Prop:=∀ i (h:i<l.length),i<j→p i l[i]=true
theorem Bd {α:Type} (p:Nat→α→Bool) (l:List α):Dy p l 0:=fun i h hj=>absurd hj qn
theorem Ba {α:Type} {p:Nat→α→Bool} {l:List α} {j:Nat} (hI:Dy p l j) (hj:j<l.length) (h:p j l[j]=true):Dy p l (j+1):=by
 intro i hi hij
 rcases Nat.lt_or_ge i j with h1 | h1
 ·exact hI i hi h1
 ·have:i=j:=by omega
  subst this
  exact h
theorem Dq {α:Type} {p:Nat→α→Bool} {l:List α} {j:Nat} (hI:Dy p l j) (hj:l.length≤j):En p l=true:=Ahw fun i hi=>hI i hi qn
def Am {α:Type} (l:List α):Prop:=l.length<2147483648
end Go.Sy.YtnlacjgkdjnhmaaGreat
namespace Go.Sy.YtnlacjgkdjnhmaaGreat
open Go.Proofs
attribute [local irreducible] Go.Sy.G Go.Sy.DR
set_option maxRecDepth 100000
set_option maxHeartbeats 4000000
theorem Air (i:Int) (h0:0≤i) (h5:i≤5):Sy.Spec Tryz.prog 226 [Aa i] [] (A7 (8 * (5-i))) []:=Ab Γ hm 100 F226 Tryz.ntmps226 rfl fun F hF=>by
 ((conv=>whnf);repeat((first|refine aF ?_|refine aT ?_);(first|refine rG Γ hm ?_|refine rD Γ hm qq ?_);conv=>whnf))
 refine⟨by unfold I64;omega,?_⟩
 ((conv=>whnf);repeat((first|refine aF ?_|refine aT ?_);(first|refine rG Γ hm ?_|refine rD Γ hm qq ?_);conv=>whnf))
 refine⟨by unfold I64;omega,?_⟩
 ((conv=>whnf);repeat((first|refine aF ?_|refine aT ?_);(first|refine rG Γ hm ?_|refine rD Γ hm qq ?_);conv=>whnf))
 refine Ac E (.cons .tmp .nil) (congrArg (fun z=>SV.val (.int .u64 z)) ?_) E
 rw[IntKind.wrap_u64]
 omega
def be:Nat→Nat→List UInt8
 | 0,_=>[]
 | k+1,m=>UInt8.ofNat (m / 256 ^ k)::be k m
theorem Cv (m:Nat):∀ k,(be k m).length=k
 | 0=>rfl
 | k+1=>by simp[be,Cv m k]
theorem Z0 (m:Nat):∀ (k j:Nat) (h:j<k),(be k m).take (j+1)=(be k m).take j++[UInt8.ofNat (m / 256 ^ (k-1-j))]
 | 0,j,h=>by omega
 | k+1,0,h=>by simp[be]
 | k+1,j+1,h=>by
  have:=Z0 m k j qn
  simp only[be,List.take_succ_cons,List.cons_append,this]
  rw[show k+1-1-(j+1)=k-1-j by omega]
theorem Aao (m k:Nat) (hk:k≤7):IntKind.u8.wrap ((m:Int).fdiv (2 ^ (min (8 * (k:Int)).toNat IntKind.u64.bits)))=((UInt8.ofNat (m / 256 ^ k)).toNat:Int):=by
 have h1:min (8 * (k:Int)).toNat IntKind.u64.bits=8 * k:=by simp[IntKind.bits];omega
 rw[h1,Int.fdiv_eq_ediv_of_nonneg _ (by exact Int.pow_nonneg qx),IntKind.wrap_u8]
 have h2:(2:Int) ^ (8 * k)=((256 ^ k:Nat):Int):=by rw[Int.pow_mul];simp
 rw[h2]
 simp
theorem put2 (l:List UInt8) (hl:l.length<1000000) (m:Nat):Sy.Spec Tryz.prog 211 [.osl 0,A7 m] [(0,.row 1 Ak l)] (.osl 1) [(0,.non),(1,.row 1 Ak (l++be 6 m))]:=Ab Γ hm 100 F211 Tryz.ntmps211 rfl fun F hF=>by
 ((conv=>whnf);repeat((first|refine aF ?_|refine aT ?_);(first|refine rG Γ hm ?_|refine rD Γ hm qq ?_);conv=>whnf))
 refine Aex 0 1 [0] E E qx (by simp;rfl) ?_
 refine A2 6 (fun j=>[(0,.osl 1),(1,A7 m),(6,Aa j)]) (fun j=>[(0,.non),(1,.row 1 Ak (l++(be 6 m).take j))]) [(0,0),(1,1)] ⟨⟨E,E,E,E,E,E,Y⟩,⟨.inl E,E,.inl (congrArg (Ob.row 1 Ak) (List.append_nil l)),E,Y⟩,E,E⟩ ?_
 intro j hj
 ((first|refine rG Γ hm ?_|refine rD Γ hm qq ?_);(conv=>whnf);repeat((first|refine aF ?_|refine aT ?_);(first|refine rG Γ hm ?_|refine rD Γ hm qq ?_);conv=>whnf))
 refine⟨fun h=>?_,fun h=>?_⟩
 ·have hlt:j<6:=by have:=of_decide_eq_true h;omega
  ((first|refine rG Γ hm ?_|refine rD Γ hm qq ?_);(conv=>whnf);repeat((first|refine aF ?_|refine aT ?_);(first|refine rG Γ hm ?_|refine rD Γ hm qq ?_);conv=>whnf))
  refine Ah (Air j qn qn) F226 E E E E E ?_
  ((first|refine rG Γ hm ?_|refine rD Γ hm qq ?_);(conv=>whnf);repeat((first|refine aF ?_|refine aT ?_);(first|refine rG Γ hm ?_|refine rD Γ hm qq ?_);conv=>whnf))
  refine⟨by omega,?_⟩
  ((conv=>whnf);repeat((first|refine aF ?_|refine aT ?_);(first|refine rG Γ hm ?_|refine rD Γ hm qq ?_);conv=>whnf))
  refine Ai (Al Γ.toTy 16 E E E E E (.row E) (.lit (l:=[UInt8.ofNat (m / 256 ^ (5-j))]) E ?_) qy ?_ ?_) E E ?_
  ·have:=Aao m (5-j) qn
   rw[show ((5-j:Nat):Int)=5-(j:Int) by omega]at this
   simp only[List.map_cons,List.map_nil,Ak,← this]
  ·simp[Cv];omega
  ·simp[Cv];omega
  ((first|refine rG Γ hm ?_|refine rD Γ hm qq ?_);(conv=>whnf);repeat((first|refine aF ?_|refine aT ?_);(first|refine rG Γ hm ?_|refine rD Γ hm qq ?_);conv=>whnf))
  refine⟨by unfold I64;omega,?_⟩
  ((conv=>whnf);repeat((first|refine aF ?_|refine aT ?_);(first|refine rG Γ hm ?_|refine rD Γ hm qq ?_);conv=>whnf))
  exact Av [(0,0),(1,16)] hlt ⟨⟨E,E,E,E,E,E,Y⟩,⟨.inl E,E,.inl (congrArg (Ob.row 1 Ak) (by rw[Z0 _ _ _ hlt,List.append_assoc])),E,Y⟩,E,E⟩
 ·have:j=6:=by have:=of_decide_eq_false h;omega
  subst this
  ((first|refine rG Γ hm ?_|refine rD Γ hm qq ?_);(conv=>whnf);repeat((first|refine aF ?_|refine aT ?_);(first|refine rG Γ hm ?_|refine rD Γ hm qq ?_);conv=>whnf))
  exact done E (.cons .tmp .nil) [(0,0),(1,1)] _ (fun _ h=>h) E E ⟨Y,⟨.inl E,E,.inl E,E,Y⟩,E,E⟩
theorem put2n (m:Nat):Sy.Spec Tryz.prog 211 [.val (.slice none 0 0),A7 m] [] (.osl 0) [(0,.row 1 Ak (be 6 m))]:=Ab Γ hm 100 F211 Tryz.ntmps211 rfl fun F hF=>by
 ((conv=>whnf);repeat((first|refine aF ?_|refine aT ?_);(first|refine rG Γ hm ?_|refine rD Γ hm qq ?_);conv=>whnf))
 refine Cc 0 1000 1 Ak E E ?_
 refine A2 6 (fun j=>[(0,.osl 1000),(1,A7 m),(6,Aa j)]) (fun j=>[(1000,.row 1 Ak ((be 6 m).take j))]) [] ⟨⟨E,E,E,E,E,E,Y⟩,⟨.inl E,E,Y⟩,E,E⟩ ?_
 intro j hj
 ((first|refine rG Γ hm ?_|refine rD Γ hm qq ?_);(conv=>whnf);repeat((first|refine aF ?_|refine aT ?_);(first|refine rG Γ hm ?_|refine rD Γ hm qq ?_);conv=>whnf))
 refine⟨fun h=>?_,fun h=>?_⟩
 ·have hlt:j<6:=by have:=of_decide_eq_true h;omega
  ((first|refine rG Γ hm ?_|refine rD Γ hm qq ?_);(conv=>whnf);repeat((first|refine aF ?_|refine aT ?_);(first|refine rG Γ hm ?_|refine rD Γ hm qq ?_);conv=>whnf))
  refine Ah (Air j qn qn) F226 E E E E E ?_
  ((first|refine rG Γ hm ?_|refine rD Γ hm qq ?_);(conv=>whnf);repeat((first|refine aF ?_|refine aT ?_);(first|refine rG Γ hm ?_|refine rD Γ hm qq ?_);conv=>whnf))
  refine⟨by omega,?_⟩
  ((conv=>whnf);repeat((first|refine aF ?_|refine aT ?_);(first|refine rG Γ hm ?_|refine rD Γ hm qq ?_);conv=>whnf))
  refine Ai (Al Γ.toTy 16 E E E E E (.row E) (.lit (l:=[UInt8.ofNat (m / 256 ^ (5-j))]) E ?_) qy ?_ ?_) E E ?_
  ·have:=Aao m (5-j) qn
   rw[show ((5-j:Nat):Int)=5-(j:Int) by omega]at this
   simp only[List.map_cons,List.map_nil,Ak,← this]
  ·simp[Cv];omega
  ·simp[Cv];omega
  ((first|refine rG Γ hm ?_|refine rD Γ hm qq ?_);(conv=>whnf);repeat((first|refine aF ?_|refine aT ?_);(first|refine rG Γ hm ?_|refine rD Γ hm qq ?_);conv=>whnf))
  refine⟨by unfold I64;omega,?_⟩
  ((conv=>whnf);repeat((first|refine aF ?_|refine aT ?_);(first|refine rG Γ hm ?_|refine rD Γ hm qq ?_);conv=>whnf))
  exact Av [(1000,16)] hlt ⟨⟨E,E,E,E,E,E,Y⟩,⟨.inl (congrArg (Ob.row 1 Ak) (Z0 _ _ _ hlt)),E,Y⟩,E,E⟩
 ·have:j=6:=by have:=of_decide_eq_false h;omega
  subst this
  ((first|refine rG Γ hm ?_|refine rD Γ hm qq ?_);(conv=>whnf);repeat((first|refine aF ?_|refine aT ?_);(first|refine rG Γ hm ?_|refine rD Γ hm qq ?_);conv=>whnf))
  exact done E (.cons .tmp .nil) [(0,1000)] _ (fun _ h=>h) E E ⟨Y,⟨.inl E,E,Y⟩,E,E⟩
def Akf (d s:Nat) (t:Int) (body:List UInt8):SV:=.agg [A7 d,A7 s,Aa t,.sl 1 Ak body]
def frame (d s t:Nat) (body:List UInt8):List UInt8:=be 6 d++be 6 s++[UInt8.ofNat (t / 256),UInt8.ofNat t]++body
theorem Dz (t:Nat):[UInt8.ofNat (t / 256),UInt8.ofNat t].map Ak=[SV.val (.int .u8 (IntKind.u8.wrap ((t:Int).fdiv (2 ^ (min (Int.toNat 8) IntKind.i64.bits))))),SV.val (.int .u8 (IntKind.u8.wrap (t:Int)))]:=by
 have h1:IntKind.u8.wrap ((t:Int).fdiv (2 ^ (min (Int.toNat 8) IntKind.i64.bits)))=((UInt8.ofNat (t / 256)).toNat:Int):=by
  show IntKind.u8.wrap ((t:Int).fdiv 256)=_
  rw[Int.fdiv_eq_ediv_of_nonneg _ qx,IntKind.wrap_u8]
  simp
 have h2:IntKind.u8.wrap (t:Int)=((UInt8.ofNat t).toNat:Int):=by
  rw[IntKind.wrap_u8]
  simp
 rw[h1,h2]
 rfl
theorem Ab5 (d s t:Nat) (body:List UInt8) (hd:d<281474976710656) (hs:s<281474976710656) (ht:t≤65535) (hb:body.length≤1504):Sy.Spec Tryz.prog 184 [Akf d s t body] [] (.tup [.osl 0,Aa 0]) [(0,.row 1 Ak (frame d s t body))]:=Ab Γ hm 100 F184 Tryz.ntmps184 rfl fun F hF=>by
 ((conv=>whnf);repeat((first|refine aF ?_|refine aT ?_);(first|refine rG Γ hm ?_|refine rD Γ hm qq ?_);conv=>whnf))
 refine⟨fun h=>absurd (of_decide_eq_true h) qn,fun _=>?_⟩
 ((first|refine rG Γ hm ?_|refine rD Γ hm qq ?_);(conv=>whnf);repeat((first|refine aF ?_|refine aT ?_);(first|refine rG Γ hm ?_|refine rD Γ hm qq ?_);conv=>whnf))
 refine⟨fun h=>absurd (of_decide_eq_true h) qn,fun _=>?_⟩
 ((first|refine rG Γ hm ?_|refine rD Γ hm qq ?_);(conv=>whnf);repeat((first|refine aF ?_|refine aT ?_);(first|refine rG Γ hm ?_|refine rD Γ hm qq ?_);conv=>whnf))
 refine⟨fun h=>absurd (of_decide_eq_true h) qn,fun _=>?_⟩
 ((first|refine rG Γ hm ?_|refine rD Γ hm qq ?_);(conv=>whnf);repeat((first|refine aF ?_|refine aT ?_);(first|refine rG Γ hm ?_|refine rD Γ hm qq ?_);conv=>whnf))
 refine⟨fun h=>absurd (of_decide_eq_true h) qn,fun _=>?_⟩
 ((first|refine rG Γ hm ?_|refine rD Γ hm qq ?_);(conv=>whnf);repeat((first|refine aF ?_|refine aT ?_);(first|refine rG Γ hm ?_|refine rD Γ hm qq ?_);conv=>whnf))
 refine Bv (Aj [(0,31)] E F211 (put2n d) E Y E ⟨.inr E,Y⟩) qq E ?_
 ((first|refine rG Γ hm ?_|refine rD Γ hm qq ?_);(conv=>whnf);repeat((first|refine aF ?_|refine aT ?_);(first|refine rG Γ hm ?_|refine rD Γ hm qq ?_);conv=>whnf))
 refine Bv (Aj [(0,31),(1,34)] E F211 (put2 (be 6 d) (by simp[Cv]) s) E ⟨E,Y⟩ E ⟨.inl E,.inr E,Y⟩) qq E ?_
 ((first|refine rG Γ hm ?_|refine rD Γ hm qq ?_);(conv=>whnf);repeat((first|refine aF ?_|refine aT ?_);(first|refine rG Γ hm ?_|refine rD Γ hm qq ?_);conv=>whnf))
 refine⟨by kernel_rfl,?_⟩
 ((conv=>whnf);repeat((first|refine aF ?_|refine aT ?_);(first|refine rG Γ hm ?_|refine rD Γ hm qq ?_);conv=>whnf))
 refine⟨by decide,?_⟩
 ((conv=>whnf);repeat((first|refine aF ?_|refine aT ?_);(first|refine rG Γ hm ?_|refine rD Γ hm qq ?_);conv=>whnf))
 refine Bv (Al Γ.toTy 44 E E E E E (.row E) (.lit (l:=[UInt8.ofNat (t / 256),UInt8.ofNat t]) E (Dz t)) qx ?_ ?_) qq E ?_
 ·simp[Cv]
 ·simp[Cv]
 ((first|refine rG Γ hm ?_|refine rD Γ hm qq ?_);(conv=>whnf);repeat((first|refine aF ?_|refine aT ?_);(first|refine rG Γ hm ?_|refine rD Γ hm qq ?_);conv=>whnf))
 refine Bv (Al Γ.toTy 47 E E E E E (.row E) .sl qx ?_ ?_) qq E ?_
 ·simp[Cv];omega
 ·simp[Cv];omega
 ((first|refine rG Γ hm ?_|refine rD Γ hm qq ?_);(conv=>whnf);repeat((first|refine aF ?_|refine aT ?_);(first|refine rG Γ hm ?_|refine rD Γ hm qq ?_);conv=>whnf))
 refine⟨by kernel_rfl,?_⟩
 ((conv=>whnf);repeat((first|refine aF ?_|refine aT ?_);(first|refine rG Γ hm ?_|refine rD Γ hm qq ?_);conv=>whnf))
 exact done E (.cons .tmp (.cons .tmp .nil)) [(0,47)] _ (fun _ h=>h) E E ⟨Y,⟨.inl E,E,Y⟩,E,E⟩
end Go.Sy.YtnlacjgkdjnhmaaGreat
namespace Go.Sy.YtnlacjgkdjnhmaaGreat
structure FrameM where
 dst:Nat
 src:Nat
 typ:Nat
 body:List UInt8
def By (f:FrameM):SV:=Akf f.dst f.src f.typ f.body
structure StepM where
 kind:Int
 port:Int
 domain:Int
 at_:Int
 bytes:List UInt8
 up:List Bool
def Bg (x:StepM):SV:=.agg [Aa x.kind,Aa x.port,Aa x.domain,Aa x.at_,.sl 1 Ak x.bytes,.sl 1 Ad x.up]
structure SeenM where
 port:Int
 origin:Int
 bytes:List UInt8
def Cg (x:SeenM):SV:=.agg [Aa x.port,Aa x.origin,.sl 1 Ak x.bytes]
def Hp (ip:Int):Nat:=2199023255552+ip.toNat
def Ez (n:Nat):Nat:=if n=0 then 0 else (n-1) % 65535+1
theorem Aea {α:Type} {l:List α} {i:Nat} {d:α} (h:i<l.length):l.getD i d=l[i]:=by simp[List.getD,h]
theorem Ab1 {n:Nat} (h:n≤65535):Ez n=n:=by
 unfold Ez
 split<;>omega
theorem Aed {n:Nat} (h:65535<n):Ez (n / 65536+n % 65536)=Ez n∧n / 65536+n % 65536<n:=by
 unfold Ez
 rw[if_neg qn,if_neg qn]
 omega
theorem Akg (n:Nat):Ez n≤65535:=by
 unfold Ez
 split<;>omega
def Ok (l:List UInt8):Nat→Nat
 | 0=>0
 | j+1=>Ok l j+((l.getD (2 * j) 0).toNat * 256+(l.getD (2 * j+1) 0).toNat)
theorem Aey (l:List UInt8):∀ j,Ok l j≤65535 * j
 | 0=>Nat.le_refl _
 | j+1=>by
  have ih:=Aey l j
  have h1:=(l.getD (2 * j) 0).toNat_lt
  have h2:=(l.getD (2 * j+1) 0).toNat_lt
  rw[Ok]
  omega
def Ae2 (l:List UInt8):Nat:=65535-Ez (Ok l (l.length / 2))
end Go.Sy.YtnlacjgkdjnhmaaGreat
namespace Go.Sy.YtnlacjgkdjnhmaaGreat
open Go.Proofs
attribute [local irreducible] Go.Sy.G Go.Sy.DR
set_option maxRecDepth 100000
set_option maxHeartbeats 4000000
theorem E8 (a b:Nat) (ha:a<9223372036854775808) (hb:b<9223372036854775808):bits .and .i64 (a:Int) (b:Int)=((a &&& b:Nat):Int):=by
 have hx:a &&& b<2 ^ 63:=Nat.lt_of_le_of_lt Nat.and_le_left ha
 have h1:(BitVec.ofInt 64 (a:Int)).toNat=a:=by
  rw[BitVec.ofInt_natCast,BitVec.toNat_ofNat];exact Nat.mod_eq_of_lt qn
 have h2:(BitVec.ofInt 64 (b:Int)).toNat=b:=by
  rw[BitVec.ofInt_natCast,BitVec.toNat_ofNat];exact Nat.mod_eq_of_lt qn
 show IntKind.i64.wrap ((BitVec.ofInt 64 (a:Int) &&& BitVec.ofInt 64 (b:Int)).toNat:Int)=_
 rw[BitVec.toNat_and,h1,h2,IntKind.wrap_i64]
 omega
theorem Cu (a b:Nat) (ha:a<9223372036854775808) (hb:b<9223372036854775808):bits .or .i64 (a:Int) (b:Int)=((a ||| b:Nat):Int):=by
 have hx:a ||| b<2 ^ 63:=Nat.or_lt_two_pow qn qn
 have h1:(BitVec.ofInt 64 (a:Int)).toNat=a:=by
  rw[BitVec.ofInt_natCast,BitVec.toNat_ofNat];exact Nat.mod_eq_of_lt qn
 have h2:(BitVec.ofInt 64 (b:Int)).toNat=b:=by
  rw[BitVec.ofInt_natCast,BitVec.toNat_ofNat];exact Nat.mod_eq_of_lt qn
 show IntKind.i64.wrap ((BitVec.ofInt 64 (a:Int) ||| BitVec.ofInt 64 (b:Int)).toNat:Int)=_
 rw[BitVec.toNat_or,h1,h2,IntKind.wrap_i64]
 omega
theorem Ae5 (n k:Nat) (hk:k<64):(n:Int).fdiv (2 ^ (min (Int.toNat (k:Int)) IntKind.i64.bits))=((n / 2 ^ k:Nat):Int):=by
 have h1:min (Int.toNat (k:Int)) IntKind.i64.bits=k:=by simp[IntKind.bits];omega
 rw[h1,Int.fdiv_eq_ediv_of_nonneg _ (by exact Int.pow_nonneg qx)]
 simp
theorem Amh (n:Nat) (h:n<9223372036854775808):bits .and .i64 (n:Int) 65535=((n % 65536:Nat):Int):=by
 have:=E8 n 65535 h qx
 rw[show ((65535:Nat):Int)=65535 from rfl]at this
 rw[this]
 have h2:=Nat.and_two_pow_sub_one_eq_mod n 16
 rw[show 2 ^ 16-1=65535 from rfl,show 2 ^ 16=65536 from rfl]at h2
 rw[h2]
theorem Ahm (n:Nat) (h:n<9223372036854775808):Sy.Spec Tryz.prog 236 [.ptr 0 0] [(0,.box [Aa n])] (.tup []) [(0,.box [Aa (n / 65536+n % 65536:Nat)])]:=Ab Γ hm 100 F236 Tryz.ntmps236 rfl fun F hF=>by
 have e1:(n:Int).fdiv (2 ^ (min (Int.toNat 16) IntKind.i64.bits))=((n / 65536:Nat):Int):=Ae5 n 16 qx
 have e2:=Amh n h
 ((conv=>whnf);repeat((first|refine aF ?_|refine aT ?_);(first|refine rG Γ hm ?_|refine rD Γ hm qq ?_);conv=>whnf))
 first | (refine⟨by omega,?_⟩;((conv=>whnf);repeat((first|refine aF ?_|refine aT ?_);(first|refine rG Γ hm ?_|refine rD Γ hm qq ?_);conv=>whnf))) | skip
 rw[e1,e2]
 refine⟨by unfold I64;omega,?_⟩
 ((conv=>whnf);repeat((first|refine aF ?_|refine aT ?_);(first|refine rG Γ hm ?_|refine rD Γ hm qq ?_);conv=>whnf))
 exact Bm E .nil [] [(0,.box [Aa (n / 65536+n % 65536:Nat)])] (fun _ h=>h) E E ⟨Y,⟨.inl E,E,Y⟩,E,E⟩
theorem Aih (n:Nat) (h:n<9223372036854775808):Sy.Spec Tryz.prog 221 [Aa n] [] (Aa (Ez n)) []:=Ab Γ hm 100 F221 Tryz.ntmps221 rfl fun F hF=>by
 ((conv=>whnf);repeat((first|refine aF ?_|refine aT ?_);(first|refine rG Γ hm ?_|refine rD Γ hm qq ?_);conv=>whnf))
 refine Ln (α:={m:Nat // Ez m=Ez n∧m≤n}) (fun m=>[(3,.clo (.func 236) [] [.ptr 1 0]),(1,.ptr 1 0)]) (fun m=>[(1,.box [Aa m.1])]) (fun m=>m.1) ⟨n,E,Nat.le_refl _⟩ []
  ⟨⟨rfl,rfl,rfl,rfl,trivial⟩,⟨.inl rfl,rfl,trivial⟩,rfl,rfl⟩ ?_
 rintro ⟨m,h1,h2⟩
 dsimp only
 ((first|refine rG Γ hm ?_|refine rD Γ hm qq ?_);(conv=>whnf);repeat((first|refine aF ?_|refine aT ?_);(first|refine rG Γ hm ?_|refine rD Γ hm qq ?_);conv=>whnf))
 refine⟨fun h3=>?_,fun h3=>?_⟩
 ·have hmm:65535<m:=by have:=of_decide_eq_true h3;omega
  obtain ⟨g1,g2⟩:=Aed hmm
  ((first|refine rG Γ hm ?_|refine rD Γ hm qq ?_);(conv=>whnf);repeat((first|refine aF ?_|refine aT ?_);(first|refine rG Γ hm ?_|refine rD Γ hm qq ?_);conv=>whnf))
  refine Ai (Cn [(0,1)] (E7 E E F236) (Ahm m qn) E ⟨E,Y⟩ E ⟨.inl E,Y⟩) E E ?_
  ((first|refine rG Γ hm ?_|refine rD Γ hm qq ?_);(conv=>whnf);repeat((first|refine aF ?_|refine aT ?_);(first|refine rG Γ hm ?_|refine rD Γ hm qq ?_);conv=>whnf))
  exact M2 (α:={m:Nat // Ez m=Ez n∧m≤n}) (x:=⟨m,h1,h2⟩) ⟨m / 65536+m % 65536,by rw[g1,h1],by omega⟩ [] g2 ⟨⟨E,E,E,E,Y⟩,⟨.inl E,E,Y⟩,E,E⟩
 ·have hmm:m≤65535:=by have:=of_decide_eq_false h3;omega
  have e:Ez n=m:=by rw[← h1,Ab1 hmm]
  ((first|refine rG Γ hm ?_|refine rD Γ hm qq ?_);(conv=>whnf);repeat((first|refine aF ?_|refine aT ?_);(first|refine rG Γ hm ?_|refine rD Γ hm qq ?_);conv=>whnf))
  refine Ac E (.cons .tmp .nil) ?_ E
  exact congrArg (fun z:Nat=>Aa z) e
theorem D4 (a b:UInt8):bits .or .i64 (IntKind.i64.wrap ((IntKind.i64.wrap (a.toNat:Int)) * 2 ^ min (Int.toNat 8) IntKind.i64.bits)) (IntKind.i64.wrap (b.toNat:Int))=((a.toNat * 256+b.toNat:Nat):Int):=by
 have h1:=a.toNat_lt
 have h2:=b.toNat_lt
 have e1:IntKind.i64.wrap (a.toNat:Int)=(a.toNat:Int):=by rw[IntKind.wrap_i64];omega
 have e2:IntKind.i64.wrap (b.toNat:Int)=(b.toNat:Int):=by rw[IntKind.wrap_i64];omega
 rw[e1,e2]
 have h3:IntKind.i64.wrap ((a.toNat:Int) * 2 ^ min (Int.toNat 8) IntKind.i64.bits)=((a.toNat * 256:Nat):Int):=by
  show IntKind.i64.wrap ((a.toNat:Int) * 256)=_
  rw[IntKind.wrap_i64]
  omega
 rw[h3,Cu _ _ qn qn]
 congr 1
 have h:=Nat.two_pow_add_eq_or_of_lt (i:=8) (b:=b.toNat) qn a.toNat
 rw[Nat.mul_comm a.toNat 256]
 exact h.symm
theorem Ae3 (l:List UInt8) (hl:l.length<100000) (h2:l.length % 2=0):Sy.Spec Tryz.prog 206 [.sl 1 Ak l] [] (Aa (Ez (Ok l (l.length / 2)))) []:=Ab Γ hm 100 F206 Tryz.ntmps206 rfl fun F hF=>by
 ((conv=>whnf);repeat((first|refine aF ?_|refine aT ?_);(first|refine rG Γ hm ?_|refine rD Γ hm qq ?_);conv=>whnf))
 refine A2 (l.length / 2) (fun j=>[(0,.sl 1 Ak l),(3,Aa (Ok l j)),(4,Aa (2 * (j:Int)))]) (fun _=>[]) [] ⟨⟨E,E,E,E,E,E,Y⟩,Y,E,E⟩ ?_
 intro j hj
 have hw:=Aey l j
 ((first|refine rG Γ hm ?_|refine rD Γ hm qq ?_);(conv=>whnf);repeat((first|refine aF ?_|refine aT ?_);(first|refine rG Γ hm ?_|refine rD Γ hm qq ?_);conv=>whnf))
 refine⟨by unfold I64;omega,?_⟩
 ((conv=>whnf);repeat((first|refine aF ?_|refine aT ?_);(first|refine rG Γ hm ?_|refine rD Γ hm qq ?_);conv=>whnf))
 refine⟨fun h=>?_,fun h=>?_⟩
 ·have hlt:2 * j+1<l.length:=by have:=of_decide_eq_true h;omega
  have hs:Ok l (j+1)=Ok l j+((l[2 * j]'qn).toNat * 256+(l[2 * j+1]'hlt).toNat):=by
   rw[Ok,Aea (show 2 * j<l.length by omega),Aea hlt]
  have e1:l[(2 * (j:Int)).toNat]'qn=l[2 * j]'qn:=by congr 1
  have e2:l[(2 * (j:Int)+1).toNat]'qn=l[2 * j+1]'hlt:=by congr 1
  have hp:=D4 (l[2 * j]'qn) (l[2 * j+1]'hlt)
  have hb1:=(l[2 * j]'qn).toNat_lt
  have hb2:=(l[2 * j+1]'hlt).toNat_lt
  rw[← e1,← e2]at hp hs
  rw[← e1]at hb1
  rw[← e2]at hb2
  ((first|refine rG Γ hm ?_|refine rD Γ hm qq ?_);(conv=>whnf);repeat((first|refine aF ?_|refine aT ?_);(first|refine rG Γ hm ?_|refine rD Γ hm qq ?_);conv=>whnf))
  refine⟨E,by omega,by omega,?_⟩
  ((conv=>whnf);repeat((first|refine aF ?_|refine aT ?_);(first|refine rG Γ hm ?_|refine rD Γ hm qq ?_);conv=>whnf))
  refine⟨by omega,?_⟩
  ((conv=>whnf);repeat((first|refine aF ?_|refine aT ?_);(first|refine rG Γ hm ?_|refine rD Γ hm qq ?_);conv=>whnf))
  refine⟨by unfold I64;omega,?_⟩
  ((conv=>whnf);repeat((first|refine aF ?_|refine aT ?_);(first|refine rG Γ hm ?_|refine rD Γ hm qq ?_);conv=>whnf))
  refine⟨E,by omega,by omega,?_⟩
  ((conv=>whnf);repeat((first|refine aF ?_|refine aT ?_);(first|refine rG Γ hm ?_|refine rD Γ hm qq ?_);conv=>whnf))
  refine⟨(by rw[hp];unfold I64;omega),?_⟩
  ((conv=>whnf);repeat((first|refine aF ?_|refine aT ?_);(first|refine rG Γ hm ?_|refine rD Γ hm qq ?_);conv=>whnf))
  refine⟨qq,?_⟩
  ((conv=>whnf);repeat((first|refine aF ?_|refine aT ?_);(first|refine rG Γ hm ?_|refine rD Γ hm qq ?_);conv=>whnf))
  refine⟨by unfold I64;omega,?_⟩
  ((conv=>whnf);repeat((first|refine aF ?_|refine aT ?_);(first|refine rG Γ hm ?_|refine rD Γ hm qq ?_);conv=>whnf))
  refine Av [] qn ⟨⟨E,E,congrArg (fun z=>SV.val (.int .i64 z)) ?_,E,congrArg (fun z=>SV.val (.int .i64 z)) ?_,E,Y⟩,Y,E,E⟩
  ·rw[hp,hs];omega
  ·omega
 have hjl:j=l.length / 2:=by
  have:=of_decide_eq_false h
  omega
 have hpar:¬ bits .and .i64 (l.length:Int) 1=1:=by
  have:=E8 l.length 1 qn qx
  rw[show ((1:Nat):Int)=1 from rfl]at this
  rw[this,Nat.and_one_is_mod,h2]
  decide
 have hd:=Aih (Ok l j) qn
 rw[hjl]at hd ⊢
 clear hjl
 ((first|refine rG Γ hm ?_|refine rD Γ hm qq ?_);(conv=>whnf);repeat((first|refine aF ?_|refine aT ?_);(first|refine rG Γ hm ?_|refine rD Γ hm qq ?_);conv=>whnf))
 refine⟨fun h=>absurd (of_decide_eq_true h) hpar,fun _=>?_⟩
 ((first|refine rG Γ hm ?_|refine rD Γ hm qq ?_);(conv=>whnf);repeat((first|refine aF ?_|refine aT ?_);(first|refine rG Γ hm ?_|refine rD Γ hm qq ?_);conv=>whnf))
 refine Ah hd F221 E E E E E ?_
 ((first|refine rG Γ hm ?_|refine rD Γ hm qq ?_);(conv=>whnf);repeat((first|refine aF ?_|refine aT ?_);(first|refine rG Γ hm ?_|refine rD Γ hm qq ?_);conv=>whnf))
 exact Ac E (.cons .tmp .nil) E E
theorem sumOfS (l:List UInt8) (hl:l.length<100000) (h2:l.length % 2=0):Sy.Spec Tryz.prog 180 [.sl 1 Ak l] [] (Aa (Ae2 l)) []:=Ab Γ hm 100 F180 Tryz.ntmps180 rfl fun F hF=>by
 have ha:=Ae3 l hl h2
 have hle:=Akg (Ok l (l.length / 2))
 ((conv=>whnf);repeat((first|refine aF ?_|refine aT ?_);(first|refine rG Γ hm ?_|refine rD Γ hm qq ?_);conv=>whnf))
 refine Ah ha F206 E E E E E ?_
 ((first|refine rG Γ hm ?_|refine rD Γ hm qq ?_);(conv=>whnf);repeat((first|refine aF ?_|refine aT ?_);(first|refine rG Γ hm ?_|refine rD Γ hm qq ?_);conv=>whnf))
 refine⟨by unfold I64;omega,?_⟩
 ((conv=>whnf);repeat((first|refine aF ?_|refine aT ?_);(first|refine rG Γ hm ?_|refine rD Γ hm qq ?_);conv=>whnf))
 refine Ac E (.cons .tmp .nil) ?_ E
 refine congrArg Aa ?_
 rw[Ae2]
 omega
def Ajr (n:Nat):SV:=Aa n
def Id (l:List Nat):List UInt8:=l.flatMap fun n=>[UInt8.ofNat (n / 256),UInt8.ofNat n]
theorem Wu (l:List Nat):(Id l).length=2 * l.length:=by
 induction l with
 | nil=>rfl
 | cons a l ih=>simp only[Id,List.flatMap_cons,List.length_append,List.length_cons,List.length_nil]at ih ⊢;omega
theorem Aa6 (l:List Nat) (n:Nat):Id (l++[n])=Id l++[UInt8.ofNat (n / 256),UInt8.ofNat n]:=by simp[Id]
theorem Yq (a b:Int) (h:0≤a∧a≤b):Sy.Spec Tryz.prog 178 [Aa a,Aa b] [] (Ad true) []:=Ab Γ hm 100 F178 Tryz.ntmps178 rfl fun F hF=>by
 ((conv=>whnf);repeat((first|refine aF ?_|refine aT ?_);(first|refine rG Γ hm ?_|refine rD Γ hm qq ?_);conv=>whnf))
 refine⟨fun _=>?_,fun h2=>absurd (of_decide_eq_false h2) qn⟩
 ((first|refine rG Γ hm ?_|refine rD Γ hm qq ?_);(conv=>whnf);repeat((first|refine aF ?_|refine aT ?_);(first|refine rG Γ hm ?_|refine rD Γ hm qq ?_);conv=>whnf))
 refine Ac E (.cons .tmp .nil) ?_ E
 exact congrArg Ad (decide_eq_true h.2).symm
theorem Ajz (l:List Nat) (hl:l.length<100000):Sy.Spec Tryz.prog 179 [.val (.slice none 0 0),.sl 1 Ajr l] [] (.osl 0) [(0,.row 1 Ak (Id l))]:=Ab Γ hm 100 F179 Tryz.ntmps179 rfl fun F hF=>by
 ((conv=>whnf);repeat((first|refine aF ?_|refine aT ?_);(first|refine rG Γ hm ?_|refine rD Γ hm qq ?_);conv=>whnf))
 refine Cc 0 1000 1 Ak E E ?_
 refine A2 l.length (fun j=>[(0,.osl 1000),(7,.sl 1 Ajr l),(8,Aa l.length),(9,Aa j)]) (fun j=>[(1000,.row 1 Ak (Id (l.take j)))]) [] ⟨⟨E,E,E,E,E,E,E,E,Y⟩,⟨.inl E,E,Y⟩,E,E⟩ ?_
 intro j hj
 have hpl:=Wu (l.take j)
 ((first|refine rG Γ hm ?_|refine rD Γ hm qq ?_);(conv=>whnf);repeat((first|refine aF ?_|refine aT ?_);(first|refine rG Γ hm ?_|refine rD Γ hm qq ?_);conv=>whnf))
 refine⟨fun h=>?_,fun h=>?_⟩
 ·have hlt:j<l.length:=by simpa using h
  have e1:l[(j:Int).toNat]'qn=l[j]:=rfl
  have hsucc:Id (l.take (j+1))=Id (l.take j)++[UInt8.ofNat (l[j] / 256),UInt8.ofNat l[j]]:=by
   rw[List.take_succ_eq_append_getElem hlt,Aa6]
  obtain ⟨n,hn⟩:∃ n,l[j]=n:=⟨_,rfl⟩
  rw[hn]at e1 hsucc
  have htb:=Dz n
  ((first|refine rG Γ hm ?_|refine rD Γ hm qq ?_);(conv=>whnf);repeat((first|refine aF ?_|refine aT ?_);(first|refine rG Γ hm ?_|refine rD Γ hm qq ?_);conv=>whnf))
  refine⟨E,by omega,by omega,?_⟩
  rw[e1]
  ((conv=>whnf);repeat((first|refine aF ?_|refine aT ?_);(first|refine rG Γ hm ?_|refine rD Γ hm qq ?_);conv=>whnf))
  refine⟨by omega,?_⟩
  ((conv=>whnf);repeat((first|refine aF ?_|refine aT ?_);(first|refine rG Γ hm ?_|refine rD Γ hm qq ?_);conv=>whnf))
  refine Ai (Al Γ.toTy 20 E E E E E (.row E) (.lit (e:=Ak) (l:=[UInt8.ofNat (n / 256),UInt8.ofNat n]) E htb) qy (by simp[hpl];omega) (by simp[hpl];omega)) E E ?_
  ((first|refine rG Γ hm ?_|refine rD Γ hm qq ?_);(conv=>whnf);repeat((first|refine aF ?_|refine aT ?_);(first|refine rG Γ hm ?_|refine rD Γ hm qq ?_);conv=>whnf))
  refine⟨by unfold I64;omega,?_⟩
  ((conv=>whnf);repeat((first|refine aF ?_|refine aT ?_);(first|refine rG Γ hm ?_|refine rD Γ hm qq ?_);conv=>whnf))
  exact Av [(1000,20)] hlt ⟨⟨E,E,E,E,E,E,E,E,Y⟩,⟨.inl (congrArg (Ob.row 1 Ak) hsucc),E,Y⟩,E,E⟩
 ·have hjl:j=l.length:=by
   have:¬ j<l.length:=by simpa using h
   omega
  subst hjl
  rw[List.take_length]
  ((first|refine rG Γ hm ?_|refine rD Γ hm qq ?_);(conv=>whnf);repeat((first|refine aF ?_|refine aT ?_);(first|refine rG Γ hm ?_|refine rD Γ hm qq ?_);conv=>whnf))
  exact done E (.cons .tmp .nil) [(0,1000)] [(0,.row 1 Ak (Id l))] (fun _ h=>h) E E ⟨Y,⟨.inl E,E,Y⟩,E,E⟩
theorem u8_of (n:Nat):IntKind.u8.wrap (n:Int)=((UInt8.ofNat n).toNat:Int):=by
 rw[IntKind.wrap_u8]
 simp
theorem Ue {x:Int} (h0:0≤x) (h1:x<18446744073709551616):IntKind.u64.wrap x=x:=by rw[IntKind.wrap_u64];omega
theorem Abt (ip:Nat) (h:ip<4294967296):Sy.Spec Tryz.prog 134 [Ce ip] [] (A7 (Hp ip)) []:=Ab Γ hm 100 F134 Tryz.ntmps134 rfl fun F hF=>by
 ((conv=>whnf);repeat((first|refine aF ?_|refine aT ?_);(first|refine rG Γ hm ?_|refine rD Γ hm qq ?_);conv=>whnf))
 refine Ac E (.cons .tmp .nil) ?_ E
 refine congrArg (fun z=>SV.val (.int .u64 z)) ?_
 have e:IntKind.u64.wrap (ip:Int)=ip:=Ue qn qn
 rw[e]
 have hb:=bits_or_u64_nat 2199023255552 ip qx qn
 rw[show ((2199023255552:Nat):Int)=2199023255552 from rfl]at hb
 rw[hb,Hp,Int.toNat_natCast]
 have h2:=Nat.two_pow_add_eq_or_of_lt (i:=32) (b:=ip) qn 512
 rw[show 2 ^ 32 * 512=2199023255552 from rfl]at h2
 rw[← h2]
theorem tagIsS (d s:Nat) (t:Int) (body:List UInt8) (ht:t≠33024):Sy.Spec Tryz.prog 94 [Akf d s t body] [] (Ad false) []:=Ab Γ hm 100 F94 Tryz.ntmps94 rfl fun F hF=>by
 ((conv=>whnf);repeat((first|refine aF ?_|refine aT ?_);(first|refine rG Γ hm ?_|refine rD Γ hm qq ?_);conv=>whnf))
 refine Ac E (.cons .tmp .nil) ?_ E
 exact congrArg Ad (beq_eq_false_iff_ne.2 ht).symm
theorem Alp (v:Nat) (hv:v<9223372036854775808):bits .or .i64 (IntKind.i64.wrap (0 * 2 ^ min (Int.toNat 12) IntKind.i64.bits)) (v:Int)=v:=by
 have h:=Cu 0 v qx hv
 rw[Nat.zero_or]at h
 exact h
theorem Alh (d s t v:Nat) (body:List UInt8) (ht:t≠33024) (ht2:t≤65535) (hv:v≤4094) (hb:body.length≤1500) :
  Sy.Spec Tryz.prog 183 [Akf d s t body,Aa v,Aa 0] [] (.tup [Akf d s 33024 ([UInt8.ofNat (v / 256),UInt8.ofNat v,UInt8.ofNat (t / 256),UInt8.ofNat t]++body),Aa 0]) []:=Ab Γ hm 100 F183 Tryz.ntmps183 rfl fun F hF=>by
 have hor:=Alp v qn
 have tb1:=Dz v
 have tb2:=Dz t
 ((conv=>whnf);repeat((first|refine aF ?_|refine aT ?_);(first|refine rG Γ hm ?_|refine rD Γ hm qq ?_);conv=>whnf))
 refine Ah (tagIsS d s t body qn) F94 E E E E E ?_
 ((first|refine rG Γ hm ?_|refine rD Γ hm qq ?_);(conv=>whnf);repeat((first|refine aF ?_|refine aT ?_);(first|refine rG Γ hm ?_|refine rD Γ hm qq ?_);conv=>whnf))
 refine⟨fun h=>absurd (of_decide_eq_true h) qn,fun _=>?_⟩
 ((first|refine rG Γ hm ?_|refine rD Γ hm qq ?_);(conv=>whnf);repeat((first|refine aF ?_|refine aT ?_);(first|refine rG Γ hm ?_|refine rD Γ hm qq ?_);conv=>whnf))
 refine⟨fun h=>absurd (of_decide_eq_true h) qn,fun _=>?_⟩
 ((first|refine rG Γ hm ?_|refine rD Γ hm qq ?_);(conv=>whnf);repeat((first|refine aF ?_|refine aT ?_);(first|refine rG Γ hm ?_|refine rD Γ hm qq ?_);conv=>whnf))
 refine⟨fun h=>absurd (of_decide_eq_true h) qn,fun _=>?_⟩
 ((first|refine rG Γ hm ?_|refine rD Γ hm qq ?_);(conv=>whnf);repeat((first|refine aF ?_|refine aT ?_);(first|refine rG Γ hm ?_|refine rD Γ hm qq ?_);conv=>whnf))
 refine⟨by omega,?_⟩
 ((conv=>whnf);repeat((first|refine aF ?_|refine aT ?_);(first|refine rG Γ hm ?_|refine rD Γ hm qq ?_);conv=>whnf))
 rw[hor]
 refine⟨by omega,?_⟩
 ((conv=>whnf);repeat((first|refine aF ?_|refine aT ?_);(first|refine rG Γ hm ?_|refine rD Γ hm qq ?_);conv=>whnf))
 refine⟨by omega,?_⟩
 ((conv=>whnf);repeat((first|refine aF ?_|refine aT ?_);(first|refine rG Γ hm ?_|refine rD Γ hm qq ?_);conv=>whnf))
 refine Bv (Al Γ.toTy 70 E E E E E (.lit (e:=Ak) (l:=[UInt8.ofNat (v / 256),UInt8.ofNat v,UInt8.ofNat (t / 256),UInt8.ofNat t]) E ?_) .sl qy (by simp;omega) (by simp;omega)) qq E ?_
 ·have h1:=List.cons.inj tb1
  have h2:=List.cons.inj tb2
  have h3:=List.cons.inj h1.2
  have h4:=List.cons.inj h2.2
  simp only[List.map_cons,List.map_nil]
  rw[h1.1,h3.1,h2.1,h4.1]
 ((first|refine rG Γ hm ?_|refine rD Γ hm qq ?_);(conv=>whnf);repeat((first|refine aF ?_|refine aT ?_);(first|refine rG Γ hm ?_|refine rD Γ hm qq ?_);conv=>whnf))
 refine⟨qq,?_⟩
 ((conv=>whnf);repeat((first|refine aF ?_|refine aT ?_);(first|refine rG Γ hm ?_|refine rD Γ hm qq ?_);conv=>whnf))
 refine Au 70 E ?_
 exact Ac E (.cons (.cell E E E E) (.cons .tmp .nil)) E E
end Go.Sy.YtnlacjgkdjnhmaaGreat
namespace Go.Sy.YtnlacjgkdjnhmaaGreat
open Go.Proofs
def Hr (l:List UInt8):Nat:=l.foldl (fun n c=>n * 256+c.toNat) 0
theorem Xe (l:List UInt8) (c:UInt8):Hr (l++[c])=Hr l * 256+c.toNat:=by
 rw[Hr,List.foldl_append];rfl
theorem Jt:∀ (k:Nat) (l:List UInt8),l.length=k→Hr l<256 ^ k
 | 0,l,h=>by rw[List.length_eq_zero_iff.1 h];decide
 | k+1,l,h=>by
  have hne:l≠[]:=fun e=>by rw[e]at h;cases h
  have e:=List.dropLast_concat_getLast hne
  have h1:=Jt k l.dropLast (by rw[List.length_dropLast];omega)
  have h2:=(l.getLast hne).toNat_lt
  rw[← e,Xe,Nat.pow_succ]
  omega
theorem Af4 (l:List UInt8) {j:Nat} (h:j<l.length):Hr (l.take (j+1))=Hr (l.take j) * 256+l[j].toNat:=by
 rw[List.take_succ_eq_append_getElem h,Xe]
theorem Ale (m:Nat) (c:UInt8) (h:m<1099511627776) :
  bits .or .u64 (IntKind.u64.wrap ((m:Int) * 2 ^ min (Int.toNat 8) IntKind.u64.bits)) (IntKind.u64.wrap (c.toNat:Int))=((m * 256+c.toNat:Nat):Int):=by
 have hc:=c.toNat_lt
 have e1:IntKind.u64.wrap ((m:Int) * 2 ^ min (Int.toNat 8) IntKind.u64.bits)=((m * 256:Nat):Int):=by
  show IntKind.u64.wrap ((m:Int) * 256)=_
  rw[IntKind.wrap_u64];omega
 have e2:IntKind.u64.wrap (c.toNat:Int)=(c.toNat:Int):=by rw[IntKind.wrap_u64];omega
 rw[e1,e2,bits_or_u64_nat _ _ qn qn]
 congr 1
 have h:=Nat.two_pow_add_eq_or_of_lt (i:=8) (b:=c.toNat) qn m
 rw[Nat.mul_comm m 256]
 exact h.symm
def E6 (m:Nat):Bool:=decide (m / 1099511627776 % 2=1)
theorem Ami (m k:Nat):m &&& 2 ^ k=if m / 2 ^ k % 2=1 then 2 ^ k else 0:=by
 apply Nat.eq_of_testBit_eq
 intro i
 rw[Nat.testBit_and,Nat.testBit_two_pow]
 by_cases hi:k=i
 ·subst hi
  rw[decide_eq_true rfl,Bool.and_true,Nat.testBit_eq_decide_div_mod_eq]
  split
  ·rename_i h;rw[decide_eq_true h,Nat.testBit_two_pow_self]
  ·rename_i h;rw[decide_eq_false h,Nat.zero_testBit]
 ·rw[decide_eq_false hi,Bool.and_false]
  split
  ·rw[Nat.testBit_two_pow,decide_eq_false hi]
  ·rw[Nat.zero_testBit]
theorem Ahg (m:Nat) (h:m<18446744073709551616):(bits .and .u64 (m:Int) 1099511627776 != 0)=E6 m:=by
 have e:=bits_and_u64_nat m 1099511627776 h qx
 rw[show ((1099511627776:Nat):Int)=1099511627776 from rfl]at e
 rw[e,show (1099511627776:Nat)=2 ^ 40 from rfl,Ami,E6,show (1099511627776:Nat)=2 ^ 40 from rfl]
 split
 ·rename_i h;rw[decide_eq_true h];rfl
 ·rename_i h;rw[decide_eq_false h];rfl
end Go.Sy.YtnlacjgkdjnhmaaGreat
namespace Go.Sy
theorem Spec.view {P:Program} {f:FuncId} {A A':List SV} {H H':Obs} {R:SV} (hs:Sy.Spec P f A H R H') (h:∀ κ w vs,RdL κ w A' vs→RdL κ w A vs):Sy.Spec P f A' H R H' :=
 fun κ w vs hi hk hr ho=>hs κ w vs hi hk (h κ w vs hr) ho
theorem Yh {κ:Ka} {w:World} {sz:Nat} {α:Type} {e:α→SV} {v:Value} (h:Rd κ w (.val (.slice none 0 0)) v):Rd κ w (.sl sz e []) v:=by
 simp only[Rd]at h
 simp only[Rd,RdD]
 exact .inl ⟨Y,none,0,h⟩
theorem Wo {M:Nat→Prop} {w:World} {sz:Nat} {α:Type} {e:α→SV} {v:Value} (h:v=.slice none 0 0):RdD M w (.sl sz e []) v:=by
 simp only[RdD]
 exact .inl ⟨Y,none,0,h⟩
theorem Acv {C:Cx} {k:List KI} {s:SS} (d:Nat) {sz:Nat} {α β:Type} {e:α→SV} {l:List α} {e':β→SV} {l':List β} (h:s.h d=.row sz e l) (hl:l'.length=l.length)
  (hv:∀ (M:Nat→Prop) (w:World) (i:Nat) (h1:i<l.length) (h2:i<l'.length) (v:Value),RdD M w (e l[i]) v→RdD M w (e' l'[i]) v) (hg:G C k ⟨s.σ,upd s.h d (.row sz e' l')⟩):G C k s:=fun κ a w hs =>
 hg κ a w ⟨hs.defers,hs.size,hs.inv,hs.ctx,hs.slot,fun i=>by
  show ObOK κ w i (upd s.h d (.row sz e' l') i)
  by_cases hi:i=d
  ·subst hi
   rw[Bb]
   have:=hs.obj i
   rw[h]at this
   rcases this with ⟨h1,rfl⟩ | ⟨b,cap,cs,T,fr,e1,e2,e3,e4,e5,e6⟩
   ·exact .inl ⟨h1,List.eq_nil_of_length_eq_zero (by simpa using hl)⟩
   ·refine .inr ⟨b,cap,cs,T,fr,by rw[hl];exact e1,e2,e3,e4,by omega,fun i x hx=>?_⟩
    obtain ⟨hi2,rfl⟩:=hx
    obtain ⟨_,u,hu,hrest⟩:=e6 i (e (l[i]'qn)) ⟨by omega,rfl⟩
    exact⟨hi2,u,hv _ _ i qn hi2 u hu,hrest⟩
  ·rw[Bs _ _ hi];exact hs.obj i⟩
theorem Afx {κ:Ka} {w:World} {x:SV}:∀ {l:List SV} {cs:List Value} {i:Nat},RdL κ w l cs→(∀ y v,l[i]? = some y→Rd κ w y v→Rd κ w x v)→RdL κ w (l.set i x) cs
 | [],_,_,h,_=>h
 | y::l,cs,0,h,hx=>by
  simp only[RdL,List.set_cons_zero]at h ⊢
  obtain ⟨v,r,e1,e2,e3⟩:=h
  exact⟨v,r,e1,hx y v E e2,e3⟩
 | y::l,cs,i+1,h,hx=>by
  simp only[RdL,List.set_cons_succ]at h ⊢
  obtain ⟨v,r,e1,e2,e3⟩:=h
  exact⟨v,r,e1,e2,Afx e3 (fun z u hz hu=>hx z u hz hu)⟩
theorem Ak8 {C:Cx} {k:List KI} {s:SS} (b i d sz:Nat) {α:Type} (e:α→SV) {l:List SV} (hb:s.h b=.box l) (h:l[i]? = some (.val (.slice none 0 0))) (hd:s.h d=.fresh) (hbd:Nat.beq b d=false)
  (hg:G C k ⟨s.σ,upd (upd s.h b (.box (l.set i (.osl d)))) d (.row sz e [])⟩):G C k s:=fun κ a w hs=>by
 have hne:b≠d:=fun e=>by rw[e,Nat.beq_refl]at hbd;cases hbd
 have hnew:κ d=.new:=by have:=hs.obj d;rwa [hd]at this
 obtain ⟨st,inv⟩:=Hd hs.inv hnew (e:=.nil) (Grew.refl w) (fun b hb=>by cases hb)
 refine hg (Cq κ d .nil) a w ⟨hs.defers,hs.size,inv,hs.ctx.step inv st,fun j=>Rd.step st _ _ (hs.slot j),fun j=>?_⟩
 show ObOK _ w j (upd (upd s.h b (.box (l.set i (.osl d)))) d (.row sz e []) j)
 by_cases hj:j=d
 ·subst hj;rw[Bb];exact .inl ⟨Ar _ _ _,rfl⟩
 ·rw[Bs _ _ hj]
  by_cases hjb:j=b
  ·subst hjb
   rw[Bb]
   have:=ObOK.step st hj _ (hs.obj j)
   rw[hb]at this
   obtain ⟨b',cs,T,fr,e1,e2,e3,e4,e5⟩:=this
   refine⟨b',cs,T,fr,e1,e2,e3,e4,Afx e5 fun y v hy hv=>?_⟩
   rw[h]at hy
   cases hy
   simp only[Rd]at hv
   simp only[Rd,Ar]
   exact hv
  ·rw[Bs _ _ hjb];exact ObOK.step st hj _ (hs.obj j)
theorem Mb {P:Program} (w:World) {t e:TypeId} (h:P.underlying t=some (.slice e)) (ad:Option Addr) (n cap c1 c2:Nat):(Op.equal t (.slice ad n cap) (.slice none c1 c2)).run P w=.ok ad.isNone w:=by
 have key:∀ d,(Op.equalIn (d+1) t (.slice ad n cap) (.slice none c1 c2)).run P w=.ok ad.isNone w:=fun d=>by
  cases ad<;>simp[Op.equalIn,run_underlying h]
 exact key 9999
inductive NilT (s:SS):SV→List Nat→Nat→Prop
 | sl {sz:Nat} {α:Type} {e:α→SV} {l:List α}:NilT s (.sl sz e l) [] l.length
 | row {k sz:Nat} {α:Type} {e:α→SV} {l:List α} (h:s.h k=.row sz e l):NilT s (.osl k) [k] l.length
theorem NilT.at {C:Cx} {s:SS} {κ:Ka} {a:Act} {w:World} {x:Operand} {rd:List Nat} {n:Nat} (hs:St C.F C.n s κ a w) (hx:NilT s (ev s x) rd n):∃ (ad:Option Addr) (m cap:Nat),a.eval x=.slice ad m cap∧(ad.isNone=true→n=0):=by
 have h1:Rd κ w (ev s x) (a.eval x):=hs.ev x
 generalize ev s x=y at *
 cases hx with
 | @sl sz α e l =>
  simp only[Rd,RdD]at h1
  rcases h1 with ⟨rfl,a',cap,h1⟩ | ⟨b,off,cap,h1,_⟩
  ·exact⟨_,_,_,h1,fun _=>rfl⟩
  ·exact⟨_,_,_,h1,fun h=>by cases h⟩
 | @row k' sz α e l hr =>
  have hob:=hs.obj k'
  rw[hr]at hob
  simp only[Rd]at h1
  rcases hob with ⟨hκ,hl⟩ | ⟨b,cap,_,_,_,hκ,_⟩
  ·rw[hκ]at h1
   exact⟨_,_,_,h1,fun _=>by rw[hl];rfl⟩
  ·rw[hκ]at h1
   exact⟨_,_,_,h1,fun h=>by cases h⟩
theorem Dc {C:Cx} {k:List KI} {s:SS} {all:Array Oper} {o:Oper} {rest:List Oper} {op:BinOp} {t yt:TypeId} {ti:TI} {et:TypeId} {sz eb n:Nat} {ez:List Value} {x y:Operand} {rd:List Nat} (h:o.op=.binOp op t x y yt) (hop:op=.eql∨op=.neq)
  (ht:C.Γ.get t=some ti) (hk:ti.k=.slice et sz eb ez) (hy:ev s y=.val (.slice none 0 0)) (hx:NilT s (ev s x) rd n) (hd:M0 C.n o=true) (hw:Dv C.n all o s=some true)
  (hg:∀ b:Bool,(b=true→n=0)→G C (.ops all rest::k) (s.upd o.dst ⟨.val (.bool (if op=.eql then b else !b)),rd,[]⟩)):G C (.ops all (o::rest)::k) s:=fun κ a w hs=>by
 have h2:Rd κ w (ev s y) (a.eval y):=hs.ev y
 rw[hy]at h2
 obtain ⟨ad,m,cap,e1,e2⟩:=hx.at hs
 obtain ⟨d,info,z,k1,k2,_⟩:=C.Γ.ok t ti ht
 rw[hk]at k2
 simp only[TK.ok]at k2
 have hrun:=Mb (P:=C.P) w (t:=t) (e:=et) (by first | exact k2.1 ▸ k1 | (rw[k1,k2.1])) ad m cap 0 0
 have hG:=hg ad.isNone e2
 have hv:=h2.val
 refine wpList_step fun K hK=>?_
 rw[if_pos (Om hs (D1 hw).2 (D1 hw).1)]
 have hx':(execOp a.eval o).run C.P w=.ok (.value (.bool (if op=.eql then ad.isNone else !ad.isNone))) w:=by
  rcases hop with rfl | rfl<;>simp[execOp,h,e1,hv,eqGuard,binOp,hrun]
 simp only[Oper.wp,hx',Oper.upon]
 exact hK _ _ (hG κ _ w (hs.put (U:=⟨.val (.bool (if op=.eql then ad.isNone else !ad.isNone)),rd,[]⟩) (Wb hd) (Step.refl _ κ w) hs.inv (by simp[Rd]) (fun p hp=>by cases hp)))
def KeepL (s:SS):List (Nat × Ob)→Prop
 | []=>True
 | (k,o)::r=>s.h k=o∧KeepL s r
theorem KeepL.all {s:SS}:∀ {l:List (Nat × Ob)},KeepL s l→∀ p∈l,s.h p.1=p.2
 | [],_,p,hp=>by cases hp
 | (k,o)::r,h,p,hp=>by
  rcases List.mem_cons.1 hp with rfl | hp
  ·exact h.1
  ·exact KeepL.all h.2 p hp
theorem Aga {κ:Ka} {w w':World} (hi:Inv κ w) (g:Grew w w'):Step (fun _=>False) κ w κ w'∧Inv κ w' :=
 ⟨⟨g.size,g.os,g.tape,g.output,rfl,fun b hb=>g.blk b (hi.mbnd b hb),fun b hb _=>g.blk b hb,fun k b _ hb=>g.blk b (hi.bnd k b hb),fun _ _=>rfl,fun _ h=>h.elim,fun _ h=>.inl h⟩,
  ⟨hi.inj,fun k b h=>Nat.lt_of_lt_of_le (hi.bnd k b h) g.size,hi.apart,fun b h=>Nat.lt_of_lt_of_le (hi.mbnd b h) g.size⟩⟩
theorem Aka {P:Program} {o:Oper} {s:SS} {x y:Operand} {at_:Array TypeId} {k k':IntKind} {m n:Int} (h:o.op=.call ⟨.builtin .min,#[x,y],at_⟩)
  (hx:ev s x=.val (.int k m)) (hy:ev s y=.val (.int k' n)):Good P o s ⟨.val (.int k (if n<m then n else m)),[],[]⟩ :=
 Good.pure fun κ a w _ hr ho=>by
  have h1:=hr x (by simp[h,Op.operands,Call.operands])
  have h2:=hr y (by simp[h,Op.operands,Call.operands])
  rw[hx]at h1
  rw[hy]at h2
  refine⟨.int k (if n<m then n else m),?_,by simp[Rd]⟩
  simp[execOp,h,resolve,invoke,builtin,Builtin.min_,Builtin.min2,h1.val,h2.val]
end Go.Sy
namespace Go.Sy.YtnlacjgkdjnhmaaGreat
open Go.Proofs
attribute [local irreducible] Go.Sy.G Go.Sy.DR
set_option maxRecDepth 20000
set_option maxHeartbeats 4000000
theorem B3 {α:Type} (sz:Nat) (e:α→SV) (l:List α) (i:Int):Sy.Spec Tryz.prog 35 [.sl sz e l,Aa i] [] (Ad (Ag i l.length)) []:=Ab Γ hm 100 F35 Tryz.ntmps35 rfl fun F hF=>by
 ((conv=>whnf);repeat((first|refine aF ?_|refine aT ?_);(first|refine rG Γ hm ?_|refine rD Γ hm qq ?_);conv=>whnf))
 (repeat' (first | (refine⟨fun h=>?_,fun h=>?_⟩<;>(repeat (first | simp only[Ag]at h | simp only[decide_eq_true_eq]at h | simp only[decide_eq_false_iff_not]at h | simp only[beq_iff_eq]at h | simp only[beq_eq_false_iff_ne]at h | simp only[bne_iff_ne]at h | simp only[bne_eq_false_iff_eq]at h | simp only[Bool.and_eq_true]at h | simp only[Bool.or_eq_true]at h | simp only[Bool.and_eq_false_iff]at h | simp only[Bool.or_eq_false_iff]at h | simp only[Bool.not_eq_true']at h | simp only[Bool.not_eq_false']at h | simp only[Bool.not_eq_eq_eq_not]at h | simp only[Bool.not_true]at h | simp only[Bool.not_false]at h))<;>((first|refine rg ?_|refine rd qq ?_);(conv=>whnf);repeat((first|refine aF ?_|refine aT ?_);(first|refine rg ?_|refine rd qq ?_);(conv=>whnf)))) | (refine Ac rfl (.cons .tmp .nil) ?_ rfl) | (refine⟨qq,?_⟩;((conv=>whnf);repeat((first|refine aF ?_|refine aT ?_);(first|refine rg ?_|refine rd qq ?_);(conv=>whnf)))) | (refine⟨by (first | (unfold I64;omega) | omega | (simp only[Int.toNat_natCast];omega) | done),by (first | (unfold I64;omega) | omega | (simp only[Int.toNat_natCast];omega) | done),?_⟩;((conv=>whnf);repeat((first|refine aF ?_|refine aT ?_);(first|refine rg ?_|refine rd qq ?_);(conv=>whnf)))) | (refine⟨by (first | (unfold I64;omega) | omega | (simp only[Int.toNat_natCast];omega) | done),?_⟩;((conv=>whnf);repeat((first|refine aF ?_|refine aT ?_);(first|refine rg ?_|refine rd qq ?_);(conv=>whnf))))))
 all_goals (refine congrArg Ad ?_)
 all_goals grind [Ag]
theorem Vc {α:Type} (sz:Nat) (e:α→SV) (l:List α) (i:Int):Sy.Spec Tryz.prog 47 [.sl sz e l,Aa i] [] (Ad (Ag i l.length)) []:=Ab Γ hm 100 F47 Tryz.ntmps47 rfl fun F hF=>by
 ((conv=>whnf);repeat((first|refine aF ?_|refine aT ?_);(first|refine rG Γ hm ?_|refine rD Γ hm qq ?_);conv=>whnf))
 (repeat' (first | (refine⟨fun h=>?_,fun h=>?_⟩<;>(repeat (first | simp only[Ag]at h | simp only[decide_eq_true_eq]at h | simp only[decide_eq_false_iff_not]at h | simp only[beq_iff_eq]at h | simp only[beq_eq_false_iff_ne]at h | simp only[bne_iff_ne]at h | simp only[bne_eq_false_iff_eq]at h | simp only[Bool.and_eq_true]at h | simp only[Bool.or_eq_true]at h | simp only[Bool.and_eq_false_iff]at h | simp only[Bool.or_eq_false_iff]at h | simp only[Bool.not_eq_true']at h | simp only[Bool.not_eq_false']at h | simp only[Bool.not_eq_eq_eq_not]at h | simp only[Bool.not_true]at h | simp only[Bool.not_false]at h))<;>((first|refine rg ?_|refine rd qq ?_);(conv=>whnf);repeat((first|refine aF ?_|refine aT ?_);(first|refine rg ?_|refine rd qq ?_);(conv=>whnf)))) | (refine Ac rfl (.cons .tmp .nil) ?_ rfl) | (refine⟨qq,?_⟩;((conv=>whnf);repeat((first|refine aF ?_|refine aT ?_);(first|refine rg ?_|refine rd qq ?_);(conv=>whnf)))) | (refine⟨by (first | (unfold I64;omega) | omega | (simp only[Int.toNat_natCast];omega) | done),by (first | (unfold I64;omega) | omega | (simp only[Int.toNat_natCast];omega) | done),?_⟩;((conv=>whnf);repeat((first|refine aF ?_|refine aT ?_);(first|refine rg ?_|refine rd qq ?_);(conv=>whnf)))) | (refine⟨by (first | (unfold I64;omega) | omega | (simp only[Int.toNat_natCast];omega) | done),?_⟩;((conv=>whnf);repeat((first|refine aF ?_|refine aT ?_);(first|refine rg ?_|refine rd qq ?_);(conv=>whnf))))))
 all_goals (refine congrArg Ad ?_)
 all_goals grind [Ag]
theorem S3 {α:Type} (sz:Nat) (e:α→SV) (l:List α) (i:Int):Sy.Spec Tryz.prog 54 [.sl sz e l,Aa i] [] (Ad (Ag i l.length)) []:=Ab Γ hm 100 F54 Tryz.ntmps54 rfl fun F hF=>by
 ((conv=>whnf);repeat((first|refine aF ?_|refine aT ?_);(first|refine rG Γ hm ?_|refine rD Γ hm qq ?_);conv=>whnf))
 (repeat' (first | (refine⟨fun h=>?_,fun h=>?_⟩<;>(repeat (first | simp only[Ag]at h | simp only[decide_eq_true_eq]at h | simp only[decide_eq_false_iff_not]at h | simp only[beq_iff_eq]at h | simp only[beq_eq_false_iff_ne]at h | simp only[bne_iff_ne]at h | simp only[bne_eq_false_iff_eq]at h | simp only[Bool.and_eq_true]at h | simp only[Bool.or_eq_true]at h | simp only[Bool.and_eq_false_iff]at h | simp only[Bool.or_eq_false_iff]at h | simp only[Bool.not_eq_true']at h | simp only[Bool.not_eq_false']at h | simp only[Bool.not_eq_eq_eq_not]at h | simp only[Bool.not_true]at h | simp only[Bool.not_false]at h))<;>((first|refine rg ?_|refine rd qq ?_);(conv=>whnf);repeat((first|refine aF ?_|refine aT ?_);(first|refine rg ?_|refine rd qq ?_);(conv=>whnf)))) | (refine Ac rfl (.cons .tmp .nil) ?_ rfl) | (refine⟨qq,?_⟩;((conv=>whnf);repeat((first|refine aF ?_|refine aT ?_);(first|refine rg ?_|refine rd qq ?_);(conv=>whnf)))) | (refine⟨by (first | (unfold I64;omega) | omega | (simp only[Int.toNat_natCast];omega) | done),by (first | (unfold I64;omega) | omega | (simp only[Int.toNat_natCast];omega) | done),?_⟩;((conv=>whnf);repeat((first|refine aF ?_|refine aT ?_);(first|refine rg ?_|refine rd qq ?_);(conv=>whnf)))) | (refine⟨by (first | (unfold I64;omega) | omega | (simp only[Int.toNat_natCast];omega) | done),?_⟩;((conv=>whnf);repeat((first|refine aF ?_|refine aT ?_);(first|refine rg ?_|refine rd qq ?_);(conv=>whnf))))))
 all_goals (refine congrArg Ad ?_)
 all_goals grind [Ag]
theorem El {α:Type} (sz:Nat) (e:α→SV) (l:List α) (i:Int):Sy.Spec Tryz.prog 55 [.sl sz e l,Aa i] [] (Ad (Ag i l.length)) []:=Ab Γ hm 100 F55 Tryz.ntmps55 rfl fun F hF=>by
 ((conv=>whnf);repeat((first|refine aF ?_|refine aT ?_);(first|refine rG Γ hm ?_|refine rD Γ hm qq ?_);conv=>whnf))
 (repeat' (first | (refine⟨fun h=>?_,fun h=>?_⟩<;>(repeat (first | simp only[Ag]at h | simp only[decide_eq_true_eq]at h | simp only[decide_eq_false_iff_not]at h | simp only[beq_iff_eq]at h | simp only[beq_eq_false_iff_ne]at h | simp only[bne_iff_ne]at h | simp only[bne_eq_false_iff_eq]at h | simp only[Bool.and_eq_true]at h | simp only[Bool.or_eq_true]at h | simp only[Bool.and_eq_false_iff]at h | simp only[Bool.or_eq_false_iff]at h | simp only[Bool.not_eq_true']at h | simp only[Bool.not_eq_false']at h | simp only[Bool.not_eq_eq_eq_not]at h | simp only[Bool.not_true]at h | simp only[Bool.not_false]at h))<;>((first|refine rg ?_|refine rd qq ?_);(conv=>whnf);repeat((first|refine aF ?_|refine aT ?_);(first|refine rg ?_|refine rd qq ?_);(conv=>whnf)))) | (refine Ac rfl (.cons .tmp .nil) ?_ rfl) | (refine⟨qq,?_⟩;((conv=>whnf);repeat((first|refine aF ?_|refine aT ?_);(first|refine rg ?_|refine rd qq ?_);(conv=>whnf)))) | (refine⟨by (first | (unfold I64;omega) | omega | (simp only[Int.toNat_natCast];omega) | done),by (first | (unfold I64;omega) | omega | (simp only[Int.toNat_natCast];omega) | done),?_⟩;((conv=>whnf);repeat((first|refine aF ?_|refine aT ?_);(first|refine rg ?_|refine rd qq ?_);(conv=>whnf)))) | (refine⟨by (first | (unfold I64;omega) | omega | (simp only[Int.toNat_natCast];omega) | done),?_⟩;((conv=>whnf);repeat((first|refine aF ?_|refine aT ?_);(first|refine rg ?_|refine rd qq ?_);(conv=>whnf))))))
 all_goals (refine congrArg Ad ?_)
 all_goals grind [Ag]
theorem Cw {α:Type} (sz:Nat) (e:α→SV) (l:List α) (i:Int):Sy.Spec Tryz.prog 56 [.sl sz e l,Aa i] [] (Ad (Ag i l.length)) []:=Ab Γ hm 100 F56 Tryz.ntmps56 rfl fun F hF=>by
 ((conv=>whnf);repeat((first|refine aF ?_|refine aT ?_);(first|refine rG Γ hm ?_|refine rD Γ hm qq ?_);conv=>whnf))
 (repeat' (first | (refine⟨fun h=>?_,fun h=>?_⟩<;>(repeat (first | simp only[Ag]at h | simp only[decide_eq_true_eq]at h | simp only[decide_eq_false_iff_not]at h | simp only[beq_iff_eq]at h | simp only[beq_eq_false_iff_ne]at h | simp only[bne_iff_ne]at h | simp only[bne_eq_false_iff_eq]at h | simp only[Bool.and_eq_true]at h | simp only[Bool.or_eq_true]at h | simp only[Bool.and_eq_false_iff]at h | simp only[Bool.or_eq_false_iff]at h | simp only[Bool.not_eq_true']at h | simp only[Bool.not_eq_false']at h | simp only[Bool.not_eq_eq_eq_not]at h | simp only[Bool.not_true]at h | simp only[Bool.not_false]at h))<;>((first|refine rg ?_|refine rd qq ?_);(conv=>whnf);repeat((first|refine aF ?_|refine aT ?_);(first|refine rg ?_|refine rd qq ?_);(conv=>whnf)))) | (refine Ac rfl (.cons .tmp .nil) ?_ rfl) | (refine⟨qq,?_⟩;((conv=>whnf);repeat((first|refine aF ?_|refine aT ?_);(first|refine rg ?_|refine rd qq ?_);(conv=>whnf)))) | (refine⟨by (first | (unfold I64;omega) | omega | (simp only[Int.toNat_natCast];omega) | done),by (first | (unfold I64;omega) | omega | (simp only[Int.toNat_natCast];omega) | done),?_⟩;((conv=>whnf);repeat((first|refine aF ?_|refine aT ?_);(first|refine rg ?_|refine rd qq ?_);(conv=>whnf)))) | (refine⟨by (first | (unfold I64;omega) | omega | (simp only[Int.toNat_natCast];omega) | done),?_⟩;((conv=>whnf);repeat((first|refine aF ?_|refine aT ?_);(first|refine rg ?_|refine rd qq ?_);(conv=>whnf))))))
 all_goals (refine congrArg Ad ?_)
 all_goals grind [Ag]
theorem Vb {α:Type} (sz:Nat) (e:α→SV) (l:List α) (i:Int):Sy.Spec Tryz.prog 59 [.sl sz e l,Aa i] [] (Ad (Ag i l.length)) []:=Ab Γ hm 100 F59 Tryz.ntmps59 rfl fun F hF=>by
 ((conv=>whnf);repeat((first|refine aF ?_|refine aT ?_);(first|refine rG Γ hm ?_|refine rD Γ hm qq ?_);conv=>whnf))
 (repeat' (first | (refine⟨fun h=>?_,fun h=>?_⟩<;>(repeat (first | simp only[Ag]at h | simp only[decide_eq_true_eq]at h | simp only[decide_eq_false_iff_not]at h | simp only[beq_iff_eq]at h | simp only[beq_eq_false_iff_ne]at h | simp only[bne_iff_ne]at h | simp only[bne_eq_false_iff_eq]at h | simp only[Bool.and_eq_true]at h | simp only[Bool.or_eq_true]at h | simp only[Bool.and_eq_false_iff]at h | simp only[Bool.or_eq_false_iff]at h | simp only[Bool.not_eq_true']at h | simp only[Bool.not_eq_false']at h | simp only[Bool.not_eq_eq_eq_not]at h | simp only[Bool.not_true]at h | simp only[Bool.not_false]at h))<;>((first|refine rg ?_|refine rd qq ?_);(conv=>whnf);repeat((first|refine aF ?_|refine aT ?_);(first|refine rg ?_|refine rd qq ?_);(conv=>whnf)))) | (refine Ac rfl (.cons .tmp .nil) ?_ rfl) | (refine⟨qq,?_⟩;((conv=>whnf);repeat((first|refine aF ?_|refine aT ?_);(first|refine rg ?_|refine rd qq ?_);(conv=>whnf)))) | (refine⟨by (first | (unfold I64;omega) | omega | (simp only[Int.toNat_natCast];omega) | done),by (first | (unfold I64;omega) | omega | (simp only[Int.toNat_natCast];omega) | done),?_⟩;((conv=>whnf);repeat((first|refine aF ?_|refine aT ?_);(first|refine rg ?_|refine rd qq ?_);(conv=>whnf)))) | (refine⟨by (first | (unfold I64;omega) | omega | (simp only[Int.toNat_natCast];omega) | done),?_⟩;((conv=>whnf);repeat((first|refine aF ?_|refine aT ?_);(first|refine rg ?_|refine rd qq ?_);(conv=>whnf))))))
 all_goals (refine congrArg Ad ?_)
 all_goals grind [Ag]
theorem Zc (l:List Int) (x:Int) (hl:Am l):Sy.Spec Tryz.prog 52 [.sl 1 Aa l,Aa x] [] (Aa (Dn (· == x) l)) []:=Ab Γ hm 100 F52 Tryz.ntmps52 rfl fun F hF=>by
 unfold Am at hl
 ((conv=>whnf);repeat((first|refine aF ?_|refine aT ?_);(first|refine rG Γ hm ?_|refine rD Γ hm qq ?_);conv=>whnf))
 refine Bc l.length (fun j=>∀ i (h:i<l.length),i<j→(l[i] == x)=false) (fun j=>[(0,.sl 1 Aa l),(1,Aa x),(7,Aa l.length),(8,Aa j)]) (fun _=>[]) [] (fun i h hj=>absurd hj qn) ⟨⟨E,E,E,E,E,E,E,E,Y⟩,Y,E,E⟩ ?_
 intro j hj hI
 ((first|refine rG Γ hm ?_|refine rD Γ hm qq ?_);(conv=>whnf);repeat((first|refine aF ?_|refine aT ?_);(first|refine rG Γ hm ?_|refine rD Γ hm qq ?_);conv=>whnf))
 (repeat' (first | (refine⟨fun h=>?_,fun h=>?_⟩<;>(repeat (first | simp only[Ag]at h | simp only[decide_eq_true_eq]at h | simp only[decide_eq_false_iff_not]at h | simp only[beq_iff_eq]at h | simp only[beq_eq_false_iff_ne]at h | simp only[bne_iff_ne]at h | simp only[bne_eq_false_iff_eq]at h | simp only[Bool.and_eq_true]at h | simp only[Bool.or_eq_true]at h | simp only[Bool.and_eq_false_iff]at h | simp only[Bool.or_eq_false_iff]at h | simp only[Bool.not_eq_true']at h | simp only[Bool.not_eq_false']at h | simp only[Bool.not_eq_eq_eq_not]at h | simp only[Bool.not_true]at h | simp only[Bool.not_false]at h))<;>((first|refine rg ?_|refine rd qq ?_);(conv=>whnf);repeat((first|refine aF ?_|refine aT ?_);(first|refine rg ?_|refine rd qq ?_);(conv=>whnf)))) | (refine Ac rfl (.cons .tmp .nil) ?_ rfl) | (refine⟨qq,?_⟩;((conv=>whnf);repeat((first|refine aF ?_|refine aT ?_);(first|refine rg ?_|refine rd qq ?_);(conv=>whnf)))) | (refine⟨by (first | (unfold I64;omega) | omega | (simp only[Int.toNat_natCast];omega) | done),by (first | (unfold I64;omega) | omega | (simp only[Int.toNat_natCast];omega) | done),?_⟩;((conv=>whnf);repeat((first|refine aF ?_|refine aT ?_);(first|refine rg ?_|refine rd qq ?_);(conv=>whnf)))) | (refine⟨by (first | (unfold I64;omega) | omega | (simp only[Int.toNat_natCast];omega) | done),?_⟩;((conv=>whnf);repeat((first|refine aF ?_|refine aT ?_);(first|refine rg ?_|refine rd qq ?_);(conv=>whnf)))) | refine A9 [] hI qn ?_ ⟨⟨rfl,rfl,rfl,rfl,rfl,rfl,rfl,rfl,trivial⟩,trivial,rfl,rfl⟩))
 all_goals try (refine congrArg Aa ?_)
 ·exact Eh qn hI (by simpa using h.symm)
 ·intro i hi hij
  rcases Nat.lt_or_ge i j with h1 | h1
  ·exact hI i hi h1
  ·have:i=j:=by omega
   subst this
   simpa using Ne.symm h
 ·exact E5 (fun i hi=>hI i hi qn)
theorem Cb (l:List Int) (x:Int) (hl:Am l):Sy.Spec Tryz.prog 53 [.sl 1 Aa l,Aa x] [] (Ad (inB l x)) []:=Ab Γ hm 100 F53 Tryz.ntmps53 rfl fun F hF=>by
 ((conv=>whnf);repeat((first|refine aF ?_|refine aT ?_);(first|refine rG Γ hm ?_|refine rD Γ hm qq ?_);conv=>whnf))
 (repeat' (first | (refine⟨fun h=>?_,fun h=>?_⟩<;>(repeat (first | simp only[Ag]at h | simp only[decide_eq_true_eq]at h | simp only[decide_eq_false_iff_not]at h | simp only[beq_iff_eq]at h | simp only[beq_eq_false_iff_ne]at h | simp only[bne_iff_ne]at h | simp only[bne_eq_false_iff_eq]at h | simp only[Bool.and_eq_true]at h | simp only[Bool.or_eq_true]at h | simp only[Bool.and_eq_false_iff]at h | simp only[Bool.or_eq_false_iff]at h | simp only[Bool.not_eq_true']at h | simp only[Bool.not_eq_false']at h | simp only[Bool.not_eq_eq_eq_not]at h | simp only[Bool.not_true]at h | simp only[Bool.not_false]at h))<;>((first|refine rg ?_|refine rd qq ?_);(conv=>whnf);repeat((first|refine aF ?_|refine aT ?_);(first|refine rg ?_|refine rd qq ?_);(conv=>whnf)))) | (refine Ac rfl (.cons .tmp .nil) ?_ rfl) | (refine⟨qq,?_⟩;((conv=>whnf);repeat((first|refine aF ?_|refine aT ?_);(first|refine rg ?_|refine rd qq ?_);(conv=>whnf)))) | (refine⟨by (first | (unfold I64;omega) | omega | (simp only[Int.toNat_natCast];omega) | done),by (first | (unfold I64;omega) | omega | (simp only[Int.toNat_natCast];omega) | done),?_⟩;((conv=>whnf);repeat((first|refine aF ?_|refine aT ?_);(first|refine rg ?_|refine rd qq ?_);(conv=>whnf)))) | (refine⟨by (first | (unfold I64;omega) | omega | (simp only[Int.toNat_natCast];omega) | done),?_⟩;((conv=>whnf);repeat((first|refine aF ?_|refine aT ?_);(first|refine rg ?_|refine rd qq ?_);(conv=>whnf)))) | (refine Ah (Zc _ _ hl) F52 rfl rfl rfl rfl rfl ?_;((first|refine rg ?_|refine rd qq ?_);(conv=>whnf);repeat((first|refine aF ?_|refine aT ?_);(first|refine rg ?_|refine rd qq ?_);(conv=>whnf)))) | (refine An (Zc _ _ hl) F52 rfl rfl rfl qq rfl ?_;((first|refine rg ?_|refine rd qq ?_);(conv=>whnf);repeat((first|refine aF ?_|refine aT ?_);(first|refine rg ?_|refine rd qq ?_);(conv=>whnf))))))
 exact congrArg Ad (Abs _ _).symm
def J6 (p:Port) (v:Int):Bool:=v != 0 && (v == p.native || inB p.tagged v)
theorem T6 (p:Port) (v:Int) (hl:Am p.tagged):Sy.Spec Tryz.prog 57 [A3 p,Aa v] [] (Ad (J6 p v)) []:=Ab Γ hm 100 F57 Tryz.ntmps57 rfl fun F hF=>by
 ((conv=>whnf);repeat((first|refine aF ?_|refine aT ?_);(first|refine rG Γ hm ?_|refine rD Γ hm qq ?_);conv=>whnf))
 (repeat' (first | (refine⟨fun h=>?_,fun h=>?_⟩<;>(repeat (first | simp only[Ag]at h | simp only[decide_eq_true_eq]at h | simp only[decide_eq_false_iff_not]at h | simp only[beq_iff_eq]at h | simp only[beq_eq_false_iff_ne]at h | simp only[bne_iff_ne]at h | simp only[bne_eq_false_iff_eq]at h | simp only[Bool.and_eq_true]at h | simp only[Bool.or_eq_true]at h | simp only[Bool.and_eq_false_iff]at h | simp only[Bool.or_eq_false_iff]at h | simp only[Bool.not_eq_true']at h | simp only[Bool.not_eq_false']at h | simp only[Bool.not_eq_eq_eq_not]at h | simp only[Bool.not_true]at h | simp only[Bool.not_false]at h))<;>((first|refine rg ?_|refine rd qq ?_);(conv=>whnf);repeat((first|refine aF ?_|refine aT ?_);(first|refine rg ?_|refine rd qq ?_);(conv=>whnf)))) | (refine Ac rfl (.cons .tmp .nil) ?_ rfl) | (refine⟨qq,?_⟩;((conv=>whnf);repeat((first|refine aF ?_|refine aT ?_);(first|refine rg ?_|refine rd qq ?_);(conv=>whnf)))) | (refine⟨by (first | (unfold I64;omega) | omega | (simp only[Int.toNat_natCast];omega) | done),by (first | (unfold I64;omega) | omega | (simp only[Int.toNat_natCast];omega) | done),?_⟩;((conv=>whnf);repeat((first|refine aF ?_|refine aT ?_);(first|refine rg ?_|refine rd qq ?_);(conv=>whnf)))) | (refine⟨by (first | (unfold I64;omega) | omega | (simp only[Int.toNat_natCast];omega) | done),?_⟩;((conv=>whnf);repeat((first|refine aF ?_|refine aT ?_);(first|refine rg ?_|refine rd qq ?_);(conv=>whnf)))) | (refine Ah (Cb _ _ hl) F53 rfl rfl rfl rfl rfl ?_;((first|refine rg ?_|refine rd qq ?_);(conv=>whnf);repeat((first|refine aF ?_|refine aT ?_);(first|refine rg ?_|refine rd qq ?_);(conv=>whnf)))) | (refine An (Cb _ _ hl) F53 rfl rfl rfl qq rfl ?_;((first|refine rg ?_|refine rd qq ?_);(conv=>whnf);repeat((first|refine aF ?_|refine aT ?_);(first|refine rg ?_|refine rd qq ?_);(conv=>whnf))))))
 all_goals (refine congrArg Ad ?_)
 all_goals grind [J6]
def Uy (l:List Int) (least most:Int) (i:Nat) (x:Int):Bool:=decide (least≤x) && decide (x≤most) && (i == 0 || decide (nth l ((i:Int)-1)<x))
def Hv (l:List Int) (least most:Int):Bool:=decide (0<l.length) && decide (l.length≤16) && En (Uy l least most) l
theorem Vg (l:List Int) (least most:Int) (hl:Am l):Sy.Spec Tryz.prog 58 [.sl 1 Aa l,Aa least,Aa most] [] (Ad (Hv l least most)) []:=Ab Γ hm 100 F58 Tryz.ntmps58 rfl fun F hF=>by
 unfold Am at hl
 ((conv=>whnf);repeat((first|refine aF ?_|refine aT ?_);(first|refine rG Γ hm ?_|refine rD Γ hm qq ?_);conv=>whnf))
 refine Bc l.length (fun j=>Dy (Uy l least most) l j) (fun j=>[(0,.sl 1 Aa l),(1,Aa least),(2,Aa most),(9,.sl 1 Aa l),(10,Aa l.length),(11,Aa j)]) (fun _=>[]) [] (Bd _ _) ⟨⟨E,E,E,E,E,E,E,E,E,E,E,E,Y⟩,Y,E,E⟩ ?_
 intro j hj hI
 ((first|refine rG Γ hm ?_|refine rD Γ hm qq ?_);(conv=>whnf);repeat((first|refine aF ?_|refine aT ?_);(first|refine rG Γ hm ?_|refine rD Γ hm qq ?_);conv=>whnf))
 (repeat' (first | (refine⟨fun h=>?_,fun h=>?_⟩<;>(repeat (first | simp only[Ag]at h | simp only[decide_eq_true_eq]at h | simp only[decide_eq_false_iff_not]at h | simp only[beq_iff_eq]at h | simp only[beq_eq_false_iff_ne]at h | simp only[bne_iff_ne]at h | simp only[bne_eq_false_iff_eq]at h | simp only[Bool.and_eq_true]at h | simp only[Bool.or_eq_true]at h | simp only[Bool.and_eq_false_iff]at h | simp only[Bool.or_eq_false_iff]at h | simp only[Bool.not_eq_true']at h | simp only[Bool.not_eq_false']at h | simp only[Bool.not_eq_eq_eq_not]at h | simp only[Bool.not_true]at h | simp only[Bool.not_false]at h))<;>((first|refine rg ?_|refine rd qq ?_);(conv=>whnf);repeat((first|refine aF ?_|refine aT ?_);(first|refine rg ?_|refine rd qq ?_);(conv=>whnf)))) | (refine Ac rfl (.cons .tmp .nil) ?_ rfl) | (refine⟨qq,?_⟩;((conv=>whnf);repeat((first|refine aF ?_|refine aT ?_);(first|refine rg ?_|refine rd qq ?_);(conv=>whnf)))) | (refine⟨by (first | (unfold I64;omega) | omega | (simp only[Int.toNat_natCast];omega) | done),by (first | (unfold I64;omega) | omega | (simp only[Int.toNat_natCast];omega) | done),?_⟩;((conv=>whnf);repeat((first|refine aF ?_|refine aT ?_);(first|refine rg ?_|refine rd qq ?_);(conv=>whnf)))) | (refine⟨by (first | (unfold I64;omega) | omega | (simp only[Int.toNat_natCast];omega) | done),?_⟩;((conv=>whnf);repeat((first|refine aF ?_|refine aT ?_);(first|refine rg ?_|refine rd qq ?_);(conv=>whnf)))) | refine A9 [] hI qn ?_ ⟨⟨rfl,rfl,rfl,rfl,rfl,rfl,rfl,rfl,rfl,rfl,rfl,rfl,trivial⟩,trivial,rfl,rfl⟩))
 all_goals try (refine congrArg Ad ?_)
 all_goals try simp only[Int.toNat_natCast,Int.pred_toNat]at *
 ·rw[Hv,B7 (i:=j) qn (by simp[Uy];omega)];simp
 ·rw[Hv,B7 (i:=j) qn (by simp[Uy];omega)];simp
 ·rw[Hv,B7 (i:=j) qn (by simp only[Uy,Ao (show ((j:Int)-1).toNat<l.length by omega),Int.pred_toNat,Int.toNat_natCast];simp;omega)];simp
 ·exact Ba hI qn (by simp only[Uy,Ao (show ((j:Int)-1).toNat<l.length by omega),Int.pred_toNat,Int.toNat_natCast];simp;omega)
 ·exact Ba hI qn (by simp[Uy];omega)
 ·rw[Hv,Dq hI qn,Bool.eq_iff_iff];simp;omega
 ·rw[Hv];simp;omega
theorem Lt (l:List Int) (most:Int) (hl:Am l):Sy.Spec Tryz.prog 38 [.sl 1 Aa l,Aa most] [] (Ad (decide (l.length=0) || Hv l 1 most)) []:=Ab Γ hm 100 F38 Tryz.ntmps38 rfl fun F hF=>by
 ((conv=>whnf);repeat((first|refine aF ?_|refine aT ?_);(first|refine rG Γ hm ?_|refine rD Γ hm qq ?_);conv=>whnf))
 (repeat' (first | (refine⟨fun h=>?_,fun h=>?_⟩<;>(repeat (first | simp only[Ag]at h | simp only[decide_eq_true_eq]at h | simp only[decide_eq_false_iff_not]at h | simp only[beq_iff_eq]at h | simp only[beq_eq_false_iff_ne]at h | simp only[bne_iff_ne]at h | simp only[bne_eq_false_iff_eq]at h | simp only[Bool.and_eq_true]at h | simp only[Bool.or_eq_true]at h | simp only[Bool.and_eq_false_iff]at h | simp only[Bool.or_eq_false_iff]at h | simp only[Bool.not_eq_true']at h | simp only[Bool.not_eq_false']at h | simp only[Bool.not_eq_eq_eq_not]at h | simp only[Bool.not_true]at h | simp only[Bool.not_false]at h))<;>((first|refine rg ?_|refine rd qq ?_);(conv=>whnf);repeat((first|refine aF ?_|refine aT ?_);(first|refine rg ?_|refine rd qq ?_);(conv=>whnf)))) | (refine Ac rfl (.cons .tmp .nil) ?_ rfl) | (refine⟨qq,?_⟩;((conv=>whnf);repeat((first|refine aF ?_|refine aT ?_);(first|refine rg ?_|refine rd qq ?_);(conv=>whnf)))) | (refine⟨by (first | (unfold I64;omega) | omega | (simp only[Int.toNat_natCast];omega) | done),by (first | (unfold I64;omega) | omega | (simp only[Int.toNat_natCast];omega) | done),?_⟩;((conv=>whnf);repeat((first|refine aF ?_|refine aT ?_);(first|refine rg ?_|refine rd qq ?_);(conv=>whnf)))) | (refine⟨by (first | (unfold I64;omega) | omega | (simp only[Int.toNat_natCast];omega) | done),?_⟩;((conv=>whnf);repeat((first|refine aF ?_|refine aT ?_);(first|refine rg ?_|refine rd qq ?_);(conv=>whnf)))) | (refine Ah (Vg l 1 most hl) F58 rfl rfl rfl rfl rfl ?_;((first|refine rg ?_|refine rd qq ?_);(conv=>whnf);repeat((first|refine aF ?_|refine aT ?_);(first|refine rg ?_|refine rd qq ?_);(conv=>whnf)))) | (refine An (Vg l 1 most hl) F58 rfl rfl rfl qq rfl ?_;((first|refine rg ?_|refine rd qq ?_);(conv=>whnf);repeat((first|refine aF ?_|refine aT ?_);(first|refine rg ?_|refine rd qq ?_);(conv=>whnf))))))
 all_goals (refine congrArg Ad ?_)
 all_goals grind
end Go.Sy.YtnlacjgkdjnhmaaGreat
