/- Parts of a proof. -/
import Derived.Test.YtolnneiipmfgaaaGreatDoorYC3
import Derived.Test.YtolnneiipmfgaaaGreatDoorProg
import Derived.ProofKit
import Derived.OpenShut
import Derived.Lib.Join
set_option linter.all false
set_option linter.unusedVariables false
set_option linter.unusedSimpArgs false
set_option linter.deprecated false
namespace Go.Sy
mutual
def frb(d sz:Nat)(x:SV):SV→SV
 | .ptr k o=>bif Nat.beq k d then .ref sz x o else .ptr k o
 | .agg l=>.agg (Am3 d sz x l)
 | .tup l=>.tup (Am3 d sz x l)
 | .ifc t y=>.ifc t (frb d sz x y)
 | .clo f g l=>.clo f (Am3 d sz x g) (Am3 d sz x l)
 |y=>y
def Am3(d sz:Nat)(x:SV):List SV→List SV
 |[]=>[]
 |y::l=>frb d sz x y::Am3 d sz x l
end
mutual
theorem Au1{κ κ':Ka}{w:World}{K:Nat→Prop}{d sz:Nat}{x:SV}(st:Step K κ w κ' w)(hx:∀o v,Rd κ w (.ptr d o) v→Rd κ' w (.ref sz x o) v):∀(y:SV) (v:Value),Rd κ w y v→Rd κ' w (frb d sz x y) v
 | .ptr k o,v,h=>by
  unfold frb;by_cases hk:k=d
  ·subst hk;rw[show Nat.beq k k=true from tN k];exact hx o v h
  ·rw[show Nat.beq k d=false from by cases hb:Nat.beq k d with|false=>rfl|true=>exact yB (yJ hb) hk];exact Rd.step st _ _ h
 | .agg l,v,h=>by
  simp only[Rd]at h;unfold frb;simp only[Rd];obtain ⟨cs,h1,h2,h3⟩:=h;exact⟨cs,h1,h2,W4 st hx l cs h3⟩
 | .tup l,v,h=>by
  simp only[Rd]at h;unfold frb;simp only[Rd];obtain ⟨cs,h1,h3⟩:=h;exact⟨cs,h1,W4 st hx l cs h3⟩
 | .ifc t y,v,h=>by
  simp only[Rd]at h;unfold frb;simp only[Rd];obtain ⟨u,h1,h3⟩:=h;exact⟨u,h1,Au1 st hx y u h3⟩
 | .clo f g l,v,h=>by
  simp only[Rd]at h;unfold frb;simp only[Rd];obtain ⟨fs,cs,h1,h2,h3⟩:=h;exact⟨fs,cs,h1,W4 st hx g fs h2,W4 st hx l cs h3⟩
 | .top,v,h=>by unfold frb;exact Rd.step st _ _ h
 | .val u,v,h=>by unfold frb;exact Rd.step st _ _ h
 | .sl sz e l,v,h=>by unfold frb;exact Rd.step st _ _ h
 | .ref sz z o,v,h=>by unfold frb;exact Rd.step st _ _ h
 | .rpt k sz i o,v,h=>by unfold frb;exact Rd.step st _ _ h
 | .osl k,v,h=>by unfold frb;exact Rd.step st _ _ h
theorem W4{κ κ':Ka}{w:World}{K:Nat→Prop}{d sz:Nat}{x:SV}(st:Step K κ w κ' w)(hx:∀o v,Rd κ w (.ptr d o) v→Rd κ' w (.ref sz x o) v):∀(l:List SV) (vs:List Value),RdL κ w l vs→RdL κ' w (Am3 d sz x l) vs
 |[],vs,h=>by
  unfold Am3;simpa [RdL] using h
 |y::l,vs,h=>by
  simp only[RdL]at h;unfold Am3;simp only[RdL];obtain ⟨v,r,h1,h2,h3⟩:=h;exact⟨v,r,h1,Au1 st hx y v h2,W4 st hx l r h3⟩
end
def frbO(d sz:Nat)(x:SV):Ob→Ob
 | .box l=>.box (Am3 d sz x l)
 |o=>o
def Avs{κ κ':Ka}{w:World}{d sz:Nat}{l:List SV}{x:SV}(h:ObOK κ w d (.box l))(hl:cellsOf x=l)(hb:x.boxed=true)(_hd:Ss l=true)(bh:l.length=sz)(ho:∀b,b<w.heap.size→¬Own κ b→¬Own κ' b)(qz:∀b,(κ d).block? = some b→b<w.heap.size∧¬Own κ' b)(yo:x.data=true)(o:Nat)(v:Value)(hv:Rd κ w (.ptr d o) v):Rd κ' w (.ref sz x o) v:=by
 obtain ⟨b,cs,T,fr,e1,e2,e3,e4,e5⟩:=h;simp only[Rd,e1]at hv;obtain ⟨h1,h2⟩:=qz b (by rw[e1];rfl);rw[←hl]at e5;obtain ⟨u,f1,f2⟩:=Rd.of_cells hb e4 e5;simp only[Rd,RdD];refine⟨b,0,u,by rw[wH];exact hv,h2,h1,RdD.keep ⟨yD _,λ_ _ _=>rfl,ho⟩ _ _ (Rd.data _ _ yo f1),?_,by rw[f2];exact e4,λj hj=>?_⟩
 ·have:=e5.length;rw[←bh,←hl,←this,←f2];simp
 ·rw[wH,cell_of_row w b _ cs.toArray T fr e2,←f2]
def Ba{C:Cx}{k:List KI}{s:SS}(d sz:Nat)(x:SV){l:List SV}(h:s.h d=.box l)(hl:cellsOf x=l)(hc:(x.boxed&&x.data&&Ss l&&Nat.beq l.length sz)=true)(hg:G C k ⟨λi=>frb d sz x (s.σ i),λj=>bif Nat.beq j d then .non else frbO d sz x (s.h j)⟩):G C k s:=λκ a w hs=>by
 simp only[zG]at hc;obtain ⟨⟨⟨hb,yo⟩,hd⟩,bh⟩:=hc;have bh:=yJ bh;have cn:=hs.obj d;rw[h]at cn;have st:=J4 (κ:=κ) (w:=w) (some d);have inv:=Lz hs.inv (some d);have hx:∀o v,Rd κ w (.ptr d o) v→Rd (Ei κ d .dead) w (.ref sz x o) v:=λo v hv=>
  Avs cn hl hb hd bh st.keeps.out (λ b hb=>⟨hs.inv.bnd d b hb,by
   rintro (⟨q,hq⟩|hq)
   ·by_cases vy:q=d
    ·subst vy;change (Ei κ q .dead q).block? = some b at hq;rw[Ay]at hq;cases hq
    ·change (Ei κ d .dead q).block? = some b at hq;rw[Cd _ _ vy]at hq;exact vy (hs.inv.inj q d b hq hb)
   ·exact hs.inv.apart d b hb hq⟩) yo o v hv
 refine hg (Ei κ d .dead) a w ⟨hs.defers,hs.size,inv,hs.ctx.step inv st,λj=>Au1 st hx _ _ (hs.slot j),λj=>?_⟩;show ObOK _ w j (bif Nat.beq j d then .non else frbO d sz x (s.h j));by_cases hj:j=d
 ·subst hj;rw[show Nat.beq j j=true from tN j];trivial
 ·rw[show Nat.beq j d=false from by cases hb:Nat.beq j d with|false=>rfl|true=>exact yB (yJ hb) hj];have hb:=ObOK.step st (λe=>hj (Option.some.inj e).symm) _ (hs.obj j);have h0:=hs.obj j;show ObOK _ w j (frbO d sz x (s.h j));cases hh:s.h j with
  |box m=>
   rw[hh]at h0 hb;obtain ⟨b,cs,T,fr,e1,e2,e3,e4,e5⟩:=h0;exact⟨b,cs,T,fr,by show Ei κ d .dead j=_;rw[Cd _ _ hj];exact e1,e2,e3,e4,W4 st hx m cs e5⟩
  |fresh=>rw[hh]at hb;exact hb
  |non=>rw[hh]at hb;exact hb
  |row dy e' l'=>rw[hh]at hb;exact hb
  |lit dy svs=>rw[hh]at hb;exact hb
  |glob dy x' g'=>rw[hh]at hb;exact hb
  |pin b' n' du dy e' l'=>rw[hh]at hb;exact hb
  |dat v' dy e' l'=>rw[hh]at hb;exact hb
  |trow T' m'=>rw[hh]at hb;exact hb
  |rown dy e' l' i' za=>rw[hh]at hb;exact hb
  |tbox T' m'=>rw[hh]at hb;exact hb
def An{C:Cx}{k:List KI}{s:SS}(d sz:Nat){α:Type}(e:α→SV)(h:s.σ d=.val (.slice none 0 0))(hg:G C k ⟨upd s.σ d (.sl sz e []),s.h⟩):G C k s :=
 G_set d (λ κ w v hv=>by
  rw[h]at hv;simp only[Rd]at hv;simp only[Rd,RdD];exact .inl ⟨Y,none,0,hv⟩) hg
end Go.Sy
namespace Go.Sy.YtolnneiipmfgaaaGreatDoor
open Go.Proofs Go.Proofs.Tryz
set_option maxRecDepth 100000
def ndO{α:Type}{f:Nat→Option α}{k:Nat}{v:α}{l r:Tr α}(h:f k=some v)(hl:l.all (λt i=>f t=some i))(hr:r.all (λt i=>f t=some i)):(Tr.nd k v l r).all (λt i=>f t=some i):=⟨h,hl,hr⟩
abbrev Ae:Value:=.int .i64 0
abbrev Ar:Value:=.slice none 0 0
abbrev In:Value:=.string .empty
def tab:Tr TI:=(.nd 163 (⟨.struct [(0,1),(1,1),(2,1),(3,1)],4,[Ae,Ae,Ae,.int .u64 0]⟩) (.nd 74 (⟨.struct [(0,1),(1,1),(2,1),(3,1)],4,[Ae,In,Ar,Ar]⟩) (.nd 32 (⟨.slice 153 6 64 [Ae,Ae,Ae,Ae,Ae,Ar],1,[Ar]⟩) (.nd 22 (⟨.slice 5 1 1 [.int .u8 0],1,[Ar]⟩) (.nd 5 (⟨.int .u8,1,[.int .u8 0]⟩) (.nd 3 (⟨.int .i64,1,[Ae]⟩) (.nd 2 (⟨.int .i64,1,[Ae]⟩) (.nd 1 (⟨.func,1,[.nilFunc]⟩) .lf .lf) .lf) (.nd 4 (⟨.bool,1,[.bool false]⟩) .lf .lf)) (.nd 13 (⟨.struct [(0,1),(1,1)],2,[In,.int .u64 0]⟩) (.nd 9 (⟨.string,1,[In]⟩) .lf .lf) (.nd 20 (⟨.iface,1,[.nilIface]⟩) .lf .lf))) (.nd 27 (⟨.struct [(0,1),(1,1),(2,1),(3,1),(4,1),(5,1),(6,1)],7,[Ae,Ae,Ae,Ae,Ae,Ae,Ar]⟩) (.nd 25 (⟨.slice 48 6 80 [Ae,Ae,Ae,Ae,Ar,Ar],1,[Ar]⟩) (.nd 24 (⟨.int .i64,1,[Ae]⟩) .lf .lf) (.nd 26 (⟨.struct [(0,1),(1,1),(2,1),(3,1),(4,1),(5,1),(6,1)],7,[Ae,Ae,Ae,Ae,Ae,Ae,Ar]⟩) .lf .lf)) (.nd 30 (⟨.slice 83 7 80 [Ae,Ae,Ae,Ae,Ae,In,Ar],1,[Ar]⟩) (.nd 29 (⟨.slice 170 5 48 [Ae,Ae,In,.int .u64 0,.int .u32 0],1,[Ar]⟩) .lf .lf) (.nd 31 (⟨.slice 159 3 24 [Ae,Ae,Ae],1,[Ar]⟩) .lf .lf)))) (.nd 46 (⟨.slice 4 1 1 [.bool false],1,[Ar]⟩) (.nd 36 (⟨.slice 181 5 40 [Ae,Ae,Ae,.int .u32 0,Ae],1,[Ar]⟩) (.nd 34 (⟨.slice 167 4 48 [Ae,Ae,Ae,Ar],1,[Ar]⟩) (.nd 33 (⟨.slice 163 4 32 [Ae,Ae,Ae,.int .u64 0],1,[Ar]⟩) .lf .lf) (.nd 35 (⟨.slice 174 5 80 [Ae,Ae,In,Ar,Ar],1,[Ar]⟩) .lf .lf)) (.nd 41 (⟨.slice 45 3 40 [Ae,Ae,Ar],1,[Ar]⟩) (.nd 38 (⟨.struct [(0,1),(1,1),(2,1),(3,1),(4,1),(5,1),(6,1),(7,1)],8,[Ar,Ar,Ar,Ar,Ar,Ar,Ar,Ar]⟩) .lf .lf) (.nd 45 (⟨.struct [(0,1),(1,1),(2,1)],3,[Ae,Ae,Ar]⟩) .lf .lf))) (.nd 61 (⟨.slice 100 17 240 [Ae,Ae,In,In,In,In,In,.int .u64 0,.int .u32 0,Ae,Ae,Ae,Ae,Ar,Ar,Ar,Ar],1,[Ar]⟩) (.nd 51 (⟨.slice 74 4 72 [Ae,In,Ar,Ar],1,[Ar]⟩) (.nd 48 (⟨.struct [(0,1),(1,1),(2,1),(3,1),(4,1),(5,1)],6,[Ae,Ae,Ae,Ae,Ar,Ar]⟩) .lf .lf) (.nd 54 (⟨.slice 3 1 8 [Ae],1,[Ar]⟩) .lf .lf)) (.nd 69 (⟨.slice 9 1 16 [In],1,[Ar]⟩) (.nd 65 (⟨.ptr,1,[.pointer none]⟩) .lf .lf) (.nd 71 (⟨.func,1,[.nilFunc]⟩) .lf .lf))))) (.nd 124 (⟨.struct [(0,1),(1,3),(4,1)],5,[Ar,.int .u32 0,.int .i32 0,.int .u32 0,Ar]⟩) (.nd 98 (⟨.slice 94 1 4 [.int .u32 0],1,[Ar]⟩) (.nd 90 (⟨.slice 138 7 72 [Ae,Ae,Ae,.int .u64 0,.int .u64 0,Ae,Ar],1,[Ar]⟩) (.nd 85 (⟨.slice 96 4 32 [Ae,Ae,Ae,.int .u32 0],1,[Ar]⟩) (.nd 83 (⟨.struct [(0,1),(1,1),(2,1),(3,1),(4,1),(5,1),(6,1)],7,[Ae,Ae,Ae,Ae,Ae,In,Ar]⟩) (.nd 79 (⟨.func,1,[.nilFunc]⟩) .lf .lf) .lf) (.nd 89 (⟨.func,1,[.nilFunc]⟩) .lf .lf)) (.nd 96 (⟨.struct [(0,1),(1,1),(2,1),(3,1)],4,[Ae,Ae,Ae,.int .u32 0]⟩) (.nd 94 (⟨.int .u32,1,[.int .u32 0]⟩) .lf .lf) (.nd 97 (⟨.int .u64,1,[.int .u64 0]⟩) .lf .lf))) (.nd 112 (⟨.struct [(0,0),(0,2)],2,[.int .i32 0,.int .u32 0]⟩) (.nd 103 (⟨.ptr,1,[.pointer none]⟩) (.nd 100 (⟨.struct [(0,1),(1,1),(2,1),(3,1),(4,1),(5,1),(6,1),(7,1),(8,1),(9,1),(10,1),(11,1),(12,1),(13,1),(14,1),(15,1),(16,1)],17,[Ae,Ae,In,In,In,In,In,.int .u64 0,.int .u32 0,Ae,Ae,Ae,Ae,Ar,Ar,Ar,Ar]⟩) .lf .lf) (.nd 108 (⟨.struct [(0,0),(0,1)],1,[.int .u32 0]⟩) .lf .lf)) (.nd 116 (⟨.struct [(0,3),(3,1),(4,8),(12,1),(13,1)],14,[.int .u32 0,.int .i32 0,.int .u32 0,Ar,Ar,Ar,Ar,Ar,Ar,Ar,Ar,Ar,Ae,Ae]⟩) (.nd 114 (⟨.struct [(0,0),(0,1),(1,2)],3,[.int .u32 0,.int .i32 0,.int .u32 0]⟩) .lf .lf) (.nd 122 (⟨.ptr,1,[.pointer none]⟩) .lf .lf)))) (.nd 145 (⟨.func,1,[.nilFunc]⟩) (.nd 130 (⟨.array 129 64 1,64,[Ae,Ae,Ae,Ae,Ae,Ae,Ae,Ae,Ae,Ae,Ae,Ae,Ae,Ae,Ae,Ae,Ae,Ae,Ae,Ae,Ae,Ae,Ae,Ae,Ae,Ae,Ae,Ae,Ae,Ae,Ae,Ae,Ae,Ae,Ae,Ae,Ae,Ae,Ae,Ae,Ae,Ae,Ae,Ae,Ae,Ae,Ae,Ae,Ae,Ae,Ae,Ae,Ae,Ae,Ae,Ae,Ae,Ae,Ae,Ae,Ae,Ae,Ae,Ae]⟩) (.nd 126 (⟨.slice 90 1 24 [Ar],1,[Ar]⟩) (.nd 125 (⟨.slice 249 1 24 [Ar],1,[Ar]⟩) .lf .lf) (.nd 129 (⟨.struct [(0,0),(0,0),(0,1)],1,[Ae]⟩) .lf .lf)) (.nd 136 (⟨.struct [(0,1),(1,1),(2,1),(3,1)],4,[.int .u64 0,.int .u64 0,Ae,Ar]⟩) (.nd 132 (⟨.struct [(0,8),(8,1),(9,1),(10,1),(11,1),(12,1),(13,64)],77,[Ar,Ar,Ar,Ar,Ar,Ar,Ar,Ar,.pointer none,Ar,Ar,Ae,Ae,Ae,Ae,Ae,Ae,Ae,Ae,Ae,Ae,Ae,Ae,Ae,Ae,Ae,Ae,Ae,Ae,Ae,Ae,Ae,Ae,Ae,Ae,Ae,Ae,Ae,Ae,Ae,Ae,Ae,Ae,Ae,Ae,Ae,Ae,Ae,Ae,Ae,Ae,Ae,Ae,Ae,Ae,Ae,Ae,Ae,Ae,Ae,Ae,Ae,Ae,Ae,Ae,Ae,Ae,Ae,Ae,Ae,Ae,Ae,Ae,Ae,Ae,Ae,Ae]⟩) .lf .lf) (.nd 138 (⟨.struct [(0,1),(1,1),(2,1),(3,4)],7,[Ae,Ae,Ae,.int .u64 0,.int .u64 0,Ae,Ar]⟩) .lf .lf))) (.nd 154 (⟨.func,1,[.nilFunc]⟩) (.nd 150 (⟨.struct [(0,8)],8,[Ar,Ar,Ar,Ar,Ar,Ar,Ar,Ar]⟩) (.nd 146 (⟨.array 9 2 1,2,[In,In]⟩) .lf .lf) (.nd 153 (⟨.struct [(0,1),(1,1),(2,1),(3,1),(4,1),(5,1)],6,[Ae,Ae,Ae,Ae,Ae,Ar]⟩) .lf .lf)) (.nd 159 (⟨.struct [(0,1),(1,1),(2,1)],3,[Ae,Ae,Ae]⟩) (.nd 156 (⟨.func,1,[.nilFunc]⟩) .lf .lf) (.nd 160 (⟨.func,1,[.nilFunc]⟩) .lf .lf)))))) (.nd 293 (⟨.struct [(0,1),(1,1),(2,1),(3,1),(4,1),(5,1),(6,1)],7,[Ae,Ae,Ae,Ae,.int .u32 0,.int .u32 0,Ar]⟩) (.nd 201 (⟨.func,1,[.nilFunc]⟩) (.nd 182 (⟨.func,1,[.nilFunc]⟩) (.nd 174 (⟨.struct [(0,1),(1,1),(2,1),(3,1),(4,1)],5,[Ae,Ae,In,Ar,Ar]⟩) (.nd 170 (⟨.struct [(0,1),(1,1),(2,1),(3,1),(4,1)],5,[Ae,Ae,In,.int .u64 0,.int .u32 0]⟩) (.nd 167 (⟨.struct [(0,1),(1,1),(2,1),(3,1)],4,[Ae,Ae,Ae,Ar]⟩) (.nd 164 (⟨.func,1,[.nilFunc]⟩) .lf .lf) .lf) (.nd 171 (⟨.func,1,[.nilFunc]⟩) .lf .lf)) (.nd 179 (⟨.struct [(0,1),(1,1)],2,[.int .u32 0,Ae]⟩) (.nd 176 (⟨.func,1,[.nilFunc]⟩) .lf .lf) (.nd 181 (⟨.struct [(0,1),(1,1),(2,1),(3,2)],5,[Ae,Ae,Ae,.int .u32 0,Ae]⟩) .lf .lf))) (.nd 192 (⟨.slice 199 7 56 [Ae,Ae,Ae,Ae,Ae,.int .u32 0,Ae],1,[Ar]⟩) (.nd 190 (⟨.ptr,1,[.pointer none]⟩) (.nd 183 (⟨.int .u64,1,[.int .u64 0]⟩) .lf .lf) (.nd 191 (⟨.array 46 2 1,2,[Ar,Ar]⟩) .lf .lf)) (.nd 197 (⟨.struct [(0,1),(1,1)],2,[Ae,Ae]⟩) (.nd 194 (⟨.struct [(0,8),(8,2),(10,1)],11,[Ar,Ar,Ar,Ar,Ar,Ar,Ar,Ar,Ar,Ar,Ar]⟩) .lf .lf) (.nd 199 (⟨.struct [(0,2),(2,4),(6,1)],7,[Ae,Ae,Ae,Ae,Ae,.int .u32 0,Ae]⟩) .lf .lf)))) (.nd 250 (⟨.slice 256 9 104 [Ae,Ae,Ae,Ar,.int .u64 0,.int .u64 0,Ae,Ar,Ae],1,[Ar]⟩) (.nd 221 (⟨.ptr,1,[.pointer none]⟩) (.nd 214 (⟨.struct [(0,1),(1,1),(2,1)],3,[Ar,Ae,Ae]⟩) (.nd 212 (⟨.ptr,1,[.pointer none]⟩) .lf .lf) (.nd 217 (⟨.func,1,[.nilFunc]⟩) .lf .lf)) (.nd 231 (⟨.ptr,1,[.pointer none]⟩) (.nd 223 (⟨.func,1,[.nilFunc]⟩) .lf .lf) (.nd 249 (⟨.slice 341 3 24 [.int .u64 0,Ae,Ae],1,[Ar]⟩) .lf .lf))) (.nd 278 (⟨.func,1,[.nilFunc]⟩) (.nd 263 (⟨.func,1,[.nilFunc]⟩) (.nd 256 (⟨.struct [(0,1),(1,1),(2,1),(3,1),(4,4),(8,1)],9,[Ae,Ae,Ae,Ar,.int .u64 0,.int .u64 0,Ae,Ar,Ae]⟩) .lf .lf) (.nd 276 (⟨.func,1,[.nilFunc]⟩) .lf .lf)) (.nd 286 (⟨.struct [(0,1),(1,1),(2,1)],3,[Ae,Ae,.int .u32 0]⟩) (.nd 283 (⟨.slice 286 3 24 [Ae,Ae,.int .u32 0],1,[Ar]⟩) .lf .lf) (.nd 290 (⟨.func,1,[.nilFunc]⟩) .lf .lf))))) (.nd 396 (⟨.struct [(0,8),(8,1),(9,1),(10,1),(11,1)],12,[Ar,Ar,Ar,Ar,Ar,Ar,Ar,Ar,Ar,Ae,Ae,Ar]⟩) (.nd 365 (⟨.ptr,1,[.pointer none]⟩) (.nd 343 (⟨.func,1,[.nilFunc]⟩) (.nd 320 (⟨.func,1,[.nilFunc]⟩) (.nd 319 (⟨.struct [(0,8),(8,1),(9,1),(10,1),(11,1)],12,[Ar,Ar,Ar,Ar,Ar,Ar,Ar,Ar,Ar,Ar,Ar,Ar]⟩) (.nd 312 (⟨.ptr,1,[.pointer none]⟩) .lf .lf) .lf) (.nd 341 (⟨.struct [(0,1),(1,1),(2,1)],3,[.int .u64 0,Ae,Ae]⟩) .lf .lf)) (.nd 362 (⟨.func,1,[.nilFunc]⟩) (.nd 346 (⟨.func,1,[.nilFunc]⟩) .lf .lf) (.nd 363 (⟨.ptr,1,[.pointer none]⟩) .lf .lf))) (.nd 382 (⟨.struct [(0,1),(1,1),(2,1)],3,[Ae,Ae,Ae]⟩) (.nd 377 (⟨.ptr,1,[.pointer none]⟩) (.nd 369 (⟨.slice 3 1 8 [Ae],1,[Ar]⟩) .lf .lf) (.nd 379 (⟨.slice 382 3 24 [Ae,Ae,Ae],1,[Ar]⟩) .lf .lf)) (.nd 387 (⟨.struct [(0,1),(1,1),(2,1),(3,1),(4,1)],5,[Ae,Ae,Ae,Ae,Ae]⟩) (.nd 385 (⟨.slice 387 5 40 [Ae,Ae,Ae,Ae,Ae],1,[Ar]⟩) .lf .lf) (.nd 391 (⟨.ptr,1,[.pointer none]⟩) .lf .lf)))) (.nd 444 (⟨.func,1,[.nilFunc]⟩) (.nd 422 (⟨.func,1,[.nilFunc]⟩) (.nd 410 (⟨.ptr,1,[.pointer none]⟩) (.nd 406 (⟨.struct [(0,8)],8,[Ar,Ar,Ar,Ar,Ar,Ar,Ar,Ar]⟩) .lf .lf) (.nd 412 (⟨.ptr,1,[.pointer none]⟩) .lf .lf)) (.nd 433 (⟨.struct [(0,8)],8,[Ar,Ar,Ar,Ar,Ar,Ar,Ar,Ar]⟩) (.nd 429 (⟨.ptr,1,[.pointer none]⟩) .lf .lf) (.nd 437 (⟨.array 3 2 1,2,[Ae,Ae]⟩) .lf .lf))) (.nd 470 (⟨.struct [(0,8),(8,1)],9,[Ae,Ae,Ae,Ae,.int .u32 0,.int .u32 0,Ar,Ae,Ae]⟩) (.nd 466 (⟨.ptr,1,[.pointer none]⟩) (.nd 447 (⟨.iface,1,[.nilIface]⟩) .lf .lf) (.nd 468 (⟨.struct [(0,7),(7,1)],8,[Ae,Ae,Ae,Ae,.int .u32 0,.int .u32 0,Ar,Ae]⟩) .lf .lf)) (.nd 492 (⟨.func,1,[.nilFunc]⟩) (.nd 489 (⟨.func,1,[.nilFunc]⟩) .lf .lf) (.nd 495 (⟨.array 3 4 1,4,[Ae,Ae,Ae,Ae]⟩) .lf .lf)))))))
def etab:Tr (List EK):=(.nd 197 ([.int .i64,.int .i64]) (.nd 163 ([.int .i64,.int .i64,.int .i64,.int .u64]) (.nd 159 ([.int .i64,.int .i64,.int .i64]) (.nd 96 ([.int .i64,.int .i64,.int .i64,.int .u32]) .lf .lf) .lf) (.nd 179 ([.int .u32,.int .i64]) (.nd 170 ([.int .i64,.int .i64,.string,.int .u64,.int .u32]) .lf .lf) .lf)) (.nd 382 ([.int .i64,.int .i64,.int .i64]) (.nd 341 ([.int .u64,.int .i64,.int .i64]) (.nd 286 ([.int .i64,.int .i64,.int .u32]) .lf .lf) .lf) (.nd 387 ([.int .i64,.int .i64,.int .i64,.int .i64,.int .i64]) .lf .lf)))
def tab_ok:tab.all (λt i=>tiOf prog t=some i):=by
 unfold tab
 repeat' (first|exact trivial|refine ndO z_ ?_ ?_)
def A7k:etab.all (λt i=>A41 prog t=some i):=by
 unfold etab
 repeat' (first|exact trivial|refine ndO z_ ?_ ?_)
def Γ:TyE prog:=⟨⟨λt=>tab.look t,λ_ _ h=>A6a (Tr.look_ok tab_ok h)⟩,λt=>etab.look t,λ_ _ h=>A40 (Tr.look_ok A7k h)⟩
def hm:prog.follows .mixedOrders=true:=by kernel_rfl
abbrev Sq:=Sy.Spec prog
abbrev Sp(f:FuncId)(A:List SV)(R:SV):Prop:=Sy.Spec prog f A [] R []
abbrev fT(i:Nat)(fn:Func):Prop:=Fun prog i fn (Ah0 fn)
def fN{P : Program}{f : FuncId}{fn : Func}(h : P.funcs[f]? = some fn)(hb : fn.body = some (Ah0 fn) := by exact rfl)(hn : (fn.name == "runtime.NumGoroutine") = false := by kernel_rfl) : Fun P f fn (Ah0 fn) := ⟨h, hb, hn⟩
def cT{f:FuncId}{fn:Func}{c:Code}{A:List SV}{H:Obs}{R:SV}{H':Obs}(hF:Fun prog f fn c){n:Nat}(mc:fn.ntmps=n)(h:∀(F:Fr) (hF:∀k,F.k0 k≠.new→k∈H.keys),O9 ⟨prog,Γ.toTy,F,n,Xm prog fn F R H',H.keys,hF⟩ Γ 100 [.code c] ⟨argσ A,mkh H⟩)(hn:Ap5 A n=true:=by exact rfl):Sy.Spec prog f A H R H':=Su Γ hm 100 hF mc hn h
def F3:fT 3 f3:=fN func3
def F4:fT 4 f4:=fN func4
def F5:fT 5 f5:=fN func5
def F6:fT 6 f6:=fN func6
def F7:fT 7 f7:=fN func7
def F8:fT 8 f8:=fN func8
def F9:fT 9 f9:=fN func9
def F10:fT 10 f10:=fN func10
def F11:fT 11 f11:=fN func11
def F12:fT 12 f12:=fN func12
def F13:fT 13 f13:=fN func13
def F14:fT 14 f14:=fN func14
def F15:fT 15 f15:=fN func15
def F16:fT 16 f16:=fN func16
def F17:fT 17 f17:=fN func17
def F18:fT 18 f18:=fN func18
def F19:fT 19 f19:=fN func19
def F20:fT 20 f20:=fN func20
def F21:fT 21 f21:=fN func21
def F22:fT 22 f22:=fN func22
def F23:fT 23 f23:=fN func23
def F24:fT 24 f24:=fN func24
def F25:fT 25 f25:=fN func25
def F26:fT 26 f26:=fN func26
def F27:fT 27 f27:=fN func27
def F28:fT 28 f28:=fN func28
def F29:fT 29 f29:=fN func29
def F30:fT 30 f30:=fN func30
def F31:fT 31 f31:=fN func31
def F32:fT 32 f32:=fN func32
def F34:fT 34 f34:=fN func34
def F35:fT 35 f35:=fN func35
def F36:fT 36 f36:=fN func36
def F37:fT 37 f37:=fN func37
def F38:fT 38 f38:=fN func38
def F39:fT 39 f39:=fN func39
def F40:fT 40 f40:=fN func40
def F41:fT 41 f41:=fN func41
def F42:fT 42 f42:=fN func42
def F43:fT 43 f43:=fN func43
def F44:fT 44 f44:=fN func44
def F45:fT 45 f45:=fN func45
def F46:fT 46 f46:=fN func46
def F47:fT 47 f47:=fN func47
def F48:fT 48 f48:=fN func48
def F49:fT 49 f49:=fN func49
def F50:fT 50 f50:=fN func50
def F51:fT 51 f51:=fN func51
def F52:fT 52 f52:=fN func52
def F53:fT 53 f53:=fN func53
def F54:fT 54 f54:=fN func54
def F55:fT 55 f55:=fN func55
def F56:fT 56 f56:=fN func56
def F57:fT 57 f57:=fN func57
def F58:fT 58 f58:=fN func58
def F59:fT 59 f59:=fN func59
def F60:fT 60 f60:=fN func60
def F61:fT 61 f61:=fN func61
def F62:fT 62 f62:=fN func62
def F63:fT 63 f63:=fN func63
def F64:fT 64 f64:=fN func64
def F65:fT 65 f65:=fN func65
def F66:fT 66 f66:=fN func66
def F67:fT 67 f67:=fN func67
def F68:fT 68 f68:=fN func68
def F69:fT 69 f69:=fN func69
def F70:fT 70 f70:=fN func70
def F71:fT 71 f71:=fN func71
def F72:fT 72 f72:=fN func72
def F73:fT 73 f73:=fN func73
def F74:fT 74 f74:=fN func74
def F75:fT 75 f75:=fN func75
def F76:fT 76 f76:=fN func76
def F77:fT 77 f77:=fN func77
def F78:fT 78 f78:=fN func78
def F79:fT 79 f79:=fN func79
def F80:fT 80 f80:=fN func80
def F81:fT 81 f81:=fN func81
def F82:fT 82 f82:=fN func82
def F83:fT 83 f83:=fN func83
def F84:fT 84 f84:=fN func84
def F85:fT 85 f85:=fN func85
def F86:fT 86 f86:=fN func86
def F87:fT 87 f87:=fN func87
def F88:fT 88 f88:=fN func88
def F89:fT 89 f89:=fN func89
def F90:fT 90 f90:=fN func90
def F91:fT 91 f91:=fN func91
def F92:fT 92 f92:=fN func92
def F93:fT 93 f93:=fN func93
def F94:fT 94 f94:=fN func94
def F95:fT 95 f95:=fN func95
def F96:fT 96 f96:=fN func96
def F97:fT 97 f97:=fN func97
def F98:fT 98 f98:=fN func98
def F99:fT 99 f99:=fN func99
def F100:fT 100 f100:=fN func100
def F101:fT 101 f101:=fN func101
def F102:fT 102 f102:=fN func102
def F103:fT 103 f103:=fN func103
def F104:fT 104 f104:=fN func104
def F105:fT 105 f105:=fN func105
def F106:fT 106 f106:=fN func106
def F107:fT 107 f107:=fN func107
def F108:fT 108 f108:=fN func108
def F109:fT 109 f109:=fN func109
def F110:fT 110 f110:=fN func110
def F111:fT 111 f111:=fN func111
def F112:fT 112 f112:=fN func112
def F113:fT 113 f113:=fN func113
def F114:fT 114 f114:=fN func114
def F115:fT 115 f115:=fN func115
def F116:fT 116 f116:=fN func116
def F117:fT 117 f117:=fN func117
def F118:fT 118 f118:=fN func118
def F119:fT 119 f119:=fN func119
def F121:fT 121 f121:=fN func121
def F122:fT 122 f122:=fN func122
def F123:fT 123 f123:=fN func123
def F124:fT 124 f124:=fN func124
def F125:fT 125 f125:=fN func125
def F126:fT 126 f126:=fN func126
def F127:fT 127 f127:=fN func127
def F128:fT 128 f128:=fN func128
def F129:fT 129 f129:=fN func129
def F130:fT 130 f130:=fN func130
def F131:fT 131 f131:=fN func131
def F132:fT 132 f132:=fN func132
def F133:fT 133 f133:=fN func133
def F135:fT 135 f135:=fN func135
def F136:fT 136 f136:=fN func136
def F137:fT 137 f137:=fN func137
def F138:fT 138 f138:=fN func138
def F139:fT 139 f139:=fN func139
def F140:fT 140 f140:=fN func140
def F141:fT 141 f141:=fN func141
def F142:fT 142 f142:=fN func142
def F143:fT 143 f143:=fN func143
def F144:fT 144 f144:=fN func144
def F145:fT 145 f145:=fN func145
def F146:fT 146 f146:=fN func146
def F147:fT 147 f147:=fN func147
def F148:fT 148 f148:=fN func148
def F149:fT 149 f149:=fN func149
def F150:fT 150 f150:=fN func150
def F151:fT 151 f151:=fN func151
def F152:fT 152 f152:=fN func152
def F153:fT 153 f153:=fN func153
def F154:fT 154 f154:=fN func154
def F155:fT 155 f155:=fN func155
def F156:fT 156 f156:=fN func156
def F157:fT 157 f157:=fN func157
def F158:fT 158 f158:=fN func158
def F160:fT 160 f160:=fN func160
def F161:fT 161 f161:=fN func161
def F162:fT 162 f162:=fN func162
def F163:fT 163 f163:=fN func163
def F164:fT 164 f164:=fN func164
def F165:fT 165 f165:=fN func165
def F166:fT 166 f166:=fN func166
def F167:fT 167 f167:=fN func167
def F168:fT 168 f168:=fN func168
def F169:fT 169 f169:=fN func169
def F170:fT 170 f170:=fN func170
def F171:fT 171 f171:=fN func171
def F172:fT 172 f172:=fN func172
def F173:fT 173 f173:=fN func173
def F174:fT 174 f174:=fN func174
def F175:fT 175 f175:=fN func175
def F176:fT 176 f176:=fN func176
def F177:fT 177 f177:=fN func177
def F178:fT 178 f178:=fN func178
def F179:fT 179 f179:=fN func179
def F180:fT 180 f180:=fN func180
def F181:fT 181 f181:=fN func181
def F182:fT 182 f182:=fN func182
def F183:fT 183 f183:=fN func183
def F184:fT 184 f184:=fN func184
def F185:fT 185 f185:=fN func185
def F186:fT 186 f186:=fN func186
def F187:fT 187 f187:=fN func187
def F188:fT 188 f188:=fN func188
def F189:fT 189 f189:=fN func189
def F190:fT 190 f190:=fN func190
def F191:fT 191 f191:=fN func191
def F192:fT 192 f192:=fN func192
def F193:fT 193 f193:=fN func193
def F194:fT 194 f194:=fN func194
def F195:fT 195 f195:=fN func195
def F196:fT 196 f196:=fN func196
def F198:fT 198 f198:=fN func198
def F199:fT 199 f199:=fN func199
def F200:fT 200 f200:=fN func200
def F201:fT 201 f201:=fN func201
def F202:fT 202 f202:=fN func202
def F203:fT 203 f203:=fN func203
def F204:fT 204 f204:=fN func204
def F205:fT 205 f205:=fN func205
def F206:fT 206 f206:=fN func206
def F207:fT 207 f207:=fN func207
def F208:fT 208 f208:=fN func208
def F209:fT 209 f209:=fN func209
def F210:fT 210 f210:=fN func210
def F211:fT 211 f211:=fN func211
def F212:fT 212 f212:=fN func212
def F213:fT 213 f213:=fN func213
def F214:fT 214 f214:=fN func214
def F215:fT 215 f215:=fN func215
def F216:fT 216 f216:=fN func216
def F218:fT 218 f218:=fN func218
def F219:fT 219 f219:=fN func219
def F220:fT 220 f220:=fN func220
def F221:fT 221 f221:=fN func221
def F226:fT 226 f226:=fN func226
def F227:fT 227 f227:=fN func227
def F228:fT 228 f228:=fN func228
def F229:fT 229 f229:=fN func229
def F230:fT 230 f230:=fN func230
def F231:fT 231 f231:=fN func231
def F232:fT 232 f232:=fN func232
def F233:fT 233 f233:=fN func233
def F234:fT 234 f234:=fN func234
def F235:fT 235 f235:=fN func235
def F236:fT 236 f236:=fN func236
def F237:fT 237 f237:=fN func237
def F238:fT 238 f238:=fN func238
def F239:fT 239 f239:=fN func239
def F240:fT 240 f240:=fN func240
def F241:fT 241 f241:=fN func241
def F242:fT 242 f242:=fN func242
def F243:fT 243 f243:=fN func243
def F244:fT 244 f244:=fN func244
def F245:fT 245 f245:=fN func245
def F246:fT 246 f246:=fN func246
def F247:fT 247 f247:=fN func247
def F248:fT 248 f248:=fN func248
def F249:fT 249 f249:=fN func249
def F250:fT 250 f250:=fN func250
def F251:fT 251 f251:=fN func251
def F252:fT 252 f252:=fN func252
def F253:fT 253 f253:=fN func253
def F254:fT 254 f254:=fN func254
def F255:fT 255 f255:=fN func255
def F256:fT 256 f256:=fN func256
def F257:fT 257 f257:=fN func257
def F258:fT 258 f258:=fN func258
def F259:fT 259 f259:=fN func259
def F260:fT 260 f260:=fN func260
def F261:fT 261 f261:=fN func261
def F262:fT 262 f262:=fN func262
def F263:fT 263 f263:=fN func263
def F264:fT 264 f264:=fN func264
def F265:fT 265 f265:=fN func265
def F266:fT 266 f266:=fN func266
def F267:fT 267 f267:=fN func267
def F268:fT 268 f268:=fN func268
def F269:fT 269 f269:=fN func269
def F271:fT 271 f271:=fN func271
def F272:fT 272 f272:=fN func272
def F273:fT 273 f273:=fN func273
def F274:fT 274 f274:=fN func274
def F279:fT 279 f279:=fN func279
def F280:fT 280 f280:=fN func280
def F281:fT 281 f281:=fN func281
def F282:fT 282 f282:=fN func282
def F283:fT 283 f283:=fN func283
def F284:fT 284 f284:=fN func284
def F293:fT 293 f293:=fN func293
def F294:fT 294 f294:=fN func294
def F295:fT 295 f295:=fN func295
def F296:fT 296 f296:=fN func296
def F297:fT 297 f297:=fN func297
def F298:fT 298 f298:=fN func298
def F299:fT 299 f299:=fN func299
def F300:fT 300 f300:=fN func300
def F301:fT 301 f301:=fN func301
def F302:fT 302 f302:=fN func302
def F303:fT 303 f303:=fN func303
def F304:fT 304 f304:=fN func304
def F305:fT 305 f305:=fN func305
def F306:fT 306 f306:=fN func306
def F307:fT 307 f307:=fN func307
def F308:fT 308 f308:=fN func308
def F309:fT 309 f309:=fN func309
def F310:fT 310 f310:=fN func310
def F311:fT 311 f311:=fN func311
def F312:fT 312 f312:=fN func312
def F313:fT 313 f313:=fN func313
def F314:fT 314 f314:=fN func314
def F315:fT 315 f315:=fN func315
def F316:fT 316 f316:=fN func316
def F317:fT 317 f317:=fN func317
def F318:fT 318 f318:=fN func318
def F319:fT 319 f319:=fN func319
def F320:fT 320 f320:=fN func320
def F321:fT 321 f321:=fN func321
def F322:fT 322 f322:=fN func322
def F323:fT 323 f323:=fN func323
def F324:fT 324 f324:=fN func324
def F325:fT 325 f325:=fN func325
def F326:fT 326 f326:=fN func326
def F327:fT 327 f327:=fN func327
def F328:fT 328 f328:=fN func328
def F329:fT 329 f329:=fN func329
def F330:fT 330 f330:=fN func330
def F331:fT 331 f331:=fN func331
def F332:fT 332 f332:=fN func332
def F333:fT 333 f333:=fN func333
def F334:fT 334 f334:=fN func334
def F335:fT 335 f335:=fN func335
def F336:fT 336 f336:=fN func336
def F337:fT 337 f337:=fN func337
def F338:fT 338 f338:=fN func338
def F339:fT 339 f339:=fN func339
def F340:fT 340 f340:=fN func340
def F341:fT 341 f341:=fN func341
def F342:fT 342 f342:=fN func342
def F345:fT 345 f345:=fN func345
def F346:fT 346 f346:=fN func346
def F347:fT 347 f347:=fN func347
def F358:fT 358 f358:=fN func358
def F359:fT 359 f359:=fN func359
def F360:fT 360 f360:=fN func360
def F361:fT 361 f361:=fN func361
def F362:fT 362 f362:=fN func362
def F363:fT 363 f363:=fN func363
def F364:fT 364 f364:=fN func364
def F365:fT 365 f365:=fN func365
def F366:fT 366 f366:=fN func366
def F367:fT 367 f367:=fN func367
def F369:fT 369 f369:=fN func369
def F370:fT 370 f370:=fN func370
def F371:fT 371 f371:=fN func371
def F372:fT 372 f372:=fN func372
def F373:fT 373 f373:=fN func373
def F381:fT 381 f381:=fN func381
def F382:fT 382 f382:=fN func382
def F383:fT 383 f383:=fN func383
def F384:fT 384 f384:=fN func384
def F385:fT 385 f385:=fN func385
def F386:fT 386 f386:=fN func386
def F388:fT 388 f388:=fN func388
def F389:fT 389 f389:=fN func389
def F410:fT 410 f410:=fN func410
def F411:fT 411 f411:=fN func411
def F412:fT 412 f412:=fN func412
def F413:fT 413 f413:=fN func413
def rg{F:Fr}{n:Nat}{B:Exit→Act→World→Prop}{bn:List Nat}{hbn:∀k,F.k0 k≠.new→k∈bn}{k:List KI}{s:SS}(h:O9 ⟨prog,Γ.toTy,F,n,B,bn,hbn⟩ Γ 400 k s):G ⟨prog,Γ.toTy,F,n,B,bn,hbn⟩ k s:=rG Γ hm h
def rd{F:Fr}{n:Nat}{B:Exit→Act→World→Prop}{bn:List Nat}{hbn:∀k,F.k0 k≠.new→k∈bn}{k:List KI}{s:SS}{all:Array Oper}{done:List Stp}{rest:List Oper}(hs:all.toList=done.map (·.o)++rest)(h:Aax ⟨prog,Γ.toTy,F,n,B,bn,hbn⟩ Γ 400 k all done rest s):DR ⟨prog,Γ.toTy,F,n,B,bn,hbn⟩ k all done rest s:=rD Γ hm hs h
structure Bq(Q:Prop):Prop where out:Q
def oO{P Q:Prop}(h:Q)(e:Bq Q→P:=by intro hb;refine rg ?_;(conv=>whnf);exact hb.out):P:=e ⟨h⟩
def oF{P Q:Prop}(h:Q)(e:Bq Q→P:=by intro hb;refine rg ?_;(conv=>whnf);refine aF ?_;refine rg ?_;(conv=>whnf);exact hb.out):P:=e ⟨h⟩
def oT{P Q:Prop}(h:Q)(e:Bq Q→P:=by intro hb;refine rg ?_;(conv=>whnf);refine aT ?_;refine rg ?_;(conv=>whnf);exact hb.out):P:=e ⟨h⟩
def bF{P Q:Prop}(h:Q)(e:Bq Q→P:=by intro hb;refine aF ?_;refine rg ?_;(conv=>whnf);exact hb.out):P:=e ⟨h⟩
def bT{P Q:Prop}(h:Q)(e:Bq Q→P:=by intro hb;refine aT ?_;refine rg ?_;(conv=>whnf);exact hb.out):P:=e ⟨h⟩
def oD{P Q:Prop}(h:Q)(e:Bq Q→P:=by intro hb;refine rd z_ ?_;(conv=>whnf);exact hb.out):P:=e ⟨h⟩
def dN{P:Prop}(h:P:=by
 apply As
 ·exact E
 ·(repeat (first|exact ResVs.nil|(apply ResVs.cons;(first|exact .tmp|exact .cell rfl rfl rfl rfl))))
 ·exact E
 ·exact E):P:=h
def iL{a:Int}{K:Prop}(h:K)(e:I64 a:=by unfold I64;omega):I64 a∧K:=⟨e,h⟩
def iW{a:Int}{K Q:Prop}(h:Q)(e:I64 a:=by unfold I64;omega)(e2:Bq Q→K:=by intro hb;(conv=>whnf);exact hb.out):I64 a∧K:=⟨e,e2 ⟨h⟩⟩
def kW{α:Sort _}{a b:α}{K Q:Prop}(h:Q)(e:a=b:=by kernel_rfl)(e2:Bq Q→K:=by intro hb;(conv=>whnf);exact hb.out):a=b∧K:=⟨e,e2 ⟨h⟩⟩
def c0{C:Cx}{k:List KI}{s:SS}{all:Array Oper}{o:Oper}{rest:List Oper}{f:FuncId}{fn:Func}{c:Code}{xs:List Operand}{ts:Array TypeId}{A:List SV}{R:SV}(hs:Sy.Spec C.P f A [] R [])(hf:Fun C.P f fn c)(hg:G C (.ops all rest::k) (s.upd o.dst ⟨R,[],[]⟩))(h:o.op=.call ⟨.value (.func f),xs.toArray,ts⟩:=by exact rfl)(hA:A=xs.map (ev s):=by exact rfl)(ax:(B8 [] A&&R.inn [])=true:=by exact rfl)(hd:V8 C.n o=true:=by exact rfl)(hw:Ew C.n all o s=some true:=by exact rfl):G C (.ops all (o::rest)::k) s:=Mn hs hf h hA ax hd hw hg
def cD{C:Cx}{k:List KI}{s:SS}{all:Array Oper}{done:List Stp}{o:Oper}{rest:List Oper}{f:FuncId}{fn:Func}{c:Code}{xs:List Operand}{ts:Array TypeId}{A:List SV}{R:SV}(hs:Sy.Spec C.P f A [] R [])(hf:Fun C.P f fn c)(hg:DR C k all (done++[⟨done.length,o,⟨R,[],[]⟩,true⟩]) rest (s.upd o.dst ⟨R,[],[]⟩))(h:o.op=.call ⟨.value (.func f),xs.toArray,ts⟩:=by exact rfl)(hA:A=xs.map (ev s):=by exact rfl)(ax:(B8 [] A&&R.inn [])=true:=by exact rfl)(hi:all[done.length]? = some o:=by kernel_rfl)(hw:Ew C.n all o s=some true:=by exact rfl):DR C k all done (o::rest) s:=A5e hs hf h hA ax hi hw hg
def fU{P Q:Prop}(h:Q)(e:Bq Q→P:=by intro hb;((first|refine rG Γ hm ?_|refine rD Γ hm z_ ?_);(conv=>whnf);repeat((first|refine aF ?_|refine aT ?_);(first|refine rG Γ hm ?_|refine rD Γ hm z_ ?_);conv=>whnf));exact hb.out):P:=e ⟨h⟩
def fW{P Q:Prop}(h:Q)(e:Bq Q→P:=by intro hb;((conv=>whnf);repeat((first|refine aF ?_|refine aT ?_);(first|refine rG Γ hm ?_|refine rD Γ hm z_ ?_);conv=>whnf));exact hb.out):P:=e ⟨h⟩
def vL{s:SS}{V:List Nat}{l m:List SV}(h:VwL s V l m:=by repeat (first|exact VwL.nil|refine VwL.cons (Vw.refl _) ?_|refine VwL.cons Vw.nil ?_)):VwL s V l m:=h
def qA{p q:Prop}[Decidable p](h:decide p=true)(e:p→q:=by intro _h;omega):q:=e (zO h)
def qB{p q:Prop}[Decidable p](h:decide p=false)(e:¬p→q:=by intro _h;omega):q:=e (zT h)
def uU{P:Prop}(h:P:=by
 refine⟨?_,?_,rfl,rfl⟩
 ·repeat (first|exact trivial|exact rfl|refine⟨rfl,rfl,?_⟩)
 ·repeat (first | exact trivial | refine⟨.inl rfl,rfl,?_⟩ | refine⟨.inr rfl,rfl,?_⟩)):P:=h
def gC{P:Prop}(e:P:=by refine fU ?_;exact dN):P:=e
def gE{P Q:Prop}(h:Q)(e:Bq Q→P:=by intro b;refine oO ?_;refine iW ?_;exact b.out):P:=e ⟨h⟩
def gF{P:Prop}(e:P:=by refine oO ?_;exact dN):P:=e
def gG{P Q:Prop}(h:Q)(e:Bq Q→P:=by intro b;refine fU ?_;refine iL ?_;refine fW ?_;exact b.out):P:=e ⟨h⟩
def gH{P Q:Prop}(h:Q)(e:Bq Q→P:=by intro b;refine oD ?_;refine kW ?_;exact b.out):P:=e ⟨h⟩
def gJ{P Q:Prop}(h:Q)(e:Bq Q→P:=by intro b;refine fW ?_;refine iL ?_;refine fW ?_;exact b.out):P:=e ⟨h⟩
structure Device where
 (row prio:Int) (name:ByteArray) (mac vtep:Int)
structure Port where
 (row dev native cost link:Int) (name:ByteArray) (tagged:List Int)
structure Link where
 (row a b:Int)
structure Domain where
 (dev vlan vni irb row:Int) (peers:List Int)
structure Static where
 (row domain port mac:Int)
structure Flood where
 (row dev vni:Int) (addrs:List Int)
structure Vrf where
 (row dev:Int) (name:ByteArray) (imports exports:List Int)
structure Irb where
 (row domain vrf addr bits:Int)
structure Net where
 (devices:List Device) (ports:List Port) (links:List Link) (domains:List Domain) (statics:List Static) (floods:List Flood) (vrfs:List Vrf) (irbs:List Irb)
def Aw(d:Device):SV:=.agg [Aa d.row,Aa d.prio,Ap d.name,Bj d.mac,A9 d.vtep]
def A7(p:Port):SV:=.agg [Aa p.row,Aa p.dev,Aa p.native,Aa p.cost,Aa p.link,Ap p.name,.sl 1 Aa p.tagged]
def B5(l:Link):SV:=.agg [Aa l.row,Aa l.a,Aa l.b]
def Aq(d:Domain):SV:=.agg [Aa d.dev,Aa d.vlan,Aa d.vni,Aa d.irb,Aa d.row,.sl 1 Aa d.peers]
def A2(s:Static):SV:=.agg [Aa s.row,Aa s.domain,Aa s.port,Bj s.mac]
def Bh(f:Flood):SV:=.agg [Aa f.row,Aa f.dev,Aa f.vni,.sl 1 A9 f.addrs]
def Ck(v:Vrf):SV:=.agg [Aa v.row,Aa v.dev,Ap v.name,.sl 1 Aa v.imports,.sl 1 Aa v.exports]
def Cb(i:Irb):SV:=.agg [Aa i.row,Aa i.domain,Aa i.vrf,A9 i.addr,Aa i.bits]
def Da(n:Net):List SV:=[.sl 5 Aw n.devices,.sl 7 A7 n.ports,.sl 3 B5 n.links,.sl 6 Aq n.domains,.sl 4 A2 n.statics,.sl 4 Bh n.floods,.sl 5 Ck n.vrfs,.sl 5 Cb n.irbs]
def Ao(n:Net):SV:=.agg [.sl 5 Aw n.devices,.sl 7 A7 n.ports,.sl 3 B5 n.links,.sl 6 Aq n.domains,.sl 4 A2 n.statics,.sl 4 Bh n.floods,.sl 5 Ck n.vrfs,.sl 5 Cb n.irbs]
instance:Inhabited Device:=⟨⟨0,0,.empty,0,0⟩⟩
instance:Inhabited Port:=⟨⟨0,0,0,0,0,.empty,[]⟩⟩
instance:Inhabited Link:=⟨⟨0,0,0⟩⟩
instance:Inhabited Domain:=⟨⟨0,0,0,0,0,[]⟩⟩
instance:Inhabited Static:=⟨⟨0,0,0,0⟩⟩
instance:Inhabited Flood:=⟨⟨0,0,0,[]⟩⟩
instance:Inhabited Vrf:=⟨⟨0,0,.empty,[],[]⟩⟩
instance:Inhabited Irb:=⟨⟨0,0,0,0,0⟩⟩
def Ai(i:Int)(n:Nat):Bool:=decide (0≤i)&&decide (i<n)
def inB(l:List Int)(x:Int):Bool:=l.any (·==x)
def nth{α:Type}[Inhabited α](l:List α)(i:Int):α:=(l[i.toNat]?).getD default
theorem Af{α:Type}[Inhabited α]{l:List α}{i:Int}(h:i.toNat<l.length):nth l i=l[i.toNat]:=by
 simp[nth,h]
def Br{α:Type}(p:α→Bool)(l:List α):Int:=match l.findIdx? p with|some i=>(i:Int)|none=>-1
def Co{α:Type}{p:α→Bool}{l:List α}{j:Nat}(h:j<l.length)(h1:∀i (hi:i<l.length),i<j→p l[i]=false)(h2:p l[j]=true):Br p l=j:=by
 have:l.findIdx? p=some j:=by
  rw[xZ];exact⟨h,h2,λi hi=>by simp[h1 i q_ hi]⟩
 simp[Br,this]
def Di{α:Type}{p:α→Bool}{l:List α}(h1:∀i (hi:i<l.length),p l[i]=false):Br p l=-1:=by
 have:l.findIdx? p=none:=by
  rw[List.findIdx?_eq_none_iff];intro x hx;obtain ⟨i,hi,rfl⟩:=yZ.1 hx;exact h1 i hi
 simp[Br,this]
def Ij{α:Type}(p:α→Bool)(l:List α):Br p l<l.length:=by
 unfold Br;split
 ·rename_i i h;rw[xZ]at h;obtain ⟨h,_⟩:=h;omega
 ·omega
def Jm{α:Type}(p:α→Bool)(l:List α):decide (0≤Br p l)=l.any p:=by
 unfold Br;split
 ·rename_i i h;rw[xZ]at h;obtain ⟨h,h2,_⟩:=h;have:l.any p=true:=wV.2 ⟨_,zJ h,h2⟩;rw[this];simp
 ·rename_i h;rw[List.findIdx?_eq_none_iff]at h;have:l.any p=false:=by
   rw[vD];intro x hx;simp[h x hx]
  rw[this];simp
def H7{α:Type}(p:Nat→α→Bool)(l:List α):Bool:=l.zipIdx.all λq=>p q.2 q.1
def allB_iff{α:Type}{p:Nat→α→Bool}{l:List α}:H7 p l=true↔∀i (h:i<l.length),p i l[i]=true:=by
 simp only[H7,yV];constructor
 ·intro h i hi;exact h (l[i],i) (by rw[tD];simp[hi])
 ·rintro h ⟨x,i⟩ hx;rw[tD]at hx;obtain ⟨hi,rfl⟩:=List.getElem?_eq_some_iff.1 hx;exact h i hi
def A1b{α:Type}{p:Nat→α→Bool}{l:List α}(h:∀i (h:i<l.length),p i l[i]=true):H7 p l=true:=allB_iff.2 h
def Dg{α:Type}{p:Nat→α→Bool}{l:List α}{i:Nat}(h:i<l.length)(h1:p i l[i]=false):H7 p l=false:=by
 cases hh:H7 p l with
 |false=>rfl
 |true=>have:=allB_iff.1 hh i h;rw[h1]at this;cases this
def H8{α:Type}(p:Nat→α→Bool)(l:List α)(j:Nat):Prop:=∀i (h:i<l.length),i<j→p i l[i]=true
def Bo{α:Type}(p:Nat→α→Bool)(l:List α):H8 p l 0:=λi h hj=>yB hj q_
def Bl{α:Type}{p:Nat→α→Bool}{l:List α}{j:Nat}(hI:H8 p l j)(hj:j<l.length)(h:p j l[j]=true):H8 p l (j+1):=by
 intro i hi bc;rcases vT i j with h1|h1
 ·exact hI i hi h1
 ·have:i=j:=by omega
  subst this;exact h
def Hh{α:Type}{p:Nat→α→Bool}{l:List α}{j:Nat}(hI:H8 p l j)(hj:l.length≤j):H7 p l=true:=A1b λi hi=>hI i hi q_
def Am{α:Type}(l:List α):Prop:=l.length<2147483648
end Go.Sy.YtolnneiipmfgaaaGreatDoor
namespace Go.Sy
def Am2(w:World){b:Nat}{cs:Array Value}{T:TypeId}{fr:Nat×Nat}(h:w.heap[b]? = some (.cells cs T fr))(n:Nat):(w.freeze ⟨b,n,none⟩ 1).heap[b]? = some (.cells cs T (if fr.1==fr.2 then (n,n+1) else (min fr.1 n,max fr.2 (n+1))))∧(w.freeze ⟨b,n,none⟩ 1).os=w.os∧(w.freeze ⟨b,n,none⟩ 1).tape=w.tape∧(w.freeze ⟨b,n,none⟩ 1).output=w.output ∧
   (w.freeze ⟨b,n,none⟩ 1).heap.size=w.heap.size∧∀i,i≠b→(w.freeze ⟨b,n,none⟩ 1).heap[i]? = w.heap[i]?:=by
 unfold World.freeze;rw[zD j_];refine⟨?_,E,E,E,by simp,λi hi=>?_⟩
 ·simp[tT,h]
 ·simp[tT,Ne.symm hi]
def Ea{P:Program}(Γ:Ty P){o:Oper}{s:SS}{t:TypeId}{ti ei:TI}{x:Operand}{et:TypeId}{sz eb k:Nat}{ez:List Value}{svs:List SV}(h:o.op=.convert t t x)(ht:Γ.get t=some ti)(hk:ti.k=.slice et sz eb ez)(he:Γ.get et=some ei)(y7:ei.k=.int .u8)(hx:ev s x=.osl k)(hl:s.h k=.lit sz svs):Good P o s ⟨.osl k,[],[(k,.lit sz svs)]⟩:=by
 intro κ a w hi hr ho N Q hN;have h1:=hr x (by simp[h,Op.operands]);have h3:=ho k (.inr (by simp[Up.ws]));rw[hl]at h3;rw[hx]at h1;obtain ⟨b,cap,cs,T,fr,f1,f2,f3,f4,f5,f6⟩:=h3;simp only[Rd,f1]at h1;obtain ⟨hu,_⟩:=Ct Γ ht hk;have y8:=Akd Γ he y7;obtain ⟨q1,q2,q3,q4,q5,q6⟩:=Am2 w f2 cs.length;have lc:w.shape? b=some (T,cs.length):=by
  unfold World.shape?;rw[f2];simp
 have au:(execOp a.eval o).run P w=.ok (.value (.slice (some ⟨b,0,none⟩) svs.length cap)) (w.freeze ⟨b,cs.length,none⟩ 1):=by
  simp[execOp,h,h1,convert,run_underlying hu,run_underlying y8,markStringish,lc]
 simp only[Oper.wp,au,Oper.upon];obtain ⟨st,inv⟩:=M4 hi (k:=k) (b:=b) (by rw[f1];rfl) q2 q3 q4 q5 q6;refine hN _ κ _ (st.weaken (by simp[Up.ws])) inv (by simp[Rd,f1]) (λp hp=>?_);simp only[yA]at hp;subst hp;refine⟨b,cap,cs,T,_,f1,q1,?_,f4,f5,λi x hx=>?_⟩
 ·rcases f3 with h0|h0
  ·rw[zE (by simpa using h0)];exact .inr (yD _)
  ·split
   ·exact .inr (yD _)
   ·exact .inr (by simp only;omega)
 obtain ⟨g0,u,g1,g2,g3,g4⟩:=f6 i x hx;exact⟨g0,u,RdD.keep st.keeps _ _ g1,g2,g3,g4⟩
open Go.ChangeShapes Go.WideShapes Go.ChangeAt Go.RowKit
def κ0:Ka:=⟨λ_=>.new,λ_=>False⟩
def inv0(w:World):Inv κ0 w :=
 ⟨λi j b h=>(by cases h),λk b h=>(by cases h),λk b h=>(by cases h),λb h=>False.elim h⟩
def Abc{w w':World}{κ':Ka}(c:Ctx ⟨w,κ0,[]⟩ κ' w'):Below w.heap.size w w' :=
 ⟨c.os,c.tape,c.output,c.size,λk hk=>c.old k hk (λj h=>by cases h)⟩
section
variable {H:Type} {enc:TypeId×Value→H} {P:Program}
theorem Xn{W W':World}(hl:laidOutB P=true)(hb:Below W.heap.size W W'):∀{ts:List TypeId} {vs:List Value} {ds:List (DataW H)} {ps:List MemPlace},(∀t∈ts,P.readableRec t=true∧t<P.types.size) →
  (∀x∈ps,x.block<W.heap.size)→DataW.TrodAll enc P W 0 (λ_=>true) true ts vs ds ps→DataW.TrodAll enc P W' 0 (λb=>decide (b<W.heap.size)) true ts vs ds ps
 |[],_,_,_,_,_,h=>by
  obtain ⟨rfl,rfl,rfl⟩:=trodAll_nil h;rfl
 |t::ts,_,_,_,ht,hp,h=>by
  obtain ⟨v,vs,d,ds,p,q,rfl,rfl,rfl,h1,h2⟩:=trodAll_cons h;have:=ht t y_;exact⟨p,q,Below.trod hl this.1 this.2 h1 hb (λx hx=>hp x (by simp[hx])),Xn hl hb (λt h=>ht t (by simp[h])) (λx hx=>hp x (by simp[hx])) h2,E⟩
theorem Az9{f:FuncId}{fn:Func}{s:ChangeSpec}{W:World}{args:Array Value}{ds gs:List (DataW H)}{before:List MemPlace}{tb:TypeId}{A:List SV}(hv:s.vars=[])(hl:laidOutB P=true)(hW:DataW.Whole enc P fn.params.toList s.vars false W args.toList ds gs before)(hts:∀t∈fn.params.toList,P.readableRec t=true∧t<P.types.size)(tv:fn.resultTypes=#[tb])(hbt:P.underlying tb=some .bool)(uu:∀gs:List (DataW H),gs=[]→s.fn H (ds++gs)={results:=[.lit (.bool true)],args:=ds})(hA:RdL κ0 W A args.toList)(hs:Sy.Spec P f A [] (Ab true) []):Calls P f args W λe W'=>∃v,e=.returned v∧s.post enc P fn false true false false W args v W':=by
 have hc:=hs κ0 W args.toList (inv0 W) (λk hk=>yB rfl hk) hA (λp hp=>by cases hp);simp only[Array.toArray_toList]at hc;refine hc.mono ?_;rintro e W' ⟨v,κ',rfl,ctx,inv,hR,_⟩;have hvv:v=.bool true:=by simpa [Ab,Rd] using hR
 subst hvv;have hb:=Abc ctx;have zr:=hW;obtain ⟨p,q,h1,h2,h3,h4,h5⟩:=hW;have ux:gs=[]∧q=[]:=by
  rw[hv]at h2;exact trodVars_none h2
 obtain ⟨rfl,rfl⟩:=ux;rw[xM]at h3;subst h3;have ab:∀x∈before,x.block<W.heap.size:=λx hx=>by simpa using zr.lt x hx
 refine⟨_,rfl,ds,[],before,[],before,[],zr,?_,?_,?_,?_,λh=>by cases h⟩
 ·rw[uu [] rfl,tv];exact trodAll_mk1 (shut_bool hbt true)
 ·rw[uu [] rfl];exact Xn hl hb hts ab h1
 ·rw[hv,uu [] rfl];rfl
 ·exact hb.frame _
end
section
variable {H:Type} (enc:TypeId×Value→H) (P:Program) (W:World)
def Op1(t:TypeId){α:Type}(e:α→SV)(p:α→Prop):Prop :=
 ∀n c y,DataW.trod enc P W 0 (λ_=>true) true n t [c]=some y→∃x,p x∧Rd κ0 W (e x) c∧c.oneCell'=true
def OpN(t:TypeId){α:Type}(e:α→SV)(p:α→Prop)(sz:Nat):Prop :=
 ∀n cs y,DataW.trod enc P W 0 (λ_=>true) true n t cs=some y→∃x,p x∧cs.length=sz∧Ones cs∧RdL κ0 W (cellsOf (e x)) cs
variable {enc P W}
theorem Aws{t:TypeId}{k:IntKind}(ht:P.underlying t=some (.int k)):OpN enc P W t (λz=>.val (.int k z)) (λz=>(Lit.int k z).wf=true) 1:=λn cs y h=>by
 obtain ⟨z,rfl,_,hw⟩:=DataW.trod_int ht h;refine⟨z,hw,E,λc hc=>by simp at hc;subst hc;rfl,?_⟩;simp[cellsOf,RdL,Rd]
theorem Ak9{base:Nat}{a:Addr}{n:Nat}{cs:List Value}(h:W.cells? base a n=some cs):cs.length=n∧∀j (_:j<n),W.cell? (a.add j)=cs[j]?:=by
 unfold World.cells? at h;split at h
 ·refine⟨by simpa using mapM_some_length h,λj hj=>?_⟩;exact mapM_some_get h j j (by simp[hj])
 ·cases h
theorem Apd{t et:TypeId}{α:Type}{e:α→SV}{p:α→Prop}{sz:Nat}(ht:P.underlying t=some (.slice et))(bh:P.cellsOf et=sz)(h0:0<sz)(hb:∀x,(e x).boxed=true)(hd:∀x,(e x).data=true)(hO:OpN enc P W et e p sz):Op1 enc P W t (λl:List α=>.sl sz e l) (λl=>(∀x∈l,p x)∧l.length≤maxLen):=λn c y h=>by
 rcases DataW.trod_slice ht h with ⟨nj,_⟩|⟨a,len,cap,elems,rest,m,rfl,nj,_,_,hlc,hcm,hel,bg,_⟩
 ·have hc:c=.slice none 0 0:=by simpa using nj
  subst hc;refine⟨[],⟨by simp,xQ _⟩,?_,E⟩;simp only[Rd,RdD];exact .inl ⟨Y,none,0,E⟩
 ·have hc:c=.slice (some a) len cap:=by simpa using nj
  subst hc;rw[bh]at bg;have df:∀i:Fin len,∃x,p x∧∃cs,W.cells? 0 (a.add (i*sz)) sz=some cs∧cs.length=sz∧Ones cs∧RdL κ0 W (cellsOf (e x)) cs:=λi=>by
   have h1:=bg i.1 i.2;rw[zU q_]at h1;obtain ⟨cs,h2,h3⟩:=Option.bind_eq_some_iff.1 h1;obtain ⟨x,h4,h5,h6,h7⟩:=hO _ _ _ h3;exact⟨x,h4,cs,h2,h5,h6,h7⟩
  let xs:Fin len→α:=λi=>Classical.choose (df i)
  have qy:∀i,p (xs i)∧∃cs,W.cells? 0 (a.add (i.1*sz)) sz=some cs∧cs.length=sz∧Ones cs∧RdL κ0 W (cellsOf (e (xs i))) cs:=λi=>Classical.choose_spec (df i)
  refine⟨List.ofFn xs,⟨λx hx=>?_,by simp;omega⟩,?_,E⟩
  ·obtain ⟨i,rfl⟩:=List.mem_ofFn.1 hx;exact(qy i).1
  ·simp only[Rd,RdD];by_cases hl:len=0
   ·subst hl;exact .inl ⟨by simp,_,_,E⟩
   ·have gi:∀i:Fin len,∀j,j<sz→∃v,W.cell? ((a.add (i.1*sz)).add j)=some v:=λi j hj=>by
     obtain ⟨_,cs,h1,h2,_⟩:=qy i;have:=(Ak9 h1).2 j hj;rw[zU q_]at this;exact⟨_,this⟩
    obtain ⟨b,off,spot⟩:=a;have zd:spot=none:=by
     obtain ⟨v,hv⟩:=gi ⟨0,by omega⟩ 0 h0;simpa [Addr.add] using World.cell?_spot hv
    subst zd;have ni:∀i j,((⟨b,off,none⟩:Addr).add i).add j=⟨b,off+i+j,none⟩:=λi j=>by rw[Addr.add_lit,Addr.add_lit]
    refine .inr ⟨b,off,cap,by simp,by simpa using hlc,?_,?_,λi hi=>?_⟩
    ·rintro (⟨k,hk⟩|hk)
     ·cases hk
     ·exact hk
    ·obtain ⟨v,hv⟩:=gi ⟨0,by omega⟩ 0 h0;rw[ni]at hv;rcases vT b W.heap.size with h|h
     ·exact h
     ·simp[World.cell?,uP h]at hv
    ·simp only[List.length_ofFn]at hi;obtain ⟨_,cs,h1,h2,h3,h4⟩:=qy ⟨i,hi⟩;obtain ⟨u,g1,g2⟩:=Rd.of_cells (hb _) h3 h4;refine⟨u,?_,?_,by rw[g2];exact h3,λj hj=>?_⟩
     ·rw[List.getElem_ofFn];exact Rd.data _ _ (hd _) g1
     ·have:u.cells.toList.length=sz:=by rw[g2,h2]
      simpa using this
     ·have:=(Ak9 h1).2 j hj;rw[ni]at this;rw[this,←g2];simp
end
end Go.Sy
namespace Go.Sy.YtolnneiipmfgaaaGreatDoor
open Go.Proofs Go.ChangeShapes Go.WideShapes Go.ChangeAt Go.RowKit
set_option maxRecDepth 100000
section
variable {H:Type} {enc:TypeId×Value→H} {W:World}
theorem Ao0{t et:TypeId}{α:Type}{e:α→SV}{p:List α→Prop}{sz base:Nat}{v:Value}{d:DataW H}{ps:List MemPlace}(ht:Tryz.prog.underlying t=some (.slice et))(hO:Op1 enc Tryz.prog W t (λl:List α=>.sl sz e l) p)(pj:Value.okWide Tryz.prog W .any base t v)(h1:DataW.Trod enc Tryz.prog W 0 (λ_=>true) true t v d ps):∃l,p l∧Rd κ0 W (.sl sz e l) v:=by
 obtain ⟨a,len,cap,rfl⟩:=okWide_slice ht pj;obtain ⟨fuel,hf⟩:=h1;obtain ⟨x,h1,h2,_⟩:=hO _ _ _ hf;exact⟨x,h1,h2⟩
end
section
variable {α:Type}
def Av7(p:α→Bool):List α→Nat
 |[]=>0
 |a::l=>if Av7 p l=l.length∧p a=true then l.length+1 else Av7 p l
def insE(lt:α→α→Bool)(x:α)(l:List α):List α:=l.take (l.length-Av7 (lt x) l)++x::l.drop (l.length-Av7 (lt x) l)
def Aok(lt:α→α→Bool):List α→List α→List α
 |out,[]=>out
 |out,x::l=>Aok lt (insE lt x out) l
def A8b(lt:α→α→Bool)(l:List α):List α:=Aok lt [] l
end
section
variable {α:Type}
def bs(lt:α→α→Bool)(s:Nat)(l:List α):List α :=
 if h:s=0∨l.length≤s then A8b lt l else A8b lt (l.take s)++bs lt s (l.drop s)
termination_by l.length
decreasing_by
 simp only[yQ];omega
end
section
variable {α:Type}
end
section
variable {α β:Type}
structure CmpOK(c:α→α→Int):Prop where
 anti:∀x y,c x y<0↔0<c y x
 trans:∀x y z,c x y≤0→c y z≤0→c x z≤0∧(c x z=0→c x y=0∧c y z=0)
theorem CmpOK.self{c:α→α→Int}(h:CmpOK c)(x:α):c x x=0:=by
 have:=h.anti x x;omega
theorem CmpOK.zero{c:α→α→Int}(h:CmpOK c){x y:α}(hx:c x y=0):c y x=0:=by
 have h1:=h.anti x y;have h2:=h.anti y x;omega
theorem CmpOK.alike{c:α→α→Int}(h:CmpOK c){x y z:α}(h1:c x y=0)(h2:c y z=0):c x z=0:=by
 have a:=(h.trans x y z q_ q_).1;have b:=(h.trans z y x (by rw[h.zero h2];omega) (by rw[h.zero h1];omega)).1;have d:=h.anti x z;have e:=h.anti z x;omega
def Acv(a b:Int):Int:=if a≠0 then a else b
theorem CmpOK.then{c d:α→α→Int}(hc:CmpOK c)(hd:CmpOK d):CmpOK (λx y=>Acv (c x y) (d x y)) where
 anti x y:=by
  have h1:=hc.anti x y;have h2:=hc.anti y x;have h3:=hd.anti x y;unfold Acv;by_cases h:c x y=0
  ·rw[zD q_,zD q_];exact h3
  ·rw[zE h,zE q_];exact h1
 trans x y z:=by
  unfold Acv;intro h1 h2;have t:=hc.trans x y z;by_cases nz:c x y=0
  ·rw[zD q_]at h1;by_cases mj:c y z=0
   ·rw[zD q_]at h2;have hxz:=hc.alike nz mj;rw[zD q_,zD q_,zD q_];exact hd.trans x y z h1 h2
   ·rw[zE mj]at h2;have t:=t q_ h2;have h0:c x z≠0:=λe=>mj (t.2 e).2
    rw[zE h0];exact⟨t.1,λe=>yB e h0⟩
  ·rw[zE nz]at h1;have mj:c y z≤0:=by
    by_cases mj:c y z=0
    ·omega
    ·rw[zE mj]at h2;exact h2
   have t:=t h1 mj;have h0:c x z≠0:=λe=>nz (t.2 e).1
   rw[zE h0];exact⟨t.1,λe=>yB e h0⟩
def Ik(c:α→α→Int):List α→List α→Int
 |[],[]=>0
 |[],_::_=>-1
 |_::_,[]=>1
 |x::a,y::b=>Acv (c x y) (Ik c a b)
theorem Ahw{c:α→α→Int}(h:CmpOK c):∀(a b:List α),Ik c a b<0↔0<Ik c b a
 |[],[]=>by simp[Ik]
 |[],_::_=>by simp[Ik]
 |_::_,[]=>by simp[Ik]
 |x::a,y::b=>by
  have ih:=Ahw h a b;have h1:=h.anti x y;have h2:=h.anti y x;rw[Ik,Ik];unfold Acv;by_cases h0:c x y=0
  ·rw[zD q_,zD q_];exact ih
  ·rw[zE h0,zE q_];exact h1
theorem Ad1{c:α→α→Int}(h:CmpOK c):∀(a b d:List α),Ik c a b≤0→Ik c b d≤0→Ik c a d≤0∧(Ik c a d=0→Ik c a b=0∧Ik c b d=0)
 |[],[],[],_,_=>by simp[Ik]
 |[],[],_::_,_,_=>by simp[Ik]
 |[],_::_,[],_,h2=>by simp[Ik]at h2
 |[],_::_,_::_,_,_=>by simp[Ik]
 |_::_,[],_,h1,_=>by simp[Ik]at h1
 |_::_,_::_,[],_,h2=>by simp[Ik]at h2
 |x::a,y::b,z::d,h1,h2=>by
  have ih:=Ad1 h a b d;rw[Ik]at h1 h2⊢;rw[Ik,Ik];unfold Acv at h1 h2⊢;have t:=h.trans x y z;by_cases nz:c x y=0
  ·rw[zD q_]at h1;by_cases mj:c y z=0
   ·rw[zD q_]at h2;have hxz:=h.alike nz mj;rw[zD q_,zD q_,zD q_];exact ih h1 h2
   ·rw[zE mj]at h2;have t:=t q_ h2;have h0:c x z≠0:=λe=>mj (t.2 e).2
    rw[zE h0];exact⟨t.1,λe=>yB e h0⟩
  ·rw[zE nz]at h1;have mj:c y z≤0:=by
    by_cases mj:c y z=0
    ·omega
    ·rw[zE mj]at h2;exact h2
   have t:=t h1 mj;have h0:c x z≠0:=λe=>nz (t.2 e).1
   rw[zE h0];exact⟨t.1,λe=>yB e h0⟩
theorem CmpOK.list{c:α→α→Int}(h:CmpOK c):CmpOK (Ik c):=⟨Ahw h,Ad1 h⟩
end
open Go.Proofs Go.Proofs.Tryz
attribute [local irreducible] Go.Sy.G Go.Sy.DR
set_option maxRecDepth 20000
set_option maxHeartbeats 4000000
def Jh{α:Type}(sz:Nat)(e:α→SV)(l:List α)(i:Int):Sp 61 [.sl sz e l,Aa i] (Ab (Ai i l.length)):=cT F61 ntmps61 λF hF=>by
 conv=>whnf
 (repeat' (first|(refine⟨λh=>?_,λh=>?_⟩<;>(repeat (first|simp only[zK]at h|simp only[yE]at h))<;>((refine oO ?_)))|(refine As rfl (.cons .tmp .nil) ?_ rfl)))
 all_goals (refine zH Ab ?_)
 all_goals grind [Ai]
def Atr{α:Type}(sz:Nat)(e:α→SV)(l:List α)(i:Int):Sp 122 [.sl sz e l,Aa i] (Ab (Ai i l.length)):=cT F122 ntmps122 λF hF=>by
 conv=>whnf
 (repeat' (first|(refine⟨λh=>?_,λh=>?_⟩<;>(repeat (first|simp only[zK]at h|simp only[yE]at h))<;>((refine oO ?_)))|(refine As rfl (.cons .tmp .nil) ?_ rfl)))
 all_goals (refine zH Ab ?_)
 all_goals grind [Ai]
def Ao7{α:Type}(sz:Nat)(e:α→SV)(l:List α)(i:Int):Sp 128 [.sl sz e l,Aa i] (Ab (Ai i l.length)):=cT F128 ntmps128 λF hF=>by
 conv=>whnf
 (repeat' (first|(refine⟨λh=>?_,λh=>?_⟩<;>(repeat (first|simp only[zK]at h|simp only[yE]at h))<;>((refine oO ?_)))|(refine As rfl (.cons .tmp .nil) ?_ rfl)))
 all_goals (refine zH Ab ?_)
 all_goals grind [Ai]
def Vi{α:Type}(sz:Nat)(e:α→SV)(l:List α)(i:Int):Sp 129 [.sl sz e l,Aa i] (Ab (Ai i l.length)):=cT F129 ntmps129 λF hF=>by
 conv=>whnf
 (repeat' (first|(refine⟨λh=>?_,λh=>?_⟩<;>(repeat (first|simp only[zK]at h|simp only[yE]at h))<;>((refine oO ?_)))|(refine As rfl (.cons .tmp .nil) ?_ rfl)))
 all_goals (refine zH Ab ?_)
 all_goals grind [Ai]
def Ln{α:Type}(sz:Nat)(e:α→SV)(l:List α)(i:Int):Sp 130 [.sl sz e l,Aa i] (Ab (Ai i l.length)):=cT F130 ntmps130 λF hF=>by
 conv=>whnf
 (repeat' (first|(refine⟨λh=>?_,λh=>?_⟩<;>(repeat (first|simp only[zK]at h|simp only[yE]at h))<;>((refine oO ?_)))|(refine As rfl (.cons .tmp .nil) ?_ rfl)))
 all_goals (refine zH Ab ?_)
 all_goals grind [Ai]
def Atq{α:Type}(sz:Nat)(e:α→SV)(l:List α)(i:Int):Sp 133 [.sl sz e l,Aa i] (Ab (Ai i l.length)):=cT F133 ntmps133 λF hF=>by
 conv=>whnf
 (repeat' (first|(refine⟨λh=>?_,λh=>?_⟩<;>(repeat (first|simp only[zK]at h|simp only[yE]at h))<;>((refine oO ?_)))|(refine As rfl (.cons .tmp .nil) ?_ rfl)))
 all_goals (refine zH Ab ?_)
 all_goals grind [Ai]
def A4e(l:List Int)(x:Int)(hl:Am l):Sp 127 [.sl 1 Aa l,Aa x] (Aa (Br (·==x) l)):=cT F127 ntmps127 λF hF=>by
 unfold Am at hl
 conv=>whnf
 refine Bi l.length (λj=>∀i (h:i<l.length),i<j→(l[i]==x)=false) (λj=>[(0,.sl 1 Aa l),(1,Aa x),(7,Aa l.length),(8,Aa j)]) (λ_=>[]) [] (λi h hj=>yB hj q_) uU ?_;intro j hj hI;refine oO ?_
 (repeat' (first|(refine⟨λh=>?_,λh=>?_⟩<;>(repeat (first|simp only[zK]at h|simp only[yE]at h|simp only[yI]at h|simp only[zR]at h))<;>((refine oO ?_)))|(refine As rfl (.cons .tmp .nil) ?_ rfl)|(refine⟨z_,?_⟩;((conv=>whnf)))|(refine⟨by (omega),by (omega),?_⟩;((conv=>whnf)))|(refine⟨by (unfold I64;omega),?_⟩;((conv=>whnf)))|refine Bc [] hI q_ ?_ uU))
 all_goals try (refine zH Aa ?_)
 ·exact Co q_ hI (by simpa using h.symm)
 ·intro i hi bc;rcases vT i j with h1|h1
  ·exact hI i hi h1
  ·have:i=j:=by omega
   subst this;simpa using Ne.symm h
 ·exact Di (λi hi=>hI i hi q_)
def Eb(l:List Int)(x:Int)(hl:Am l):Sp 74 [.sl 1 Aa l,Aa x] (Ab (inB l x)):=cT F74 ntmps74 λF hF=>by
 conv=>whnf
 (repeat' (first|(refine As rfl (.cons .tmp .nil) ?_ rfl)|(refine c0 (A4e _ _ hl) F127 ?_;((refine oO ?_)))))
 exact zH Ab (Jm _ _).symm
def Cw(p:Port)(v:Int):Bool:=v != 0&&(v==p.native||inB p.tagged v)
def Z9(p:Port)(v:Int)(hl:Am p.tagged):Sp 131 [A7 p,Aa v] (Ab (Cw p v)):=cT F131 ntmps131 λF hF=>by
 conv=>whnf
 (repeat' (first|(refine⟨λh=>?_,λh=>?_⟩<;>(repeat (first|simp only[yI]at h|simp only[zR]at h|simp only[xB]at h|simp only[bne_eq_false_iff_eq]at h))<;>((refine oO ?_)))|(refine As rfl (.cons .tmp .nil) ?_ rfl)|(refine c0 (Eb _ _ hl) F74 ?_;((refine oO ?_)))))
 all_goals (refine zH Ab ?_)
 all_goals grind [Cw]
def Xs(l:List Int)(gl bf:Int)(i:Nat)(x:Int):Bool:=decide (gl≤x)&&decide (x≤bf)&&(i==0||decide (nth l ((i:Int)-1)<x))
def Jq(l:List Int)(gl bf:Int):Bool:=decide (0<l.length)&&decide (l.length≤16)&&H7 (Xs l gl bf) l
def Agd(l:List Int)(gl bf:Int)(hl:Am l):Sp 132 [.sl 1 Aa l,Aa gl,Aa bf] (Ab (Jq l gl bf)):=cT F132 ntmps132 λF hF=>by
 unfold Am at hl
 conv=>whnf
 refine Bi l.length (λj=>H8 (Xs l gl bf) l j) (λj=>[(0,.sl 1 Aa l),(1,Aa gl),(2,Aa bf),(9,.sl 1 Aa l),(10,Aa l.length),(11,Aa j)]) (λ_=>[]) [] (Bo _ _) uU ?_;intro j hj hI;refine oO ?_
 (repeat' (first|(refine⟨λh=>?_,λh=>?_⟩<;>(repeat (first|simp only[zK]at h|simp only[yE]at h))<;>((refine oO ?_);repeat((first|refine aF ?_|refine aT ?_);(refine oO ?_))))|(refine As rfl (.cons .tmp .nil) ?_ rfl)|(refine⟨z_,?_⟩;((conv=>whnf)))|(refine⟨by (first|(unfold I64;omega)|omega),by (omega),?_⟩;((conv=>whnf)))|(refine⟨by (unfold I64;omega),?_⟩;((conv=>whnf)))|refine Bc [] hI q_ ?_ uU))
 all_goals try (refine zH Ab ?_)
 all_goals try simp only[zZ,Int.pred_toNat]at *
 ·rw[Jq,Dg (i:=j) q_ (by simp[Xs];omega)];simp
 ·rw[Jq,Dg (i:=j) q_ (by simp[Xs];omega)];simp
 ·rw[Jq,Dg (i:=j) q_ (by simp only[Xs,Af (show ((j:Int)-1).toNat<l.length by omega),Int.pred_toNat,zZ];simp;omega)];simp
 ·exact Bl hI q_ (by simp only[Xs,Af (show ((j:Int)-1).toNat<l.length by omega),Int.pred_toNat,zZ];simp;omega)
 ·exact Bl hI q_ (by simp[Xs];omega)
 ·rw[Jq,Hh hI q_,wF];simp;omega
 ·rw[Jq];simp;omega
def Al1(l:List Int)(bf:Int)(hl:Am l):Sp 64 [.sl 1 Aa l,Aa bf] (Ab (decide (l.length=0)||Jq l 1 bf)):=cT F64 ntmps64 λF hF=>by
 conv=>whnf
 (repeat' (first|(refine⟨λh=>?_,λh=>?_⟩<;>(repeat (first|simp only[yI]at h|simp only[zR]at h))<;>((refine oO ?_)))|(refine As rfl (.cons .tmp .nil) ?_ rfl)|(refine c0 (Agd l 1 bf hl) F132 ?_;((refine oO ?_)))))
 all_goals (refine zH Ab ?_)
 all_goals grind
def Iw{K:List Nat}:∀(a b:List SV),B8 K (a++b)=(B8 K a&&B8 K b)
 |[],b=>by simp[B8]
 |x::a,b=>by simp[B8,Iw a b,Bool.and_assoc]
def C9{f:FuncId}{first cap xs:List SV}(hc:(SV.clo (.func f) first cap).inn []=true)(hx:B8 [] xs=true):B8 [] (first++xs++cap)=true:=by
 simp only[SV.inn,zG]at hc;rw[Iw,Iw,hc.1,hc.2,hx];rfl
def E5(l:List Domain)(p:Domain→Bool)(f:FuncId)(first cap:List SV)(hc:(SV.clo (.func f) first cap).inn []=true)(hf:∀x∈l,Hb prog f (first++[Aq x]++cap) (Ab (p x)))(hl:Am l):Sp 198 [.sl 6 Aq l,.clo (.func f) first cap] (Aa (Br p l)):=cT F198 ntmps198 λF hF=>by
 unfold Am at hl;have ar:∀x:Domain,B8 [] (first++[Aq x]++cap)=true:=λx=>C9 hc rfl
 conv=>whnf
 refine Bi l.length (λj=>H8 (λ_ x=>!(p x)) l j) (λj=>[(0,.sl 6 Aq l),(1,.clo (.func f) first cap),(7,Aa l.length),(8,Aa j)]) (λ_=>[]) [] (Bo _ _) ⟨⟨E,E,Bd _,hc,E,E,E,E,Y⟩,Y,E,E⟩ ?_;intro j hj hI;refine oO ?_;constructor<;>intro h
 ·have h:=zO h;have an:j<l.length:=by omega
  refine oO ?_;refine⟨E,by omega,by omega,?_⟩
  conv=>whnf
  refine Eg (hf l[j] (zJ an)) E E E (by simp only[ar];rfl) E E ?_;refine oO ?_;constructor<;>intro h2
  ·refine oO ?_;refine As E (.cons .tmp .nil) (zH Aa ?_) E;exact Co an (λi hi bc=>by simpa using hI i hi bc) h2
  ·refine gE ?_;exact Bc [] hI an (Bl hI an (by simp[h2])) ⟨⟨E,E,Bd _,hc,E,E,E,E,Y⟩,Y,E,E⟩
 ·have h:=zT h;refine oO ?_;refine As E (.cons .tmp .nil) (zH Aa ?_) E;exact Di (λi hi=>by simpa using hI i hi q_)
def Uf(l:List Port)(p:Port→Bool)(f:FuncId)(first cap:List SV)(hc:(SV.clo (.func f) first cap).inn []=true)(hf:∀x∈l,Hb prog f (first++[A7 x]++cap) (Ab (p x)))(hl:Am l):Sp 201 [.sl 7 A7 l,.clo (.func f) first cap] (Aa (Br p l)):=cT F201 ntmps201 λF hF=>by
 unfold Am at hl;have ar:∀x:Port,B8 [] (first++[A7 x]++cap)=true:=λx=>C9 hc rfl
 conv=>whnf
 refine Bi l.length (λj=>H8 (λ_ x=>!(p x)) l j) (λj=>[(0,.sl 7 A7 l),(1,.clo (.func f) first cap),(7,Aa l.length),(8,Aa j)]) (λ_=>[]) [] (Bo _ _) ⟨⟨E,E,Bd _,hc,E,E,E,E,Y⟩,Y,E,E⟩ ?_;intro j hj hI;refine oO ?_;constructor<;>intro h
 ·have h:=zO h;have an:j<l.length:=by omega
  refine oO ?_;refine⟨E,by omega,by omega,?_⟩
  conv=>whnf
  refine Eg (hf l[j] (zJ an)) E E E (by simp only[ar];rfl) E E ?_;refine oO ?_;constructor<;>intro h2
  ·refine oO ?_;refine As E (.cons .tmp .nil) (zH Aa ?_) E;exact Co an (λi hi bc=>by simpa using hI i hi bc) h2
  ·refine gE ?_;exact Bc [] hI an (Bl hI an (by simp[h2])) ⟨⟨E,E,Bd _,hc,E,E,E,E,Y⟩,Y,E,E⟩
 ·have h:=zT h;refine oO ?_;refine As E (.cons .tmp .nil) (zH Aa ?_) E;exact Di (λi hi=>by simpa using hI i hi q_)
def A09(l:List Port)(p:Nat→Port→Bool)(f:FuncId)(first cap:List SV)(hc:(SV.clo (.func f) first cap).inn []=true)(hf:∀i (h:i<l.length),Hb prog f (first++[Aa i,A7 l[i]]++cap) (Ab (p i l[i])))(hl:Am l):Sp 53 [.sl 7 A7 l,.clo (.func f) first cap] (Ab (H7 p l)):=cT F53 ntmps53 λF hF=>by
 unfold Am at hl;have ar:∀(i:Nat) (x:Port),B8 [] (first++[Aa i,A7 x]++cap)=true:=λi x=>C9 hc rfl
 conv=>whnf
 refine Bi l.length (λj=>H8 p l j) (λj=>[(0,.sl 7 A7 l),(1,.clo (.func f) first cap),(7,.sl 7 A7 l),(8,Aa l.length),(9,Aa j)]) (λ_=>[]) [] (Bo _ _) ⟨⟨E,E,Bd _,hc,E,E,E,E,E,E,Y⟩,Y,E,E⟩ ?_;intro j hj hI;refine oO ?_;constructor<;>intro h
 ·have h:=zO h;have an:j<l.length:=by omega
  refine oO ?_;refine⟨E,by omega,by omega,?_⟩
  conv=>whnf
  refine Eg (hf j an) E E E (by simp only[ar];rfl) E E ?_;refine oO ?_;constructor<;>intro h2
  ·refine oO ?_;refine As E (.cons .tmp .nil) (zH Ab ?_) E;exact Dg an (by simpa using h2)
  ·refine gE ?_;exact Bc [] hI an (Bl hI an (by simpa using h2)) ⟨⟨E,E,Bd _,hc,E,E,E,E,E,E,Y⟩,Y,E,E⟩
 ·have h:=zT h;refine oO ?_;refine As E (.cons .tmp .nil) (zH Ab ?_) E;exact Hh hI q_
def A1a(l:List Link)(p:Nat→Link→Bool)(f:FuncId)(first cap:List SV)(hc:(SV.clo (.func f) first cap).inn []=true)(hf:∀i (h:i<l.length),Hb prog f (first++[Aa i,B5 l[i]]++cap) (Ab (p i l[i])))(hl:Am l):Sp 55 [.sl 3 B5 l,.clo (.func f) first cap] (Ab (H7 p l)):=cT F55 ntmps55 λF hF=>by
 unfold Am at hl;have ar:∀(i:Nat) (x:Link),B8 [] (first++[Aa i,B5 x]++cap)=true:=λi x=>C9 hc rfl
 conv=>whnf
 refine Bi l.length (λj=>H8 p l j) (λj=>[(0,.sl 3 B5 l),(1,.clo (.func f) first cap),(7,.sl 3 B5 l),(8,Aa l.length),(9,Aa j)]) (λ_=>[]) [] (Bo _ _) ⟨⟨E,E,Bd _,hc,E,E,E,E,E,E,Y⟩,Y,E,E⟩ ?_;intro j hj hI;refine oO ?_;constructor<;>intro h
 ·have h:=zO h;have an:j<l.length:=by omega
  refine oO ?_;refine⟨E,by omega,by omega,?_⟩
  conv=>whnf
  refine Eg (hf j an) E E E (by simp only[ar];rfl) E E ?_;refine oO ?_;constructor<;>intro h2
  ·refine oO ?_;refine As E (.cons .tmp .nil) (zH Ab ?_) E;exact Dg an (by simpa using h2)
  ·refine gE ?_;exact Bc [] hI an (Bl hI an (by simpa using h2)) ⟨⟨E,E,Bd _,hc,E,E,E,E,E,E,Y⟩,Y,E,E⟩
 ·have h:=zT h;refine oO ?_;refine As E (.cons .tmp .nil) (zH Ab ?_) E;exact Hh hI q_
def Ad9(l:List Domain)(p:Nat→Domain→Bool)(f:FuncId)(first cap:List SV)(hc:(SV.clo (.func f) first cap).inn []=true)(hf:∀i (h:i<l.length),Hb prog f (first++[Aa i,Aq l[i]]++cap) (Ab (p i l[i])))(hl:Am l):Sp 50 [.sl 6 Aq l,.clo (.func f) first cap] (Ab (H7 p l)):=cT F50 ntmps50 λF hF=>by
 unfold Am at hl;have ar:∀(i:Nat) (x:Domain),B8 [] (first++[Aa i,Aq x]++cap)=true:=λi x=>C9 hc rfl
 conv=>whnf
 refine Bi l.length (λj=>H8 p l j) (λj=>[(0,.sl 6 Aq l),(1,.clo (.func f) first cap),(7,.sl 6 Aq l),(8,Aa l.length),(9,Aa j)]) (λ_=>[]) [] (Bo _ _) ⟨⟨E,E,Bd _,hc,E,E,E,E,E,E,Y⟩,Y,E,E⟩ ?_;intro j hj hI;refine oO ?_;constructor<;>intro h
 ·have h:=zO h;have an:j<l.length:=by omega
  refine oO ?_;refine⟨E,by omega,by omega,?_⟩
  conv=>whnf
  refine Eg (hf j an) E E E (by simp only[ar];rfl) E E ?_;refine oO ?_;constructor<;>intro h2
  ·refine oO ?_;refine As E (.cons .tmp .nil) (zH Ab ?_) E;exact Dg an (by simpa using h2)
  ·refine gE ?_;exact Bc [] hI an (Bl hI an (by simpa using h2)) ⟨⟨E,E,Bd _,hc,E,E,E,E,E,E,Y⟩,Y,E,E⟩
 ·have h:=zT h;refine oO ?_;refine As E (.cons .tmp .nil) (zH Ab ?_) E;exact Hh hI q_
def Arm(l:List Static)(p:Nat→Static→Bool)(f:FuncId)(first cap:List SV)(hc:(SV.clo (.func f) first cap).inn []=true)(hf:∀i (h:i<l.length),Hb prog f (first++[Aa i,A2 l[i]]++cap) (Ab (p i l[i])))(hl:Am l):Sp 57 [.sl 4 A2 l,.clo (.func f) first cap] (Ab (H7 p l)):=cT F57 ntmps57 λF hF=>by
 unfold Am at hl;have ar:∀(i:Nat) (x:Static),B8 [] (first++[Aa i,A2 x]++cap)=true:=λi x=>C9 hc rfl
 conv=>whnf
 refine Bi l.length (λj=>H8 p l j) (λj=>[(0,.sl 4 A2 l),(1,.clo (.func f) first cap),(7,.sl 4 A2 l),(8,Aa l.length),(9,Aa j)]) (λ_=>[]) [] (Bo _ _) ⟨⟨E,E,Bd _,hc,E,E,E,E,E,E,Y⟩,Y,E,E⟩ ?_;intro j hj hI;refine oO ?_;constructor<;>intro h
 ·have h:=zO h;have an:j<l.length:=by omega
  refine oO ?_;refine⟨E,by omega,by omega,?_⟩
  conv=>whnf
  refine Eg (hf j an) E E E (by simp only[ar];rfl) E E ?_;refine oO ?_;constructor<;>intro h2
  ·refine oO ?_;refine As E (.cons .tmp .nil) (zH Ab ?_) E;exact Dg an (by simpa using h2)
  ·refine gE ?_;exact Bc [] hI an (Bl hI an (by simpa using h2)) ⟨⟨E,E,Bd _,hc,E,E,E,E,E,E,Y⟩,Y,E,E⟩
 ·have h:=zT h;refine oO ?_;refine As E (.cons .tmp .nil) (zH Ab ?_) E;exact Hh hI q_
def Avw(l:List Flood)(p:Nat→Flood→Bool)(f:FuncId)(first cap:List SV)(hc:(SV.clo (.func f) first cap).inn []=true)(hf:∀i (h:i<l.length),Hb prog f (first++[Aa i,Bh l[i]]++cap) (Ab (p i l[i])))(hl:Am l):Sp 59 [.sl 4 Bh l,.clo (.func f) first cap] (Ab (H7 p l)):=cT F59 ntmps59 λF hF=>by
 unfold Am at hl;have ar:∀(i:Nat) (x:Flood),B8 [] (first++[Aa i,Bh x]++cap)=true:=λi x=>C9 hc rfl
 conv=>whnf
 refine Bi l.length (λj=>H8 p l j) (λj=>[(0,.sl 4 Bh l),(1,.clo (.func f) first cap),(7,.sl 4 Bh l),(8,Aa l.length),(9,Aa j)]) (λ_=>[]) [] (Bo _ _) ⟨⟨E,E,Bd _,hc,E,E,E,E,E,E,Y⟩,Y,E,E⟩ ?_;intro j hj hI;refine oO ?_;constructor<;>intro h
 ·have h:=zO h;have an:j<l.length:=by omega
  refine oO ?_;refine⟨E,by omega,by omega,?_⟩
  conv=>whnf
  refine Eg (hf j an) E E E (by simp only[ar];rfl) E E ?_;refine oO ?_;constructor<;>intro h2
  ·refine oO ?_;refine As E (.cons .tmp .nil) (zH Ab ?_) E;exact Dg an (by simpa using h2)
  ·refine gE ?_;exact Bc [] hI an (Bl hI an (by simpa using h2)) ⟨⟨E,E,Bd _,hc,E,E,E,E,E,E,Y⟩,Y,E,E⟩
 ·have h:=zT h;refine oO ?_;refine As E (.cons .tmp .nil) (zH Ab ?_) E;exact Hh hI q_
def A5o(l:List Vrf)(p:Nat→Vrf→Bool)(f:FuncId)(first cap:List SV)(hc:(SV.clo (.func f) first cap).inn []=true)(hf:∀i (h:i<l.length),Hb prog f (first++[Aa i,Ck l[i]]++cap) (Ab (p i l[i])))(hl:Am l):Sp 62 [.sl 5 Ck l,.clo (.func f) first cap] (Ab (H7 p l)):=cT F62 ntmps62 λF hF=>by
 unfold Am at hl;have ar:∀(i:Nat) (x:Vrf),B8 [] (first++[Aa i,Ck x]++cap)=true:=λi x=>C9 hc rfl
 conv=>whnf
 refine Bi l.length (λj=>H8 p l j) (λj=>[(0,.sl 5 Ck l),(1,.clo (.func f) first cap),(7,.sl 5 Ck l),(8,Aa l.length),(9,Aa j)]) (λ_=>[]) [] (Bo _ _) ⟨⟨E,E,Bd _,hc,E,E,E,E,E,E,Y⟩,Y,E,E⟩ ?_;intro j hj hI;refine oO ?_;constructor<;>intro h
 ·have h:=zO h;have an:j<l.length:=by omega
  refine oO ?_;refine⟨E,by omega,by omega,?_⟩
  conv=>whnf
  refine Eg (hf j an) E E E (by simp only[ar];rfl) E E ?_;refine oO ?_;constructor<;>intro h2
  ·refine oO ?_;refine As E (.cons .tmp .nil) (zH Ab ?_) E;exact Dg an (by simpa using h2)
  ·refine gE ?_;exact Bc [] hI an (Bl hI an (by simpa using h2)) ⟨⟨E,E,Bd _,hc,E,E,E,E,E,E,Y⟩,Y,E,E⟩
 ·have h:=zT h;refine oO ?_;refine As E (.cons .tmp .nil) (zH Ab ?_) E;exact Hh hI q_
def A5p(l:List Irb)(p:Nat→Irb→Bool)(f:FuncId)(first cap:List SV)(hc:(SV.clo (.func f) first cap).inn []=true)(hf:∀i (h:i<l.length),Hb prog f (first++[Aa i,Cb l[i]]++cap) (Ab (p i l[i])))(hl:Am l):Sp 65 [.sl 5 Cb l,.clo (.func f) first cap] (Ab (H7 p l)):=cT F65 ntmps65 λF hF=>by
 unfold Am at hl;have ar:∀(i:Nat) (x:Irb),B8 [] (first++[Aa i,Cb x]++cap)=true:=λi x=>C9 hc rfl
 conv=>whnf
 refine Bi l.length (λj=>H8 p l j) (λj=>[(0,.sl 5 Cb l),(1,.clo (.func f) first cap),(7,.sl 5 Cb l),(8,Aa l.length),(9,Aa j)]) (λ_=>[]) [] (Bo _ _) ⟨⟨E,E,Bd _,hc,E,E,E,E,E,E,Y⟩,Y,E,E⟩ ?_;intro j hj hI;refine oO ?_;constructor<;>intro h
 ·have h:=zO h;have an:j<l.length:=by omega
  refine oO ?_;refine⟨E,by omega,by omega,?_⟩
  conv=>whnf
  refine Eg (hf j an) E E E (by simp only[ar];rfl) E E ?_;refine oO ?_;constructor<;>intro h2
  ·refine oO ?_;refine As E (.cons .tmp .nil) (zH Ab ?_) E;exact Dg an (by simpa using h2)
  ·refine gE ?_;exact Bc [] hI an (Bl hI an (by simpa using h2)) ⟨⟨E,E,Bd _,hc,E,E,E,E,E,E,Y⟩,Y,E,E⟩
 ·have h:=zT h;refine oO ?_;refine As E (.cons .tmp .nil) (zH Ab ?_) E;exact Hh hI q_
def A5n(l:List Int)(p:Nat→Int→Bool)(f:FuncId)(first cap:List SV)(hc:(SV.clo (.func f) first cap).inn []=true)(hf:∀i (h:i<l.length),Hb prog f (first++[Aa i,Aa l[i]]++cap) (Ab (p i l[i])))(hl:Am l):Sp 124 [.sl 1 Aa l,.clo (.func f) first cap] (Ab (H7 p l)):=cT F124 ntmps124 λF hF=>by
 unfold Am at hl;have ar:∀(i:Nat) (x:Int),B8 [] (first++[Aa i,Aa x]++cap)=true:=λi x=>C9 hc rfl
 conv=>whnf
 refine Bi l.length (λj=>H8 p l j) (λj=>[(0,.sl 1 Aa l),(1,.clo (.func f) first cap),(7,.sl 1 Aa l),(8,Aa l.length),(9,Aa j)]) (λ_=>[]) [] (Bo _ _) ⟨⟨E,E,Bd _,hc,E,E,E,E,E,E,Y⟩,Y,E,E⟩ ?_;intro j hj hI;refine oO ?_;constructor<;>intro h
 ·have h:=zO h;have an:j<l.length:=by omega
  refine oO ?_;refine⟨E,by omega,by omega,?_⟩
  conv=>whnf
  refine Eg (hf j an) E E E (by simp only[ar];rfl) E E ?_;refine oO ?_;constructor<;>intro h2
  ·refine oO ?_;refine As E (.cons .tmp .nil) (zH Ab ?_) E;exact Dg an (by simpa using h2)
  ·refine gE ?_;exact Bc [] hI an (Bl hI an (by simpa using h2)) ⟨⟨E,E,Bd _,hc,E,E,E,E,E,E,Y⟩,Y,E,E⟩
 ·have h:=zT h;refine oO ?_;refine As E (.cons .tmp .nil) (zH Ab ?_) E;exact Hh hI q_
structure Net.Fin(n:Net):Prop where
 devices:Am n.devices
 ports:Am n.ports
 links:Am n.links
 domains:Am n.domains
 statics:Am n.statics
 floods:Am n.floods
 vrfs:Am n.vrfs
 irbs:Am n.irbs
 tagged:∀p∈n.ports,Am p.tagged
 peers:∀d∈n.domains,Am d.peers
 addrs:∀f∈n.floods,Am f.addrs
 imports:∀v∈n.vrfs,Am v.imports
 exports:∀v∈n.vrfs,Am v.exports
def C5(n:Net)(dev vlan:Int):Int:=Br (λd=>d.dev==dev&&d.vlan==vlan) n.domains
def A7m(dev vlan:Int)(d:Domain):Sp 199 [Aq d,.ref 1 (Aa dev) 0,.ref 1 (Aa vlan) 0] (Ab (d.dev==dev&&d.vlan==vlan)):=cT F199 ntmps199 λF hF=>by
 conv=>whnf
 (repeat' (first|(refine⟨λh=>?_,λh=>?_⟩<;>(repeat (first|simp only[yI]at h|simp only[zR]at h))<;>((refine oO ?_)))|(refine As rfl (.cons .tmp .nil) ?_ rfl)))
 all_goals (refine zH Ab ?_)
 all_goals simp_all
def Tq(n:Net)(dev vlan:Int)(hl:Am n.domains):Sp 123 [Ao n,Aa dev,Aa vlan] (Aa (C5 n dev vlan)):=cT F123 ntmps123 λF hF=>by
 conv=>whnf
 refine Ba 4 1 (Aa dev) E E E ?_;refine Ba 5 1 (Aa vlan) E E E ?_;refine c0 (E5 n.domains (λd=>d.dev==dev&&d.vlan==vlan) 199 [] [.ref 1 (Aa dev) 0,.ref 1 (Aa vlan) 0] E (λd _=>⟨⟨_,_,F199⟩,A7m dev vlan d⟩) hl) F198 ?_;exact gF
def Ai8(n:Net):Bool:=decide (n.devices.length≤8)&&decide (n.ports.length≤40)&&decide (n.links.length≤20)&&decide (n.domains.length≤48)&&decide (n.statics.length≤64)&&decide (n.floods.length≤48)&&decide (n.vrfs.length≤16)&&decide (n.irbs.length≤48)
def fewS(n:Net):Sp 49 [Ao n] (Ab (Ai8 n)):=cT F49 ntmps49 λF hF=>by
 conv=>whnf
 (repeat' (first|(refine⟨λh=>?_,λh=>?_⟩<;>(repeat (first|simp only[zK]at h|simp only[yE]at h))<;>((refine oO ?_);repeat((refine aF ?_);(refine oO ?_))))|(refine As rfl (.cons .tmp .nil) ?_ rfl)))
 all_goals (refine zH Ab ?_)
 all_goals (unfold Ai8;rw[wF];simp;omega)
def O4(n:Net)(i:Nat)(d:Domain):Bool :=
 Ai d.dev n.devices.length&&decide (1≤d.vlan)&&decide (d.vlan≤4094)&&decide (0≤d.vni)&&decide (d.vni≤16777215)&&(d.irb == -1||Ai d.irb n.irbs.length&&(nth n.irbs d.irb).domain==i)&&C5 n d.dev d.vlan==i
def bareS(n:Net)(i:Nat)(d:Domain)(hl:Am n.domains):Sp 51 [Ao n,Aa i,Aq d] (Ab (O4 n i d)):=cT F51 ntmps51 λF hF=>by
 conv=>whnf
 (repeat' (first|(refine⟨λh=>?_,λh=>?_⟩<;>(repeat (first|simp only[Ai]at h|simp only[zK]at h|simp only[yE]at h|simp only[yI]at h|simp only[zR]at h|simp only[zG]at h|simp only[yX]at h))<;>((refine oO ?_);repeat((first|refine aF ?_|refine aT ?_);(refine oO ?_))))|(refine As rfl (.cons .tmp .nil) ?_ rfl)|(refine⟨z_,?_⟩;((conv=>whnf)))|(refine⟨by (omega),by (omega),?_⟩;((conv=>whnf)))|(refine c0 (Jh 5 Aw n.devices d.dev) F61 ?_;((refine oO ?_)))|(refine c0 (Atr 5 Cb n.irbs d.irb) F122 ?_;((refine oO ?_)))|(refine c0 (Tq n d.dev d.vlan hl) F123 ?_;((refine oO ?_)))))
 all_goals (refine zH Ab ?_)
 all_goals (clear hF;grind [O4,Ai,Af])
def Mh(n:Net)(d:Domain):Bool:=(nth n.devices d.dev).vtep != 0
def A8a(n:Net)(d:Domain)(hd:Ai d.dev n.devices.length=true):Sp 200 [Ao n,Aq d] (Ab (Mh n d)):=cT F200 ntmps200 λF hF=>by
 simp only[Ai,zG,zK]at hd
 conv=>whnf
 (repeat' (first|(refine As rfl (.cons .tmp .nil) ?_ rfl)|(refine⟨z_,?_⟩;((conv=>whnf)))|(refine⟨by (omega),by (omega),?_⟩;((conv=>whnf)))))
 all_goals (refine zH Ab ?_)
 all_goals (clear hF;grind [Mh,Af])
def Sb(n:Net)(i:Nat)(d:Domain)(k:Int):Bool :=
 Ai k n.domains.length&&k != i&&Ai (nth n.domains k).dev n.devices.length&&(nth n.domains k).dev != d.dev&&(nth n.domains k).vni==d.vni&&d.vni != 0&&Mh n (nth n.domains k)&&Mh n d&&inB (nth n.domains k).peers i
def peerS(n:Net)(i:Nat)(d:Domain)(k:Int)(hn:n.Fin)(hd:Ai d.dev n.devices.length=true):Sp 126 [Ao n,Aa i,Aq d,Aa k] (Ab (Sb n i d k)):=cT F126 ntmps126 λF hF=>by
 conv=>whnf
 (repeat' (first|(refine⟨λh=>?_,λh=>?_⟩<;>(repeat (first|simp only[Ai]at h|simp only[zK]at h|simp only[yE]at h|simp only[yI]at h|simp only[zR]at h|simp only[xB]at h|simp only[bne_eq_false_iff_eq]at h|simp only[zG]at h|simp only[yX]at h|simp only[yT]at h|simp only[wS]at h))<;>((refine oO ?_);repeat((first|refine aF ?_|refine aT ?_);(refine oO ?_))))|(refine As rfl (.cons .tmp .nil) ?_ rfl)|(refine⟨z_,?_⟩;((conv=>whnf)))|(refine⟨by (omega),by (omega),?_⟩;((conv=>whnf)))|(refine c0 (Ln 6 Aq n.domains k) F130 ?_;((refine oO ?_)))|(refine c0 (Jh 5 Aw n.devices (n.domains[k.toNat]'q_).dev) F61 ?_;((refine oO ?_)))|(refine c0 (A8a n (n.domains[k.toNat]'q_) (by simp only[Ai,zG,zK];omega)) F200 ?_;((refine oO ?_)))|(refine c0 (A8a n d hd) F200 ?_;((refine oO ?_)))|(refine c0 (Eb (n.domains[k.toNat]'q_).peers i (hn.peers _ (zJ _))) F74 ?_;((refine oO ?_)))))
 all_goals (refine zH Ab ?_;clear hF;grind [Sb,Ai,Af])
def Oj(n:Net)(i:Nat)(d:Domain):Bool:=H7 (λat_ k=>Sb n i d k&&Br (·==k) d.peers==at_) d.peers
def peers1(n:Net)(i:Nat)(d:Domain)(at_:Nat)(k:Int)(hn:n.Fin)(hp:Am d.peers)(hd:Ai d.dev n.devices.length=true):Sp 125 [Aa at_,Aa k,.ref 8 (Ao n) 0,.ref 1 (Aa i) 0,.ref 6 (Aq d) 0] (Ab (Sb n i d k&&Br (·==k) d.peers==at_)):=cT F125 ntmps125 λF hF=>by
 conv=>whnf
 (repeat' (first|(refine⟨λh=>?_,λh=>?_⟩<;>((refine oO ?_)))|(refine As rfl (.cons .tmp .nil) ?_ rfl)|(refine c0 (peerS n i d k hn hd) F126 ?_;((refine oO ?_)))|(refine c0 (A4e d.peers k hp) F127 ?_;((refine oO ?_)))))
 all_goals (refine zH Ab ?_;clear hF;grind)
def peersS(n:Net)(i:Nat)(d:Domain)(hn:n.Fin)(hp:Am d.peers)(hd:Ai d.dev n.devices.length=true):Sp 52 [Ao n,Aa i,Aq d] (Ab (Oj n i d)):=cT F52 ntmps52 λF hF=>by
 conv=>whnf
 refine Ba 3 8 (Ao n) E E E ?_;refine Ba 4 1 (Aa i) E E E ?_;refine Ba 5 6 (Aq d) E E E ?_;refine c0 (A5n d.peers (λat_ k=>Sb n i d k&&Br (·==k) d.peers==at_) 125 [] [.ref 8 (Ao n) 0,.ref 1 (Aa i) 0,.ref 6 (Aq d) 0] E (λa ha=>⟨⟨_,_,F125⟩,peers1 n i d a d.peers[a] hn hp hd⟩) hp) F124 ?_;exact gF
def Eo(n:Net)(dev vlan:Int):Bool:=decide (0≤C5 n dev vlan)
def J8(n:Net)(i:Nat)(p:Port):Bool :=
 Ai p.dev n.devices.length&&decide (0≤p.native)&&decide (p.native≤4094)&&(decide (p.tagged.length=0)||Jq p.tagged 1 4094)&&!inB p.tagged p.native&&!(p.native==0&&decide (p.tagged.length=0)) &&
  H7 (λ_ v=>Eo n p.dev v) p.tagged&&!(decide (0<p.native)&&!Eo n p.dev p.native) &&
  (p.link == -1||Ai p.link n.links.length&&((nth n.links p.link).a==i||(nth n.links p.link).b==i))
def Aup(n:Net)(i:Nat)(p:Port)(hn:n.Fin)(hp:Am p.tagged):Sp 54 [Ao n,Aa i,A7 p] (Ab (J8 n i p)):=cT F54 ntmps54 λF hF=>by
 conv=>whnf
 (repeat' (first|(refine⟨λh=>?_,λh=>?_⟩<;>(repeat (first|simp only[Ai]at h|simp only[zK]at h|simp only[yE]at h|simp only[yI]at h|simp only[zR]at h|simp only[zG]at h|simp only[yO]at h|simp only[yX]at h|simp only[wJ]at h|simp only[yT]at h|simp only[wS]at h))<;>((refine oO ?_);repeat((first|refine aF ?_|refine aT ?_);(refine oO ?_))))|(refine As rfl (.cons .tmp .nil) ?_ rfl)|(refine c0 (Jh 5 Aw n.devices p.dev) F61 ?_;((refine oO ?_)))|(refine c0 (Al1 p.tagged 4094 hp) F64 ?_;((refine oO ?_)))|(refine c0 (Eb p.tagged p.native hp) F74 ?_;((refine oO ?_)))))
 all_goals first|(refine zH Ab ?_;clear hF;grind [J8,Ai])|skip
 all_goals (
  refine Ba 3 8 (Ao n) E E E ?_;refine Ba 5 7 (A7 p) E E E ?_;refine Bi p.tagged.length (λj=>H8 (λ_ v=>Eo n p.dev v) p.tagged j) (λj=>[(1,Aa i),(3,.ref 8 (Ao n) 0),(5,.ref 7 (A7 p) 0),(51,.sl 1 Aa p.tagged),(52,Aa p.tagged.length),(53,Aa j)]) (λ_=>[]) [] (Bo _ _) uU ?_;intro j hj hI;have lc:=hp;unfold Am at lc
  (refine fU ?_))
 all_goals (
  (repeat' (first | (refine⟨λ h=>?_,λ h=>?_⟩<;>(repeat (first | simp only[Ai]at h | simp only[zK]at h | simp only[yE]at h | simp only[yI]at h | simp only[zR]at h | simp only[zG]at h | simp only[yX]at h))<;>((refine oO ?_);repeat((refine aF ?_);(refine oO ?_)))) | (refine As rfl (.cons .tmp .nil) ?_ rfl) | (refine⟨z_,?_⟩;((conv=>whnf))) | (refine⟨by (omega),by (omega),?_⟩;((conv=>whnf))) | (refine⟨by (unfold I64;omega),?_⟩;((conv=>whnf))) | (refine c0 (Tq n p.dev (p.tagged[j]'q_) hn.domains) F123 ?_;((refine oO ?_))) | (refine c0 (Tq n p.dev p.native hn.domains) F123 ?_;((refine oO ?_))) | (refine c0 (Ao7 3 B5 n.links p.link) F128 ?_;((refine oO ?_))) | refine Bc [] hI q_ ?_ uU)))
 all_goals first
  |exact Bl hI q_ (by simp only[Eo,zK];omega)
  | (refine zH Ab ?_
     have h0:H7 (λ _ v=>Eo n p.dev v) p.tagged=false:=Dg (i:=j) q_ (by simp only[Eo,yE];omega);clear hF hI;grind [J8])
  | (refine zH Ab ?_
     have h0:H7 (λ _ v=>Eo n p.dev v) p.tagged=true:=Hh hI q_;clear hF hI;grind [J8,Ai,Eo,Af])
def Mj(n:Net)(i:Nat)(l:Link):Bool :=
 Ai l.a n.ports.length&&Ai l.b n.ports.length&&(nth n.ports l.a).dev != (nth n.ports l.b).dev&&(nth n.ports l.a).link==i&&(nth n.ports l.b).link==i
def Auq(n:Net)(i:Nat)(l:Link):Sp 56 [Ao n,Aa i,B5 l] (Ab (Mj n i l)):=cT F56 ntmps56 λF hF=>by
 conv=>whnf
 (repeat' (first|(refine⟨λh=>?_,λh=>?_⟩<;>(repeat (first|simp only[Ai]at h|simp only[zK]at h|simp only[yE]at h|simp only[yI]at h|simp only[zR]at h|simp only[xB]at h|simp only[bne_eq_false_iff_eq]at h|simp only[zG]at h|simp only[yX]at h|simp only[yT]at h|simp only[wS]at h))<;>((refine oO ?_);repeat((first|refine aF ?_|refine aT ?_);(refine oO ?_))))|(refine As rfl (.cons .tmp .nil) ?_ rfl)|(refine⟨z_,?_⟩;((conv=>whnf)))|(refine⟨by (omega),by (omega),?_⟩;((conv=>whnf)))|(refine c0 (Vi 7 A7 n.ports l.a) F129 ?_;((refine oO ?_)))|(refine c0 (Vi 7 A7 n.ports l.b) F129 ?_;((refine oO ?_)))))
 all_goals (refine zH Ab ?_;clear hF;grind [Mj,Ai,Af])
def Ll(n:Net)(s:Static):Bool :=
 Ai s.domain n.domains.length&&Ai s.port n.ports.length&&(nth n.ports s.port).dev==(nth n.domains s.domain).dev&&Cw (nth n.ports s.port) (nth n.domains s.domain).vlan
def Ams(n:Net)(i:Nat)(s:Static)(hn:n.Fin):Sp 58 [Ao n,Aa i,A2 s] (Ab (Ll n s)):=cT F58 ntmps58 λF hF=>by
 conv=>whnf
 (repeat' (first|(refine⟨λh=>?_,λh=>?_⟩<;>(repeat (first|simp only[Ai]at h|simp only[zK]at h|simp only[yE]at h|simp only[yI]at h|simp only[zR]at h|simp only[zG]at h|simp only[yX]at h|simp only[yT]at h|simp only[wS]at h))<;>((refine oO ?_);repeat((refine aT ?_);(refine oO ?_))))|(refine As rfl (.cons .tmp .nil) ?_ rfl)|(refine⟨z_,?_⟩;((conv=>whnf)))|(refine⟨by (omega),by (omega),?_⟩;((conv=>whnf)))|(refine c0 (Ln 6 Aq n.domains s.domain) F130 ?_;((refine oO ?_)))|(refine c0 (Vi 7 A7 n.ports s.port) F129 ?_;((refine oO ?_)))|(refine c0 (Z9 (n.ports[s.port.toNat]'q_) (n.domains[s.domain.toNat]'q_).vlan (hn.tagged _ (zJ _))) F131 ?_;((refine oO ?_)))))
 all_goals (refine zH Ab ?_;clear hF;grind [Ll,Ai,Af])
def Ai0(n:Net)(i:Nat)(x:Irb):Bool :=
 Ai x.domain n.domains.length&&Ai x.vrf n.vrfs.length&&(nth n.domains x.domain).dev==(nth n.vrfs x.vrf).dev&&(nth n.domains x.domain).irb==i&&decide (1≤x.bits)&&decide (x.bits≤30)
def A0a(n:Net)(i:Nat)(x:Irb):Sp 66 [Ao n,Aa i,Cb x] (Ab (Ai0 n i x)):=cT F66 ntmps66 λF hF=>by
 conv=>whnf
 (repeat' (first|(refine⟨λh=>?_,λh=>?_⟩<;>(repeat (first|simp only[Ai]at h|simp only[zK]at h|simp only[yE]at h|simp only[yI]at h|simp only[zR]at h|simp only[zG]at h|simp only[yX]at h))<;>((refine rd z_ ?_);(conv=>whnf);repeat((refine aF ?_);(refine rd z_ ?_);(conv=>whnf))))|(refine As rfl (.cons .tmp .nil) ?_ rfl)|(refine⟨z_,?_⟩;((conv=>whnf)))|(refine⟨by (omega),by (omega),?_⟩;((conv=>whnf)))|(refine cD (Ln 6 Aq n.domains x.domain) F130 ?_;((refine rd z_ ?_);(conv=>whnf)))|(refine cD (Atq 5 Ck n.vrfs x.vrf) F133 ?_;((refine rd z_ ?_);(conv=>whnf)))))
 all_goals (refine zH Ab ?_;clear hF;grind [Ai0,Ai,Af])
def Oy(n:Net)(f:Flood):Bool:=Ai f.dev n.devices.length&&decide (f.addrs.length≤16)
def right1(n:Net)(i:Nat)(f:Flood):Sp 60 [Aa i,Bh f,.ref 8 (Ao n) 0] (Ab (Oy n f)):=cT F60 ntmps60 λF hF=>by
 conv=>whnf
 (repeat' (first|(refine⟨λh=>?_,λh=>?_⟩<;>(repeat (first|simp only[Ai]at h|simp only[zK]at h|simp only[yE]at h|simp only[zG]at h|simp only[yX]at h))<;>((refine oO ?_)))|(refine As rfl (.cons .tmp .nil) ?_ rfl)|(refine c0 (Jh 5 Aw n.devices f.dev) F61 ?_;((refine oO ?_)))))
 all_goals (refine zH Ab ?_;clear hF;grind [Oy,Ai])
def U5(l:List Int)(bf:Int):Bool:=decide (l.length=0)||Jq l 1 bf
def An1(n:Net)(v:Vrf):Bool:=Ai v.dev n.devices.length&&U5 v.imports 65535&&U5 v.exports 65535
def right2(n:Net)(i:Nat)(v:Vrf)(h1:Am v.imports)(h2:Am v.exports):Sp 63 [Aa i,Ck v,.ref 8 (Ao n) 0] (Ab (An1 n v)):=cT F63 ntmps63 λF hF=>by
 conv=>whnf
 (repeat' (first|(refine⟨λh=>?_,λh=>?_⟩<;>(repeat (first|simp only[Ai]at h|simp only[zK]at h|simp only[yE]at h|simp only[zG]at h|simp only[yO]at h|simp only[yX]at h|simp only[wJ]at h))<;>((refine oO ?_);repeat((refine aF ?_);(refine oO ?_))))|(refine As rfl (.cons .tmp .nil) ?_ rfl)|(refine c0 (Jh 5 Aw n.devices v.dev) F61 ?_;((refine oO ?_)))|(refine c0 (Al1 v.imports 65535 h1) F64 ?_;((refine oO ?_)))|(refine c0 (Al1 v.exports 65535 h2) F64 ?_;((refine oO ?_)))))
 all_goals (refine zH Ab ?_;clear hF;grind [An1,U5,Ai])
def Ac(n:Net):Bool :=
 Ai8 n&&H7 (O4 n) n.domains&&H7 (Oj n) n.domains&&H7 (J8 n) n.ports&&H7 (Mj n) n.links&&H7 (λ_=>Ll n) n.statics&&H7 (λ_=>Oy n) n.floods&&H7 (λ_=>An1 n) n.vrfs&&H7 (Ai0 n) n.irbs
def Ari{n:Net}(h:H7 (O4 n) n.domains=true){i:Nat}(hi:i<n.domains.length):Ai n.domains[i].dev n.devices.length=true:=by
 have:=allB_iff.1 h i hi;simp only[O4,zG]at this;exact this.1.1.1.1.1.1
def A0(n:Net)(hn:n.Fin):Sp 20 [Ao n] (Ab (Ac n)):=cT F20 ntmps20 λF hF=>by
 conv=>whnf
 refine Ba 1 8 (Ao n) E E E ?_
 (repeat' (first|(refine⟨λh=>?_,λh=>?_⟩<;>((refine oO ?_);repeat((refine aF ?_);(refine oO ?_))))|(refine As rfl (.cons .tmp .nil) ?_ rfl)|(refine c0 (fewS n) F49 ?_;((refine oO ?_)))|(refine c0 (Ad9 n.domains (O4 n) 51 [Ao n] [] rfl (λi h=>⟨⟨_,_,F51⟩,bareS n i n.domains[i] hn.domains⟩) hn.domains) F50 ?_;((refine oO ?_)))|(refine Mn (Ad9 n.domains (Oj n) 52 [Ao n] [] rfl (λi h=>⟨⟨_,_,F52⟩,peersS n i n.domains[i] hn (hn.peers _ (zJ _)) (Ari ‹_› h)⟩) hn.domains) F50 rfl rfl rfl rfl rfl ?_;((refine oO ?_)))|(refine Mn (A09 n.ports (J8 n) 54 [Ao n] [] rfl (λi h=>⟨⟨_,_,F54⟩,Aup n i n.ports[i] hn (hn.tagged _ (zJ _))⟩) hn.ports) F53 rfl rfl rfl rfl rfl ?_;((refine oO ?_)))|(refine c0 (A1a n.links (Mj n) 56 [Ao n] [] rfl (λi h=>⟨⟨_,_,F56⟩,Auq n i n.links[i]⟩) hn.links) F55 ?_;((refine oO ?_)))|(refine c0 (Arm n.statics (λ_=>Ll n) 58 [Ao n] [] rfl (λi h=>⟨⟨_,_,F58⟩,Ams n i n.statics[i] hn⟩) hn.statics) F57 ?_;((refine oO ?_)))|(refine c0 (Avw n.floods (λ_=>Oy n) 60 [] [.ref 8 (Ao n) 0] rfl (λi h=>⟨⟨_,_,F60⟩,right1 n i n.floods[i]⟩) hn.floods) F59 ?_;((refine oO ?_)))|(refine Mn (A5o n.vrfs (λ_=>An1 n) 63 [] [.ref 8 (Ao n) 0] rfl (λi h=>⟨⟨_,_,F63⟩,right2 n i n.vrfs[i] (hn.imports _ (zJ _)) (hn.exports _ (zJ _))⟩) hn.vrfs) F62 rfl rfl rfl rfl rfl ?_;((refine oO ?_)))|(refine c0 (A5p n.irbs (Ai0 n) 66 [Ao n] [] rfl (λi h=>⟨⟨_,_,F66⟩,A0a n i n.irbs[i]⟩) hn.irbs) F65 ?_;((refine oO ?_)))))
 all_goals (refine zH Ab ?_)
 all_goals (clear hF;simp_all[Ac])
def Jn{P:Program}(Γ:Ty P){o:Oper}{s:SS}{t:TypeId}{ti:TI}{et:TypeId}{sz eb lo hi:Nat}{ez:List Value}{x:Operand}{lx hx:Option Operand}{α:Type}{e:α→SV}{l:List α}(r:List α)(h:o.op=.slice t x lx hx none)(ht:Γ.get t=some ti)(hk:ti.k=.slice et sz eb ez)(l6:ev s x=.sl sz e l)(oq:BoundIs s lx 0 lo)(ma:BoundIs s hx l.length hi)(h1:lo≤hi)(h2:hi≤l.length)(hr:(l.take hi).drop lo=r):Good P o s ⟨.sl sz e r,[],[]⟩:=by
 subst hr;exact D0 Γ h ht hk l6 oq ma h1 h2
def Akc(a:Int):Sp 312 [Aa a] (Ab false):=cT F312 ntmps312 λF hF=>by
 conv=>whnf
 exact As E (.cons .tmp .nil) (zH Ab y_) E
def Akb(a:Int):Sp 313 [Bj a] (Ab false):=cT F313 ntmps313 λF hF=>by
 conv=>whnf
 exact As E (.cons .tmp .nil) (zH Ab y_) E
def cmpI(a b:Int):Int:=if a<b then -1 else if a>b then 1 else 0
def Kh(a b:Int):Sp 248 [Aa a,Aa b] (Aa (cmpI a b)):=cT F248 ntmps248 λF hF=>by
 conv=>whnf
 (repeat' (first|(refine⟨λh=>?_,λh=>?_⟩<;>(repeat (first|simp only[zK]at h|simp only[yE]at h))<;>((refine oO ?_)))|(refine As rfl (.cons .tmp .nil) ?_ rfl)|(refine c0 (Akc a) F312 ?_;((refine oO ?_)))|(refine c0 (Akc b) F312 ?_;((refine oO ?_);repeat((refine aF ?_);(refine oO ?_))))))
 all_goals (refine zH Aa ?_;clear hF;grind [cmpI])
def Aq8(a b:Int):Sp 249 [Bj a,Bj b] (Aa (cmpI a b)):=cT F249 ntmps249 λF hF=>by
 conv=>whnf
 (repeat' (first|(refine⟨λh=>?_,λh=>?_⟩<;>(repeat (first|simp only[zK]at h|simp only[yE]at h))<;>((refine oO ?_)))|(refine As rfl (.cons .tmp .nil) ?_ rfl)|(refine c0 (Akb a) F313 ?_;((refine oO ?_)))|(refine c0 (Akb b) F313 ?_;((refine oO ?_);repeat((refine aF ?_);(refine oO ?_))))))
 all_goals (refine zH Aa ?_;clear hF;grind [cmpI])
def orI:List Int→Int
 |[]=>0
 |x::l=>if x=0 then orI l else x
def Aga:∀{l:List Int} {j:Nat},(∀i (h:i<l.length),i<j→l[i]=0)→orI l=orI (l.drop j)
 |l,0,_=>rfl
 |[],j+1,_=>rfl
 |x::l,j+1,h=>by
  have h0:=h 0 y_ q_;simp only[tO]at h0;rw[orI,zE h0,List.drop_succ_cons];exact Aga λi hi bc=>h (i+1) (by simp;omega) q_
def orS(l:List Int)(hl:Am l):Sp 247 [.sl 1 Aa l] (Aa (orI l)):=cT F247 ntmps247 λF hF=>by
 unfold Am at hl
 conv=>whnf
 refine Bi l.length (λj=>∀i (h:i<l.length),i<j→l[i]=0) (λj=>[(3,Aa 0),(6,.sl 1 Aa l),(7,Aa l.length),(8,Aa j)]) (λ_=>[]) [] (λi h hj=>yB hj q_) uU ?_;intro j hj hI;refine oO ?_
 (repeat' (first|(refine⟨λh=>?_,λh=>?_⟩<;>(repeat (first|simp only[zK]at h|simp only[yE]at h|simp only[xB]at h|simp only[bne_eq_false_iff_eq]at h))<;>((refine oO ?_)))|(refine As rfl (.cons .tmp .nil) ?_ rfl)|(refine⟨z_,?_⟩;((conv=>whnf)))|(refine⟨by (omega),by (omega),?_⟩;((conv=>whnf)))|(refine⟨by (unfold I64;omega),?_⟩;((conv=>whnf)))|refine Bc [] hI q_ ?_ uU))
 all_goals try (refine zH Aa ?_)
 ·have an:j<l.length:=by omega
  rw[Aga hI,yK an,orI,zD (by simpa using h)];rfl
 ·intro i hi bc;rcases vT i j with h1|h1
  ·exact hI i hi h1
  ·have:i=j:=by omega
   subst this;simpa using h
 ·rw[Aga hI,List.drop_of_length_le q_];rfl
def Tj(a b:Int)(l:List Int):decide (orI (cmpI a b::l)<0)=if a≠b then decide (a<b) else decide (orI l<0):=by
 rw[orI,cmpI];by_cases h1:a<b
 ·simp[h1,show a≠b by omega]
 ·by_cases h2:a>b
  ·simp[h1,h2,show a≠b by omega]
  ·simp[show a=b by omega]
structure Vec where
 (root cost bridge port own:Int)
def Uw(v:Vec):SV:=.agg [Aa v.root,Aa v.cost,Aa v.bridge,Aa v.port,Aa v.own]
def Hc(a b:Vec):Bool :=
 if a.root≠b.root then decide (a.root<b.root) else if a.cost≠b.cost then decide (a.cost<b.cost) else if a.bridge≠b.bridge then decide (a.bridge<b.bridge) else
  if a.port≠b.port then decide (a.port<b.port) else decide (a.own<b.own)
def lessS(a b:Vec):Sp 316 [Uw a,Uw b] (Ab (Hc a b)):=cT F316 ntmps316 λF hF=>by
 conv=>whnf
 (repeat' (first|(refine⟨λh=>?_,λh=>?_⟩<;>(repeat (first|simp only[yI]at h|simp only[zR]at h|simp only[zG]at h|simp only[yX]at h))<;>((refine oO ?_)))|(refine As rfl (.cons .tmp .nil) ?_ rfl)|(refine⟨z_,?_⟩;((conv=>whnf)))|(refine cD (Kh a.root b.root) F248 ?_;((refine rd z_ ?_);(conv=>whnf)))|(refine cD (Kh a.cost b.cost) F248 ?_;((refine rd z_ ?_);(conv=>whnf)))|(refine cD (Kh a.bridge b.bridge) F248 ?_;((refine rd z_ ?_);(conv=>whnf)))|(refine cD (Kh a.port b.port) F248 ?_;((refine rd z_ ?_);(conv=>whnf)))|(refine cD (Kh a.own b.own) F248 ?_;((refine rd z_ ?_);(conv=>whnf)))|(refine A5d [33] (orS [cmpI a.root b.root,cmpI a.cost b.cost,cmpI a.bridge b.bridge,cmpI a.port b.port,cmpI a.own b.own] (by simp[Am])) F247 rfl (.cons (.lit rfl rfl rfl) .nil) rfl z_ rfl ?_;((refine rd z_ ?_);(conv=>whnf)))))
 all_goals (refine zH Ab ?_;clear hF)
 ·grind [Hc]
 ·rw[Tj,Tj,Tj,Tj,Tj,Hc];by_cases h1:a.own=b.own
  ·simp[h1,orI]
  ·simp[h1]
end Go.Sy.YtolnneiipmfgaaaGreatDoor
namespace Go.Sy.YtolnneiipmfgaaaGreatDoor
open Go.Proofs Go.Proofs.Tryz
structure LineM where
 row:Int
 kind:Int
 dev:ByteArray
 port:ByteArray
 peer:ByteArray
 far:ByteArray
 name:ByteArray
 mac:Int
 addr:Int
 bits:Int
 vlan:Int
 num:Int
 cost:Int
 tagged:List Int
 imports:List Int
 exports:List Int
 addrs:List Int
def Ci(l:LineM):List SV:=[Aa l.row,Aa l.kind,Ap l.dev,Ap l.port,Ap l.peer,Ap l.far,Ap l.name,Bj l.mac,A9 l.addr,Aa l.bits,Aa l.vlan,Aa l.num,Aa l.cost,.sl 1 Aa l.tagged,.sl 1 Aa l.imports,.sl 1 Aa l.exports,.sl 1 A9 l.addrs]
def A3(l:LineM):SV:=.agg [Aa l.row,Aa l.kind,Ap l.dev,Ap l.port,Ap l.peer,Ap l.far,Ap l.name,Bj l.mac,A9 l.addr,Aa l.bits,Aa l.vlan,Aa l.num,Aa l.cost,.sl 1 Aa l.tagged,.sl 1 Aa l.imports,.sl 1 Aa l.exports,.sl 1 A9 l.addrs]
def A3b(x:Int)(l:List Int):orI (x::l)=Acv x (orI l):=by
 rw[orI];unfold Acv;split<;>simp_all
theorem CmpOK.const{α:Type}:CmpOK (λ_ _:α=>(0:Int)):=⟨λ_ _=>by simp,λ_ _ _ _ _=>by simp⟩
theorem CmpOK.or{α:Type}{c:α→α→Int}{d:α→α→List Int}(hc:CmpOK c)(hd:CmpOK (λx y=>orI (d x y))):CmpOK (λx y=>orI (c x y::d x y)):=by
 have h:=hc.then hd;simp only[A3b];exact h
open Go.Proofs Go.ChangeShapes Go.WideShapes Go.ChangeAt Go.RowKit
set_option maxRecDepth 100000
section
variable {H:Type} {enc:TypeId×Value→H} {W:World}
theorem opN_byte{P:Program}{t:TypeId}(ht:P.underlying t=some (.int .u8)):OpN enc P W t Ak (λ_=>True) 1:=λn cs y h=>by
 obtain ⟨z,h1,h2,h3,h4⟩:=Aws ht n cs y h;have hz:0≤z∧z<256:=by
  simp only[Lit.wf,zG,zK]at h1;have a:=h1.1;have b:=h1.2;simp only[IntKind.min,IntKind.max,IntKind.signed,IntKind.bits]at a b;constructor<;>simp at a b<;>omega
 refine⟨UInt8.ofNat z.toNat,Y,h2,h3,?_⟩;have e:Ak (UInt8.ofNat z.toNat)=.val (.int .u8 z):=by
  rw[Ak,UInt8.toNat_ofNat_of_lt' (by show _<256;omega),yR hz.1]
 rw[e];exact h4
theorem op_bytes:Op1 enc prog W 22 (λl:List UInt8=>.sl 1 Ak l) (λl=>(∀x∈l,True)∧l.length≤maxLen) :=
 Apd Tryz.underlying22 (by kernel_rfl:prog.cellsOf 5=1) j_ (λ_=>rfl) (λ_=>rfl) (opN_byte Tryz.underlying5)
end
end Go.Sy.YtolnneiipmfgaaaGreatDoor
namespace Go.Sy
def Aie{M:Nat→Prop}{w:World}{sz:Nat}{α:Type}{e:α→SV}{v:Value}(h:v=.slice none 0 0):RdD M w (.sl sz e []) v:=by
 simp only[RdD];exact .inl ⟨Y,none,0,h⟩
def Arv{C:Cx}{k:List KI}{s:SS}(d:Nat){sz:Nat}{α β:Type}{e:α→SV}{l:List α}{e':β→SV}{l':List β}(h:s.h d=.row sz e l)(hl:l'.length=l.length)(hv:∀(M:Nat→Prop) (w:World) (i:Nat) (h1:i<l.length) (h2:i<l'.length) (v:Value),RdD M w (e l[i]) v→RdD M w (e' l'[i]) v)(hg:G C k ⟨s.σ,upd s.h d (.row sz e' l')⟩):G C k s:=λκ a w hs=>
 hg κ a w ⟨hs.defers,hs.size,hs.inv,hs.ctx,hs.slot,λ i=>by
  show ObOK κ w i (upd s.h d (.row sz e' l') i);by_cases hi:i=d
  ·subst hi;rw[B1];have:=hs.obj i;rw[h]at this;rcases this with ⟨h1,rfl⟩|⟨b,cap,cs,T,fr,e1,e2,e3,e4,e5,e6⟩
   ·exact .inl ⟨h1,zX (by simpa using hl)⟩
   ·refine .inr ⟨b,cap,cs,T,fr,by rw[hl];exact e1,e2,e3,e4,by omega,λi x hx=>?_⟩;obtain ⟨kg,rfl⟩:=hx;obtain ⟨_,u,hu,db⟩:=e6 i (e (l[i]'q_)) ⟨by omega,rfl⟩;exact⟨kg,u,hv _ _ i q_ kg u hu,db⟩
  ·rw[Cy _ _ hi];exact hs.obj i⟩
def Axm{κ:Ka}{w:World}{x:SV}:∀{l:List SV} {cs:List Value} {i:Nat},RdL κ w l cs→(∀y v,l[i]? = some y→Rd κ w y v→Rd κ w x v)→RdL κ w (l.set i x) cs
 |[],_,_,h,_=>h
 |y::l,cs,0,h,hx=>by
  simp only[RdL,uR]at h⊢;obtain ⟨v,r,e1,e2,e3⟩:=h;exact⟨v,r,e1,hx y v E e2,e3⟩
 |y::l,cs,i+1,h,hx=>by
  simp only[RdL,List.set_cons_succ]at h⊢;obtain ⟨v,r,e1,e2,e3⟩:=h;exact⟨v,r,e1,e2,Axm e3 (λz u hz hu=>hx z u hz hu)⟩
def Sz{C:Cx}{k:List KI}{s:SS}(b i d sz:Nat){α:Type}(e:α→SV){l:List SV}(hb:s.h b=.box l)(h:l[i]? = some (.val (.slice none 0 0)))(hd:s.h d=.fresh)(hbd:Nat.beq b d=false)(hg:G C k ⟨s.σ,upd (upd s.h b (.box (l.set i (.osl d)))) d (.row sz e [])⟩):G C k s:=λκ a w hs=>by
 have af:b≠d:=λe=>by rw[e,tN]at hbd;cases hbd
 have az:κ d=.new:=by have:=hs.obj d;rwa [hd]at this
 obtain ⟨st,inv⟩:=Kl hs.inv az (e:=.nil) (Grew.refl w) (λb hb=>by cases hb);refine hg (Ei κ d .nil) a w ⟨hs.defers,hs.size,inv,hs.ctx.step inv st,λj=>Rd.step st _ _ (hs.slot j),λj=>?_⟩;show ObOK _ w j (upd (upd s.h b (.box (l.set i (.osl d)))) d (.row sz e []) j);by_cases hj:j=d
 ·subst hj;rw[B1];exact .inl ⟨Ay _ _ _,rfl⟩
 ·rw[Cy _ _ hj];by_cases hjb:j=b
  ·subst hjb;rw[B1];have:=ObOK.step st hj _ (hs.obj j);rw[hb]at this;obtain ⟨b',cs,T,fr,e1,e2,e3,e4,e5⟩:=this;refine⟨b',cs,T,fr,e1,e2,e3,e4,Axm e5 λy v hy hv=>?_⟩;rw[h]at hy;cases hy;simp only[Rd]at hv;simp only[Rd,Ay];exact hv
  ·rw[Cy _ _ hjb];exact ObOK.step st hj _ (hs.obj j)
def Xc{P:Program}(w:World){t e:TypeId}(h:P.underlying t=some (.slice e))(ad:Option Addr)(n cap c1 c2:Nat):(Op.equal t (.slice ad n cap) (.slice none c1 c2)).run P w=.ok ad.isNone w:=by
 have key:∀d,(Op.equalIn (d+1) t (.slice ad n cap) (.slice none c1 c2)).run P w=.ok ad.isNone w:=λd=>by
  cases ad<;>simp[Op.equalIn,run_underlying h]
 exact key 9999
inductive NilT(s:SS):SV→List Nat→Nat→Prop
 |sl {sz:Nat} {α:Type} {e:α→SV} {l:List α}:NilT s (.sl sz e l) [] l.length
 |row {k sz:Nat} {α:Type} {e:α→SV} {l:List α} (h:s.h k=.row sz e l):NilT s (.osl k) [k] l.length
theorem NilT.at{C:Cx}{s:SS}{κ:Ka}{a:Act}{w:World}{x:Operand}{rd:List Nat}{n:Nat}(hs:St C.F C.n s κ a w)(hx:NilT s (ev s x) rd n):∃(ad:Option Addr) (m cap:Nat),a.eval x=.slice ad m cap∧(ad.isNone=true→n=0):=by
 have h1:Rd κ w (ev s x) (a.eval x):=hs.ev x;generalize ev s x=y at *;cases hx with
 | @sl sz α e l=>
  simp only[Rd,RdD]at h1;rcases h1 with ⟨rfl,a',cap,h1⟩|⟨b,off,cap,h1,_⟩
  ·exact⟨_,_,_,h1,λ_=>rfl⟩
  ·exact⟨_,_,_,h1,λh=>by cases h⟩
 | @row k' sz α e l hr=>
  have cn:=hs.obj k';rw[hr]at cn;simp only[Rd]at h1;rcases cn with ⟨hκ,hl⟩|⟨b,cap,_,_,_,hκ,_⟩
  ·rw[hκ]at h1;exact⟨_,_,_,h1,λ_=>by rw[hl];rfl⟩
  ·rw[hκ]at h1;exact⟨_,_,_,h1,λh=>by cases h⟩
def Eh{C:Cx}{k:List KI}{s:SS}{all:Array Oper}{o:Oper}{rest:List Oper}{op:BinOp}{t yt:TypeId}{ti:TI}{et:TypeId}{sz eb n:Nat}{ez:List Value}{x y:Operand}{rd:List Nat}(h:o.op=.binOp op t x y yt)(hop:op=.eql∨op=.neq)(ht:C.Γ.get t=some ti)(hk:ti.k=.slice et sz eb ez)(hy:ev s y=.val (.slice none 0 0))(hx:NilT s (ev s x) rd n)(hd:V8 C.n o=true)(hw:Ew C.n all o s=some true)(hg:∀b:Bool,(b=true→n=0)→G C (.ops all rest::k) (s.upd o.dst ⟨.val (.bool (if op=.eql then b else !b)),rd,[]⟩)):G C (.ops all (o::rest)::k) s:=λκ a w hs=>by
 have h2:Rd κ w (ev s y) (a.eval y):=hs.ev y;rw[hy]at h2;obtain ⟨ad,m,cap,e1,e2⟩:=hx.at hs;obtain ⟨d,info,z,k1,k2,_⟩:=C.Γ.ok t ti ht;rw[hk]at k2;simp only[TK.ok]at k2;have au:=Xc (P:=C.P) w (t:=t) (e:=et) (by first|exact k2.1▸k1|(rw[k1,k2.1])) ad m cap 0 0;have hG:=hg ad.isNone e2;have hv:=h2.val;refine wpList_step λK hK=>?_
 rw[zE (Wn hs (Ex hw).2 (Ex hw).1)];have hx':(execOp a.eval o).run C.P w=.ok (.value (.bool (if op=.eql then ad.isNone else !ad.isNone))) w:=by
  rcases hop with rfl|rfl<;>simp[execOp,h,e1,hv,eqGuard,binOp,au]
 simp only[Oper.wp,hx',Oper.upon];exact hK _ _ (hG κ _ w (hs.put (U:=⟨.val (.bool (if op=.eql then ad.isNone else !ad.isNone)),rd,[]⟩) (Aho hd) (Step.refl _ κ w) hs.inv (by simp[Rd]) (λp hp=>by cases hp)))
def KeepL(s:SS):List (Nat×Ob)→Prop
 |[]=>True
 |(k,o)::r=>s.h k=o∧KeepL s r
theorem KeepL.all{s:SS}:∀{l:List (Nat×Ob)},KeepL s l→∀p∈l,s.h p.1=p.2
 |[],_,p,hp=>by cases hp
 |(k,o)::r,h,p,hp=>by
  rcases yH.1 hp with rfl|hp
  ·exact h.1
  ·exact KeepL.all h.2 p hp
def stepD2{C:Cx}{k:List KI}{s:SS}{all:Array Oper}{done:List Stp}{o:Oper}{rest:List Oper}{U:Up}(hg:Good C.P o s U)(hk:KeepL s U.objs)(hi:all[done.length]? = some o)(hw:Ew C.n all o s=some true)(h:DR C k all (done++[⟨done.length,o,⟨U.v,U.rd++U.ws,[]⟩,true⟩]) rest (s.upd o.dst ⟨U.v,U.rd++U.ws,[]⟩))(hn:(Kb o||Qx o)=false:=by rfl):DR C k all done (o::rest) s :=
 A5y _ (.of2 (hg.keep hk.all) hn) hi (Ex hw).1 h
def Aby{κ:Ka}{w w':World}(hi:Inv κ w)(g:Grew w w'):Step (λ_=>False) κ w κ w'∧Inv κ w' :=
 ⟨⟨g.size,g.os,g.tape,g.output,rfl,λ b hb=>g.blk b (hi.mbnd b hb),λ b hb _=>g.blk b hb,λ k b _ hb=>g.blk b (hi.bnd k b hb),λ _ _=>rfl,λ _ h=>h.elim,λ _ h=>.inl h⟩,
  ⟨hi.inj,λ k b h=>yW (hi.bnd k b h) g.size,hi.apart,λ b h=>yW (hi.mbnd b h) g.size⟩⟩
theorem Spec.of_calls{P:Program}{f:FuncId}{A:List SV}{H:Obs}{u:Value}(h:∀(κ:Ka) (w:World) (vs:List Value),Inv κ w→RdL κ w A vs→H.ok κ w→Calls P f vs.toArray w λe w'=>e=.returned u∧RowKit.Below w.heap.size w w'):Spec P f A H (.val u) H:=by
 intro κ w vs hi _ hr ho;refine(h κ w vs hi hr ho).mono λe w' hw=>?_
 obtain ⟨he,hw⟩:=hw;have g:Grew w w':=⟨hw.os,hw.tape,hw.output,hw.size,hw.block⟩
 have st:=Aby hi g;exact⟨u,κ,he,(Ctx.refl κ w).step st.2 st.1,st.2,by simp[Rd],λp hp=>ObOK.step st.1 y_ p.2 (ho p hp)⟩
def Aan{P:Program}{o:Oper}{s:SS}{x y:Operand}{at_:Array TypeId}{k k':IntKind}{m n:Int}(h:o.op=.call ⟨.builtin .min,#[x,y],at_⟩)(hx:ev s x=.val (.int k m))(hy:ev s y=.val (.int k' n)):Good P o s ⟨.val (.int k (if n<m then n else m)),[],[]⟩ :=
 Good.pure λκ a w _ hr ho=>by
  have h1:=hr x (by simp[h,Op.operands,Call.operands]);have h2:=hr y (by simp[h,Op.operands,Call.operands]);rw[hx]at h1;rw[hy]at h2;refine⟨.int k (if n<m then n else m),?_,by simp[Rd]⟩;simp[execOp,h,resolve,invoke,builtin,Builtin.min_,Builtin.min2,h1.val,h2.val]
end Go.Sy
