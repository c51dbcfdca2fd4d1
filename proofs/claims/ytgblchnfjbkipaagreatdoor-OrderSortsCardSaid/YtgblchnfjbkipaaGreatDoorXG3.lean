/-
  Sy22 Ty N1 N2 N3 N4 N5 N6 N7 N8 N9 N10 N11 V1 I5 Sy25 Sy26 Sy27 Sy28 Sh E1 E2 A2 E3 E4 Sy29 B0 D1 E36 E37 E5 E6 M12 M13 M14 V2 V3 V4 V5 X1 D2 M1 M2 M15 A1 A3 Sy20: parts of a proof, joined by program.
-/
import Derived.Test.YtgblchnfjbkipaaGreatDoorXG2
import Derived.Test.YtgblchnfjbkipaaGreatDoorProg
import Derived.Test.YtgblchnfjbkipaaGreatDoorXG1
import Derived.ChangeKeysEq
import Derived.Below
import Derived.Lib.Join
import Derived.Shelf.Strings.OnBuilder
import Derived.Shelf.Strings.Search1
import Derived.Shelf.Strings.Search2
import Derived.Shelf.Strings.Search3
import Derived.Shelf.Strings.Cut
import Derived.Shelf.Strings.Prefix
import Derived.RangeFuncNested
import Derived.RangeFuncCalls
import Derived.RangeFuncLeaves
import Derived.Shelf.Abstract
import Derived.Shelf.RegionOpen
import Derived.WalkKit
import Derived.OwnWalkIn
import Derived.TacticsInMore
import Derived.LoopNIn
import Derived.LoopIn
namespace Go.Sy
mutual
def frb (d sz:Nat) (x:SV):SV→SV
 | .ptr k o=>bif Nat.beq k d then .ref sz x o else .ptr k o
 | .agg l=>.agg (T3 d sz x l)
 | .tup l=>.tup (T3 d sz x l)
 | .ifc t y=>.ifc t (frb d sz x y)
 | .clo f g l=>.clo f (T3 d sz x g) (T3 d sz x l)
 | y=>y
def T3 (d sz:Nat) (x:SV):List SV→List SV
 | []=>[]
 | y::l=>frb d sz x y::T3 d sz x l
end
mutual
theorem Xv {κ κ':Ka} {w:World} {K:Nat→Prop} {d sz:Nat} {x:SV} (st:Step K κ w κ' w) (hx:∀ o v,Rd κ w (.ptr d o) v→Rd κ' w (.ref sz x o) v):∀ (y:SV) (v:Value),Rd κ w y v→Rd κ' w (frb d sz x y) v
 | .ptr k o,v,h=>by
  unfold frb
  by_cases hk:k=d
  ·subst hk;rw[show Nat.beq k k=true from Nat.beq_refl k];exact hx o v h
  ·rw[show Nat.beq k d=false from by cases hb:Nat.beq k d with | false=>rfl | true=>exact absurd (Nat.eq_of_beq_eq_true hb) hk];exact Rd.step st _ _ h
 | .agg l,v,h=>by
  simp only[Rd]at h
  unfold frb
  simp only[Rd]
  obtain ⟨cs,h1,h2,h3⟩:=h
  exact⟨cs,h1,h2,Iz st hx l cs h3⟩
 | .tup l,v,h=>by
  simp only[Rd]at h
  unfold frb
  simp only[Rd]
  obtain ⟨cs,h1,h3⟩:=h
  exact⟨cs,h1,Iz st hx l cs h3⟩
 | .ifc t y,v,h=>by
  simp only[Rd]at h
  unfold frb
  simp only[Rd]
  obtain ⟨u,h1,h3⟩:=h
  exact⟨u,h1,Xv st hx y u h3⟩
 | .clo f g l,v,h=>by
  simp only[Rd]at h
  unfold frb
  simp only[Rd]
  obtain ⟨fs,cs,h1,h2,h3⟩:=h
  exact⟨fs,cs,h1,Iz st hx g fs h2,Iz st hx l cs h3⟩
 | .top,v,h=>by unfold frb;exact Rd.step st _ _ h
 | .val u,v,h=>by unfold frb;exact Rd.step st _ _ h
 | .sl sz e l,v,h=>by unfold frb;exact Rd.step st _ _ h
 | .ref sz z o,v,h=>by unfold frb;exact Rd.step st _ _ h
 | .rpt k sz i o,v,h=>by unfold frb;exact Rd.step st _ _ h
 | .osl k,v,h=>by unfold frb;exact Rd.step st _ _ h
theorem Iz {κ κ':Ka} {w:World} {K:Nat→Prop} {d sz:Nat} {x:SV} (st:Step K κ w κ' w) (hx:∀ o v,Rd κ w (.ptr d o) v→Rd κ' w (.ref sz x o) v):∀ (l:List SV) (vs:List Value),RdL κ w l vs→RdL κ' w (T3 d sz x l) vs
 | [],vs,h=>by
  unfold T3
  simpa [RdL] using h
 | y::l,vs,h=>by
  simp only[RdL]at h
  unfold T3
  simp only[RdL]
  obtain ⟨v,r,h1,h2,h3⟩:=h
  exact⟨v,r,h1,Xv st hx y v h2,Iz st hx l r h3⟩
end
def frbO (d sz:Nat) (x:SV):Ob→Ob
 | .box l=>.box (T3 d sz x l)
 | o=>o
theorem X0 {κ κ':Ka} {w:World} {d sz:Nat} {l:List SV} {x:SV} (h:ObOK κ w d (.box l)) (hl:cellsOf x=l) (hb:x.boxed=true) (_hd:K8 l=true) (hsz:l.length=sz) (ho:∀ b,b<w.heap.size→¬ Own κ b→¬ Own κ' b)
  (hdead:∀ b,(κ d).block? = some b→b<w.heap.size∧¬ Own κ' b) (hxd:x.data=true) (o:Nat) (v:Value) (hv:Rd κ w (.ptr d o) v):Rd κ' w (.ref sz x o) v:=by
 obtain ⟨b,cs,T,fr,e1,e2,e3,e4,e5⟩:=h
 simp only[Rd,e1]at hv
 obtain ⟨h1,h2⟩:=hdead b (by rw[e1];rfl)
 rw[← hl]at e5
 obtain ⟨u,f1,f2⟩:=Rd.of_cells hb e4 e5
 simp only[Rd,RdD]
 refine⟨b,0,u,by rw[Nat.zero_add];exact hv,h2,h1,RdD.keep ⟨Nat.le_refl _,fun _ _ _=>rfl,ho⟩ _ _ (Rd.data _ _ hxd f1),?_,by rw[f2];exact e4,fun j hj=>?_⟩
 ·have:=e5.length
  rw[← hsz,← hl,← this,← f2]
  simp
 ·rw[Nat.zero_add,cell_of_row w b _ cs.toArray T fr e2,← f2]
theorem Acs {C:Cx} {k:List KI} {s:SS} (d sz:Nat) (x:SV) {l:List SV} (h:s.h d=.box l) (hl:cellsOf x=l) (hc:(x.boxed && x.data && K8 l && Nat.beq l.length sz)=true)
  (hg:G C k ⟨fun i=>frb d sz x (s.σ i),fun j=>bif Nat.beq j d then .non else frbO d sz x (s.h j)⟩):G C k s:=fun κ a w hs=>by
 simp only[Bool.and_eq_true]at hc
 obtain ⟨⟨⟨hb,hxd⟩,hd⟩,hsz⟩:=hc
 have hsz:=Nat.eq_of_beq_eq_true hsz
 have hob:=hs.obj d
 rw[h]at hob
 have st:=Dg (κ:=κ) (w:=w) (some d)
 have inv:=D8 hs.inv (some d)
 have hx:∀ o v,Rd κ w (.ptr d o) v→Rd (Cs κ d .dead) w (.ref sz x o) v:=fun o v hv =>
  X0 hob hl hb hd hsz st.keeps.out (fun b hb=>⟨hs.inv.bnd d b hb,by
   rintro (⟨q,hq⟩ | hq)
   ·by_cases hqd:q=d
    ·subst hqd;change (Cs κ q .dead q).block? = some b at hq;rw[Ah]at hq;cases hq
    ·change (Cs κ d .dead q).block? = some b at hq
     rw[A9 _ _ hqd]at hq
     exact hqd (hs.inv.inj q d b hq hb)
   ·exact hs.inv.apart d b hb hq⟩) hxd o v hv
 refine hg (Cs κ d .dead) a w ⟨hs.defers,hs.size,inv,hs.ctx.step inv st,fun j=>Xv st hx _ _ (hs.slot j),fun j=>?_⟩
 show ObOK _ w j (bif Nat.beq j d then .non else frbO d sz x (s.h j))
 by_cases hj:j=d
 ·subst hj;rw[show Nat.beq j j=true from Nat.beq_refl j];trivial
 ·rw[show Nat.beq j d=false from by cases hb:Nat.beq j d with | false=>rfl | true=>exact absurd (Nat.eq_of_beq_eq_true hb) hj]
  have hb:=ObOK.step st (fun e=>hj (Option.some.inj e).symm) _ (hs.obj j)
  have h0:=hs.obj j
  show ObOK _ w j (frbO d sz x (s.h j))
  cases hh:s.h j with
  | box m =>
   rw[hh]at h0 hb
   obtain ⟨b,cs,T,fr,e1,e2,e3,e4,e5⟩:=h0
   exact⟨b,cs,T,fr,by show Cs κ d .dead j=_;rw[A9 _ _ hj];exact e1,e2,e3,e4,Iz st hx m cs e5⟩
  | fresh=>rw[hh]at hb;exact hb
  | non=>rw[hh]at hb;exact hb
  | row sz' e' l'=>rw[hh]at hb;exact hb
  | lit sz' svs=>rw[hh]at hb;exact hb
  | glob sz' x' g'=>rw[hh]at hb;exact hb
  | pin b' n' cap' sz' e' l'=>rw[hh]at hb;exact hb
  | dat v' sz' e' l'=>rw[hh]at hb;exact hb
theorem B0 {C:Cx} {k:List KI} {s:SS} (d sz:Nat) {α:Type} (e:α→SV) (h:s.σ d=.val (.slice none 0 0)) (hg:G C k ⟨upd s.σ d (.sl sz e []),s.h⟩):G C k s :=
 G_set d (fun κ w v hv=>by
  rw[h]at hv
  simp only[Rd]at hv
  simp only[Rd,RdD]
  exact .inl ⟨z_,none,0,hv⟩) hg
end Go.Sy
namespace Go.Sy.YtgblchnfjbkipaaGreatDoor
open Go.Proofs
set_option maxRecDepth 100000
theorem ty1:Dl Tryz.prog 1=some ⟨.func,1,[.nilFunc]⟩:=by kernel_rfl
theorem ty2:Dl Tryz.prog 2=some ⟨.int .i64,1,[.int .i64 0]⟩:=by kernel_rfl
theorem ty3:Dl Tryz.prog 3=some ⟨.int .i64,1,[.int .i64 0]⟩:=by kernel_rfl
theorem ty4:Dl Tryz.prog 4=some ⟨.bool,1,[.bool false]⟩:=by kernel_rfl
theorem ty5:Dl Tryz.prog 5=some ⟨.int .u8,1,[.int .u8 0]⟩:=by kernel_rfl
theorem ty9:Dl Tryz.prog 9=some ⟨.string,1,[.string .empty]⟩:=by kernel_rfl
theorem ty22:Dl Tryz.prog 22=some ⟨.slice 28 17 240 [.int .i64 0,.int .i64 0,.string .empty,.string .empty,.string .empty,.string .empty,.string .empty,.int .u64 0,.int .u32 0,.int .i64 0,.int .i64 0,.int .i64 0,.int .i64 0,.slice none 0 0,.slice none 0 0,.slice none 0 0,.slice none 0 0],1,[.slice none 0 0]⟩:=by kernel_rfl
theorem ty23:Dl Tryz.prog 23=some ⟨.int .u64,1,[.int .u64 0]⟩:=by kernel_rfl
theorem ty24:Dl Tryz.prog 24=some ⟨.int .u32,1,[.int .u32 0]⟩:=by kernel_rfl
theorem ty25:Dl Tryz.prog 25=some ⟨.slice 3 1 8 [.int .i64 0],1,[.slice none 0 0]⟩:=by kernel_rfl
theorem ty26:Dl Tryz.prog 26=some ⟨.slice 24 1 4 [.int .u32 0],1,[.slice none 0 0]⟩:=by kernel_rfl
theorem ty28:Dl Tryz.prog 28=some ⟨.struct [(0,1),(1,1),(2,1),(3,1),(4,1),(5,1),(6,1),(7,1),(8,1),(9,1),(10,1),(11,1),(12,1),(13,1),(14,1),(15,1),(16,1)],17,[.int .i64 0,.int .i64 0,.string .empty,.string .empty,.string .empty,.string .empty,.string .empty,.int .u64 0,.int .u32 0,.int .i64 0,.int .i64 0,.int .i64 0,.int .i64 0,.slice none 0 0,.slice none 0 0,.slice none 0 0,.slice none 0 0]⟩:=by kernel_rfl
theorem ty35:Dl Tryz.prog 35=some ⟨.slice 5 1 1 [.int .u8 0],1,[.slice none 0 0]⟩:=by kernel_rfl
theorem ty36:Dl Tryz.prog 36=some ⟨.int .i64,1,[.int .i64 0]⟩:=by kernel_rfl
theorem ty49:Dl Tryz.prog 49=some ⟨.slice 110 5 80 [.int .i64 0,.int .i64 0,.string .empty,.slice none 0 0,.slice none 0 0],1,[.slice none 0 0]⟩:=by kernel_rfl
theorem ty67:Dl Tryz.prog 67=some ⟨.func,1,[.nilFunc]⟩:=by kernel_rfl
theorem ty122:Dl Tryz.prog 122=some ⟨.struct [(0,1),(1,1)],2,[.int .u32 0,.int .i64 0]⟩:=by kernel_rfl
theorem ty164:Dl Tryz.prog 164=some ⟨.slice 9 1 16 [.string .empty],1,[.slice none 0 0]⟩:=by kernel_rfl
theorem ty220:Dl Tryz.prog 220=some ⟨.ptr,1,[.pointer none]⟩:=by kernel_rfl
theorem ty222:Dl Tryz.prog 222=some ⟨.struct [(0,1),(1,1),(2,1)],3,[.slice none 0 0,.int .i64 0,.int .i64 0]⟩:=by kernel_rfl
theorem ty228:Dl Tryz.prog 228=some ⟨.ptr,1,[.pointer none]⟩:=by kernel_rfl
theorem ty230:Dl Tryz.prog 230=some ⟨.func,1,[.nilFunc]⟩:=by kernel_rfl
theorem ty257:Dl Tryz.prog 257=some ⟨.int .u64,1,[.int .u64 0]⟩:=by kernel_rfl
theorem ty272:Dl Tryz.prog 272=some ⟨.func,1,[.nilFunc]⟩:=by kernel_rfl
theorem ty275:Dl Tryz.prog 275=some ⟨.func,1,[.nilFunc]⟩:=by kernel_rfl
theorem ty294:Dl Tryz.prog 294=some ⟨.func,1,[.nilFunc]⟩:=by kernel_rfl
theorem ty302:Dl Tryz.prog 302=some ⟨.struct [(0,1),(1,1)],2,[.pointer none,.slice none 0 0]⟩:=by kernel_rfl
theorem tq122:Yk Tryz.prog 122=some [.int .u32,.int .i64]:=by kernel_rfl
def tab:Tr TI:=(.nd 36 (⟨.int .i64,1,[.int .i64 0]⟩) (.nd 22 (⟨.slice 28 17 240 [.int .i64 0,.int .i64 0,.string .empty,.string .empty,.string .empty,.string .empty,.string .empty,.int .u64 0,.int .u32 0,.int .i64 0,.int .i64 0,.int .i64 0,.int .i64 0,.slice none 0 0,.slice none 0 0,.slice none 0 0,.slice none 0 0],1,[.slice none 0 0]⟩) (.nd 4 (⟨.bool,1,[.bool false]⟩) (.nd 2 (⟨.int .i64,1,[.int .i64 0]⟩) (.nd 1 (⟨.func,1,[.nilFunc]⟩) .lf .lf) (.nd 3 (⟨.int .i64,1,[.int .i64 0]⟩) .lf .lf)) (.nd 9 (⟨.string,1,[.string .empty]⟩) (.nd 5 (⟨.int .u8,1,[.int .u8 0]⟩) .lf .lf) .lf)) (.nd 26 (⟨.slice 24 1 4 [.int .u32 0],1,[.slice none 0 0]⟩) (.nd 24 (⟨.int .u32,1,[.int .u32 0]⟩) (.nd 23 (⟨.int .u64,1,[.int .u64 0]⟩) .lf .lf) (.nd 25 (⟨.slice 3 1 8 [.int .i64 0],1,[.slice none 0 0]⟩) .lf .lf)) (.nd 35 (⟨.slice 5 1 1 [.int .u8 0],1,[.slice none 0 0]⟩) (.nd 28 (⟨.struct [(0,1),(1,1),(2,1),(3,1),(4,1),(5,1),(6,1),(7,1),(8,1),(9,1),(10,1),(11,1),(12,1),(13,1),(14,1),(15,1),(16,1)],17,[.int .i64 0,.int .i64 0,.string .empty,.string .empty,.string .empty,.string .empty,.string .empty,.int .u64 0,.int .u32 0,.int .i64 0,.int .i64 0,.int .i64 0,.int .i64 0,.slice none 0 0,.slice none 0 0,.slice none 0 0,.slice none 0 0]⟩) .lf .lf) .lf))) (.nd 228 (⟨.ptr,1,[.pointer none]⟩) (.nd 164 (⟨.slice 9 1 16 [.string .empty],1,[.slice none 0 0]⟩) (.nd 67 (⟨.func,1,[.nilFunc]⟩) (.nd 49 (⟨.slice 110 5 80 [.int .i64 0,.int .i64 0,.string .empty,.slice none 0 0,.slice none 0 0],1,[.slice none 0 0]⟩) .lf .lf) (.nd 122 (⟨.struct [(0,1),(1,1)],2,[.int .u32 0,.int .i64 0]⟩) .lf .lf)) (.nd 222 (⟨.struct [(0,1),(1,1),(2,1)],3,[.slice none 0 0,.int .i64 0,.int .i64 0]⟩) (.nd 220 (⟨.ptr,1,[.pointer none]⟩) .lf .lf) .lf)) (.nd 275 (⟨.func,1,[.nilFunc]⟩) (.nd 257 (⟨.int .u64,1,[.int .u64 0]⟩) (.nd 230 (⟨.func,1,[.nilFunc]⟩) .lf .lf) (.nd 272 (⟨.func,1,[.nilFunc]⟩) .lf .lf)) (.nd 302 (⟨.struct [(0,1),(1,1)],2,[.pointer none,.slice none 0 0]⟩) (.nd 294 (⟨.func,1,[.nilFunc]⟩) .lf .lf) .lf))))
def etab:Tr (List EK):=(.nd 122 ([.int .u32,.int .i64]) .lf .lf)
theorem tab_ok:tab.all (fun t i=>Dl Tryz.prog t=some i):=⟨ty36,⟨ty22,⟨ty4,⟨ty2,⟨ty1,trivial,trivial⟩,⟨ty3,trivial,trivial⟩⟩,⟨ty9,⟨ty5,trivial,trivial⟩,trivial⟩⟩,⟨ty26,⟨ty24,⟨ty23,trivial,trivial⟩,⟨ty25,trivial,trivial⟩⟩,⟨ty35,⟨ty28,trivial,trivial⟩,trivial⟩⟩⟩,⟨ty228,⟨ty164,⟨ty67,⟨ty49,trivial,trivial⟩,⟨ty122,trivial,trivial⟩⟩,⟨ty222,⟨ty220,trivial,trivial⟩,trivial⟩⟩,⟨ty275,⟨ty257,⟨ty230,trivial,trivial⟩,⟨ty272,trivial,trivial⟩⟩,⟨ty302,⟨ty294,trivial,trivial⟩,trivial⟩⟩⟩⟩
theorem Ab9:etab.all (fun t i=>Yk Tryz.prog t=some i):=⟨tq122,trivial,trivial⟩
def Γ:TyE Tryz.prog:=⟨⟨fun t=>tab.look t,fun _ _ h=>Aby (Tr.look_ok tab_ok h)⟩,fun t=>etab.look t,fun _ _ h=>Abk (Tr.look_ok Ab9 h)⟩
theorem hm:Tryz.prog.follows .mixedOrders=true:=by kernel_rfl
abbrev fT (i:Nat) (fn:Func):Prop:=Fun Tryz.prog i fn (Qn fn)
theorem fN {P : Program} {f : FuncId} {fn : Func} (h : P.funcs[f]? = some fn) (hb : fn.body = some (Qn fn) := by exact rfl) (hn : (fn.name == "runtime.NumGoroutine") = false := by kernel_rfl) : Fun P f fn (Qn fn) := ⟨h, hb, hn⟩
theorem cT {f:FuncId} {fn:Func} {c:Code} {A:List SV} {H:Obs} {R:SV} {H':Obs} (hF:Fun Tryz.prog f fn c) {n:Nat} (hn':fn.ntmps=n)
  (h:∀ (F:Fr) (hF:∀ k,F.k0 k≠.new→k∈H.keys),Ex ⟨Tryz.prog,Γ.toTy,F,n,Je Tryz.prog fn F R H',H.keys,hF⟩ Γ 100 [.code c] ⟨argσ A,mkh H⟩) (hn:Vk A n=true:=by exact rfl):Sy.Spec Tryz.prog f A H R H':=Hc Γ hm 100 hF hn' hn h
theorem F3:fT 3 Tryz.f3:=fN Tryz.func3
theorem F12:fT 12 Tryz.f12:=fN Tryz.func12
theorem F13:fT 13 Tryz.f13:=fN Tryz.func13
theorem F14:fT 14 Tryz.f14:=fN Tryz.func14
theorem F15:fT 15 Tryz.f15:=fN Tryz.func15
theorem F16:fT 16 Tryz.f16:=fN Tryz.func16
theorem F17:fT 17 Tryz.f17:=fN Tryz.func17
theorem F18:fT 18 Tryz.f18:=fN Tryz.func18
theorem F19:fT 19 Tryz.f19:=fN Tryz.func19
theorem F20:fT 20 Tryz.f20:=fN Tryz.func20
theorem F21:fT 21 Tryz.f21:=fN Tryz.func21
theorem F34:fT 34 Tryz.f34:=fN Tryz.func34
theorem F35:fT 35 Tryz.f35:=fN Tryz.func35
theorem F36:fT 36 Tryz.f36:=fN Tryz.func36
theorem F37:fT 37 Tryz.f37:=fN Tryz.func37
theorem F38:fT 38 Tryz.f38:=fN Tryz.func38
theorem F39:fT 39 Tryz.f39:=fN Tryz.func39
theorem F40:fT 40 Tryz.f40:=fN Tryz.func40
theorem F41:fT 41 Tryz.f41:=fN Tryz.func41
theorem F42:fT 42 Tryz.f42:=fN Tryz.func42
theorem F43:fT 43 Tryz.f43:=fN Tryz.func43
theorem F44:fT 44 Tryz.f44:=fN Tryz.func44
theorem F45:fT 45 Tryz.f45:=fN Tryz.func45
theorem F46:fT 46 Tryz.f46:=fN Tryz.func46
theorem F47:fT 47 Tryz.f47:=fN Tryz.func47
theorem F50:fT 50 Tryz.f50:=fN Tryz.func50
theorem F56:fT 56 Tryz.f56:=fN Tryz.func56
theorem F57:fT 57 Tryz.f57:=fN Tryz.func57
theorem F64:fT 64 Tryz.f64:=fN Tryz.func64
theorem F69:fT 69 Tryz.f69:=fN Tryz.func69
theorem F99:fT 99 Tryz.f99:=fN Tryz.func99
theorem F100:fT 100 Tryz.f100:=fN Tryz.func100
theorem F101:fT 101 Tryz.f101:=fN Tryz.func101
theorem F102:fT 102 Tryz.f102:=fN Tryz.func102
theorem F103:fT 103 Tryz.f103:=fN Tryz.func103
theorem F104:fT 104 Tryz.f104:=fN Tryz.func104
theorem F105:fT 105 Tryz.f105:=fN Tryz.func105
theorem F106:fT 106 Tryz.f106:=fN Tryz.func106
theorem F107:fT 107 Tryz.f107:=fN Tryz.func107
theorem F109:fT 109 Tryz.f109:=fN Tryz.func109
theorem F110:fT 110 Tryz.f110:=fN Tryz.func110
theorem F111:fT 111 Tryz.f111:=fN Tryz.func111
theorem F112:fT 112 Tryz.f112:=fN Tryz.func112
theorem F160:fT 160 Tryz.f160:=fN Tryz.func160
theorem F161:fT 161 Tryz.f161:=fN Tryz.func161
theorem F166:fT 166 Tryz.f166:=fN Tryz.func166
theorem F168:fT 168 Tryz.f168:=fN Tryz.func168
theorem F169:fT 169 Tryz.f169:=fN Tryz.func169
theorem F170:fT 170 Tryz.f170:=fN Tryz.func170
theorem F171:fT 171 Tryz.f171:=fN Tryz.func171
theorem F172:fT 172 Tryz.f172:=fN Tryz.func172
theorem F173:fT 173 Tryz.f173:=fN Tryz.func173
theorem F174:fT 174 Tryz.f174:=fN Tryz.func174
theorem F175:fT 175 Tryz.f175:=fN Tryz.func175
theorem F176:fT 176 Tryz.f176:=fN Tryz.func176
theorem F177:fT 177 Tryz.f177:=fN Tryz.func177
theorem F178:fT 178 Tryz.f178:=fN Tryz.func178
theorem F179:fT 179 Tryz.f179:=fN Tryz.func179
theorem F180:fT 180 Tryz.f180:=fN Tryz.func180
theorem F181:fT 181 Tryz.f181:=fN Tryz.func181
theorem F182:fT 182 Tryz.f182:=fN Tryz.func182
theorem F183:fT 183 Tryz.f183:=fN Tryz.func183
theorem F184:fT 184 Tryz.f184:=fN Tryz.func184
theorem F185:fT 185 Tryz.f185:=fN Tryz.func185
theorem F186:fT 186 Tryz.f186:=fN Tryz.func186
theorem F187:fT 187 Tryz.f187:=fN Tryz.func187
theorem F188:fT 188 Tryz.f188:=fN Tryz.func188
theorem F189:fT 189 Tryz.f189:=fN Tryz.func189
theorem F190:fT 190 Tryz.f190:=fN Tryz.func190
theorem F191:fT 191 Tryz.f191:=fN Tryz.func191
theorem F192:fT 192 Tryz.f192:=fN Tryz.func192
theorem F193:fT 193 Tryz.f193:=fN Tryz.func193
theorem F194:fT 194 Tryz.f194:=fN Tryz.func194
theorem F195:fT 195 Tryz.f195:=fN Tryz.func195
theorem F229:fT 229 Tryz.f229:=fN Tryz.func229
theorem F230:fT 230 Tryz.f230:=fN Tryz.func230
theorem F231:fT 231 Tryz.f231:=fN Tryz.func231
theorem F232:fT 232 Tryz.f232:=fN Tryz.func232
theorem F234:fT 234 Tryz.f234:=fN Tryz.func234
theorem F235:fT 235 Tryz.f235:=fN Tryz.func235
theorem F236:fT 236 Tryz.f236:=fN Tryz.func236
theorem F237:fT 237 Tryz.f237:=fN Tryz.func237
theorem F238:fT 238 Tryz.f238:=fN Tryz.func238
theorem F239:fT 239 Tryz.f239:=fN Tryz.func239
theorem F241:fT 241 Tryz.f241:=fN Tryz.func241
theorem F242:fT 242 Tryz.f242:=fN Tryz.func242
theorem F243:fT 243 Tryz.f243:=fN Tryz.func243
theorem F244:fT 244 Tryz.f244:=fN Tryz.func244
theorem F245:fT 245 Tryz.f245:=fN Tryz.func245
theorem F246:fT 246 Tryz.f246:=fN Tryz.func246
theorem F247:fT 247 Tryz.f247:=fN Tryz.func247
theorem F248:fT 248 Tryz.f248:=fN Tryz.func248
theorem F249:fT 249 Tryz.f249:=fN Tryz.func249
theorem F250:fT 250 Tryz.f250:=fN Tryz.func250
theorem F251:fT 251 Tryz.f251:=fN Tryz.func251
theorem F252:fT 252 Tryz.f252:=fN Tryz.func252
theorem F253:fT 253 Tryz.f253:=fN Tryz.func253
theorem F254:fT 254 Tryz.f254:=fN Tryz.func254
theorem F255:fT 255 Tryz.f255:=fN Tryz.func255
theorem F287:fT 287 Tryz.f287:=fN Tryz.func287
theorem F289:fT 289 Tryz.f289:=fN Tryz.func289
theorem F290:fT 290 Tryz.f290:=fN Tryz.func290
theorem F291:fT 291 Tryz.f291:=fN Tryz.func291
theorem F292:fT 292 Tryz.f292:=fN Tryz.func292
theorem F294:fT 294 Tryz.f294:=fN Tryz.func294
theorem F295:fT 295 Tryz.f295:=fN Tryz.func295
theorem F296:fT 296 Tryz.f296:=fN Tryz.func296
theorem F297:fT 297 Tryz.f297:=fN Tryz.func297
theorem F298:fT 298 Tryz.f298:=fN Tryz.func298
theorem F299:fT 299 Tryz.f299:=fN Tryz.func299
theorem F300:fT 300 Tryz.f300:=fN Tryz.func300
theorem F301:fT 301 Tryz.f301:=fN Tryz.func301
theorem F302:fT 302 Tryz.f302:=fN Tryz.func302
theorem F349:fT 349 Tryz.f349:=fN Tryz.func349
theorem F350:fT 350 Tryz.f350:=fN Tryz.func350
theorem F351:fT 351 Tryz.f351:=fN Tryz.func351
theorem F352:fT 352 Tryz.f352:=fN Tryz.func352
theorem rg {F:Fr} {n:Nat} {B:Exit→Act→World→Prop} {bn:List Nat} {hbn:∀ k,F.k0 k≠.new→k∈bn} {k:List KI} {s:SS} (h:Ex ⟨Tryz.prog,Γ.toTy,F,n,B,bn,hbn⟩ Γ 400 k s):G ⟨Tryz.prog,Γ.toTy,F,n,B,bn,hbn⟩ k s:=rG Γ hm h
theorem rd {F:Fr} {n:Nat} {B:Exit→Act→World→Prop} {bn:List Nat} {hbn:∀ k,F.k0 k≠.new→k∈bn} {k:List KI} {s:SS} {all:Array Oper} {done:List Stp} {rest:List Oper} (hs:all.toList=done.map (·.o)++rest) (h:K6 ⟨Tryz.prog,Γ.toTy,F,n,B,bn,hbn⟩ Γ 400 k all done rest s):DR ⟨Tryz.prog,Γ.toTy,F,n,B,bn,hbn⟩ k all done rest s:=rD Γ hm hs h
structure Bq (Q:Prop):Prop where out:Q
theorem oO {P Q:Prop} (h:Q) (e:Bq Q→P:=by intro hb;refine rg ?_;(conv=>whnf);exact hb.out):P:=e ⟨h⟩
theorem oF {P Q:Prop} (h:Q) (e:Bq Q→P:=by intro hb;refine rg ?_;(conv=>whnf);refine aF ?_;refine rg ?_;(conv=>whnf);exact hb.out):P:=e ⟨h⟩
theorem oT {P Q:Prop} (h:Q) (e:Bq Q→P:=by intro hb;refine rg ?_;(conv=>whnf);refine aT ?_;refine rg ?_;(conv=>whnf);exact hb.out):P:=e ⟨h⟩
theorem bF {P Q:Prop} (h:Q) (e:Bq Q→P:=by intro hb;refine aF ?_;refine rg ?_;(conv=>whnf);exact hb.out):P:=e ⟨h⟩
theorem bT {P Q:Prop} (h:Q) (e:Bq Q→P:=by intro hb;refine aT ?_;refine rg ?_;(conv=>whnf);exact hb.out):P:=e ⟨h⟩
theorem oD {P Q:Prop} (h:Q) (e:Bq Q→P:=by intro hb;refine rd y_ ?_;(conv=>whnf);exact hb.out):P:=e ⟨h⟩
theorem dN {P:Prop} (h:P:=by
 apply Bn
 ·exact q_
 ·(repeat (first | exact ResVs.nil | (apply ResVs.cons;(first | exact .tmp | exact .cell rfl rfl rfl rfl))))
 ·exact q_
 ·exact q_):P:=h
theorem iL {a:Int} {K:Prop} (h:K) (e:I64 a:=by unfold I64;omega):I64 a∧K:=⟨e,h⟩
theorem iW {a:Int} {K Q:Prop} (h:Q) (e:I64 a:=by unfold I64;omega) (e2:Bq Q→K:=by intro hb;(conv=>whnf);exact hb.out):I64 a∧K:=⟨e,e2 ⟨h⟩⟩
theorem kW {α:Sort _} {a b:α} {K Q:Prop} (h:Q) (e:a=b:=by kernel_rfl) (e2:Bq Q→K:=by intro hb;(conv=>whnf);exact hb.out):a=b∧K:=⟨e,e2 ⟨h⟩⟩
theorem c0 {C:Cx} {k:List KI} {s:SS} {all:Array Oper} {o:Oper} {rest:List Oper} {f:FuncId} {fn:Func} {c:Code} {xs:List Operand} {ts:Array TypeId} {A:List SV} {R:SV} (hs:Sy.Spec C.P f A [] R []) (hf:Fun C.P f fn c) (hg:G C (.ops all rest::k) (s.upd o.dst ⟨R,[],[]⟩)) (h:o.op=.call ⟨.value (.func f),xs.toArray,ts⟩:=by exact rfl)
  (hA:A=xs.map (ev s):=by exact rfl) (hok:(Bd [] A && R.inn [])=true:=by exact rfl) (hd:Jq C.n o=true:=by exact rfl) (hw:Ca C.n all o s=some true:=by exact rfl):G C (.ops all (o::rest)::k) s:=Acp hs hf h hA hok hd hw hg
theorem cD {C:Cx} {k:List KI} {s:SS} {all:Array Oper} {done:List Stp} {o:Oper} {rest:List Oper} {f:FuncId} {fn:Func} {c:Code} {xs:List Operand} {ts:Array TypeId} {A:List SV} {R:SV} (hs:Sy.Spec C.P f A [] R []) (hf:Fun C.P f fn c) (hg:DR C k all (done++[⟨done.length,o,⟨R,[],[]⟩,true⟩]) rest (s.upd o.dst ⟨R,[],[]⟩)) (h:o.op=.call ⟨.value (.func f),xs.toArray,ts⟩:=by exact rfl)
  (hA:A=xs.map (ev s):=by exact rfl) (hok:(Bd [] A && R.inn [])=true:=by exact rfl) (hi:all[done.length]? = some o:=by kernel_rfl) (hw:Ca C.n all o s=some true:=by exact rfl):DR C k all done (o::rest) s:=Abp hs hf h hA hok hi hw hg
theorem qA {p q:Prop} [Decidable p] (h:decide p=true) (e:p→q:=by intro _h;omega):q:=e (of_decide_eq_true h)
theorem qB {p q:Prop} [Decidable p] (h:decide p=false) (e:¬ p→q:=by intro _h;omega):q:=e (of_decide_eq_false h)
end Go.Sy.YtgblchnfjbkipaaGreatDoor
namespace Go.Sy.YtgblchnfjbkipaaGreatDoor
open Go.Proofs
structure Device where
 (row prio:Int) (name:ByteArray) (mac vtep:Int)
structure Port where
 (row dev native cost link:Int) (name:ByteArray) (tagged:List Int)
structure Link where
 (row a b:Int)
structure Domain where
 (dev vlan vni irb row:Int) (peers:List Int)
structure Static where
 (row domain port mac:Int)
structure Flood where
 (row dev vni:Int) (addrs:List Int)
structure Vrf where
 (row dev:Int) (name:ByteArray) (imports exports:List Int)
structure Irb where
 (row domain vrf addr bits:Int)
structure Net where
 (devices:List Device) (ports:List Port) (links:List Link) (domains:List Domain) (statics:List Static) (floods:List Flood) (vrfs:List Vrf) (irbs:List Irb)
instance:Inhabited Device:=⟨⟨0,0,.empty,0,0⟩⟩
instance:Inhabited Port:=⟨⟨0,0,0,0,0,.empty,[]⟩⟩
instance:Inhabited Link:=⟨⟨0,0,0⟩⟩
instance:Inhabited Domain:=⟨⟨0,0,0,0,0,[]⟩⟩
instance:Inhabited Static:=⟨⟨0,0,0,0⟩⟩
instance:Inhabited Flood:=⟨⟨0,0,0,[]⟩⟩
instance:Inhabited Vrf:=⟨⟨0,0,.empty,[],[]⟩⟩
instance:Inhabited Irb:=⟨⟨0,0,0,0,0⟩⟩
def inB (l:List Int) (x:Int):Bool:=l.any (· == x)
def nth {α:Type} [Inhabited α] (l:List α) (i:Int):α:=(l[i.toNat]?).getD default
theorem Aax {α:Type} [Inhabited α] {l:List α} {i:Int} (h:i.toNat<l.length):nth l i=l[i.toNat]:=by
 simp[nth,h]
def Xr {α:Type} (p:α→Bool) (l:List α):Int:=match l.findIdx? p with | some i=>(i:Int) | none=>-1
theorem Xq {α:Type} {p:α→Bool} {l:List α} {j:Nat} (h:j<l.length) (h1:∀ i (hi:i<l.length),i<j→p l[i]=false) (h2:p l[j]=true):Xr p l=j:=by
 have:l.findIdx? p=some j:=by
  rw[List.findIdx?_eq_some_iff_getElem]
  exact⟨h,h2,fun i hi=>by simp[h1 i j_ hi]⟩
 simp[Xr,this]
theorem Zk {α:Type} {p:α→Bool} {l:List α} (h1:∀ i (hi:i<l.length),p l[i]=false):Xr p l=-1:=by
 have:l.findIdx? p=none:=by
  rw[List.findIdx?_eq_none_iff]
  intro x hx
  obtain ⟨i,hi,rfl⟩:=List.mem_iff_getElem.1 hx
  exact h1 i hi
 simp[Xr,this]
theorem Abb {α:Type} (p:α→Bool) (l:List α):decide (0≤Xr p l)=l.any p:=by
 unfold Xr
 split
 ·rename_i i h
  rw[List.findIdx?_eq_some_iff_getElem]at h
  obtain ⟨h,h2,_⟩:=h
  have:l.any p=true:=List.any_eq_true.2 ⟨_,List.getElem_mem h,h2⟩
  rw[this]
  simp
 ·rename_i h
  rw[List.findIdx?_eq_none_iff]at h
  have:l.any p=false:=by
   rw[List.any_eq_false]
   intro x hx
   simp[h x hx]
  rw[this]
  simp
def Qp {α:Type} (p:Nat→α→Bool) (l:List α):Bool:=l.zipIdx.all fun q=>p q.2 q.1
theorem allB_iff {α:Type} {p:Nat→α→Bool} {l:List α}:Qp p l=true↔∀ i (h:i<l.length),p i l[i]=true:=by
 simp only[Qp,List.all_eq_true]
 constructor
 ·intro h i hi
  exact h (l[i],i) (by rw[List.mk_mem_zipIdx_iff_getElem?];simp[hi])
 ·rintro h ⟨x,i⟩ hx
  rw[List.mk_mem_zipIdx_iff_getElem?]at hx
  obtain ⟨hi,rfl⟩:=List.getElem?_eq_some_iff.1 hx
  exact h i hi
theorem Zv {α:Type} {p:Nat→α→Bool} {l:List α} (h:∀ i (h:i<l.length),p i l[i]=true):Qp p l=true:=allB_iff.2 h
theorem Ev {α:Type} {p:Nat→α→Bool} {l:List α} {i:Nat} (h:i<l.length) (h1:p i l[i]=false):Qp p l=false:=by
 cases hh:Qp p l with
 | false=>rfl
 | true=>have:=allB_iff.1 hh i h;rw[h1]at this;cases this
def M4 {α:Type} (p:Nat→α→Bool) (l:List α) (j:Nat):Prop:=∀ i (h:i<l.length),i<j→p i l[i]=true
theorem Ej {α:Type} (p:Nat→α→Bool) (l:List α):M4 p l 0:=fun i h hj=>absurd hj j_
theorem Dz {α:Type} {p:Nat→α→Bool} {l:List α} {j:Nat} (hI:M4 p l j) (hj:j<l.length) (h:p j l[j]=true):M4 p l (j+1):=by
 intro i hi hij
 rcases Nat.lt_or_ge i j with h1 | h1
 ·exact hI i hi h1
 ·have:i=j:=by omega
  subst this
  exact h
theorem Od {α:Type} {p:Nat→α→Bool} {l:List α} {j:Nat} (hI:M4 p l j) (hj:l.length≤j):Qp p l=true:=Zv fun i hi=>hI i hi j_
def Dx {α:Type} (l:List α):Prop:=l.length<2147483648
end Go.Sy.YtgblchnfjbkipaaGreatDoor
namespace Go.Sy.YtgblchnfjbkipaaGreatDoor
open Go.Proofs
attribute [local irreducible] Go.Sy.G Go.Sy.DR
set_option maxRecDepth 20000
set_option maxHeartbeats 4000000
theorem indexS (l:List Int) (x:Int) (hl:Dx l):Sy.Spec Tryz.prog 160 [.sl 1 Aa l,Aa x] [] (Aa (Xr (· == x) l)) []:=cT F160 Tryz.ntmps160 fun F hF=>by
 unfold Dx at hl
 conv=>whnf
 refine Bz l.length (fun j=>∀ i (h:i<l.length),i<j→(l[i] == x)=false) (fun j=>[(0,.sl 1 Aa l),(1,Aa x),(7,Aa l.length),(8,Aa j)]) (fun _=>[]) [] (fun i h hj=>absurd hj j_) ⟨⟨q_,q_,q_,q_,q_,q_,q_,q_,z_⟩,z_,q_,q_⟩ ?_
 intro j hj hI
 refine oO ?_
 (repeat' (first | (refine⟨fun h=>?_,fun h=>?_⟩<;>(repeat (first | simp only[decide_eq_true_eq]at h | simp only[decide_eq_false_iff_not]at h | simp only[beq_iff_eq]at h | simp only[beq_eq_false_iff_ne]at h))<;>((refine oO ?_))) | (refine Bn rfl (.cons .tmp .nil) ?_ rfl) | (refine⟨y_,?_⟩;((conv=>whnf))) | (refine⟨by (omega),by (omega),?_⟩;((conv=>whnf))) | (refine⟨by (unfold I64;omega),?_⟩;((conv=>whnf))) | refine B1 [] hI j_ ?_ ⟨⟨rfl,rfl,rfl,rfl,rfl,rfl,rfl,rfl,trivial⟩,trivial,rfl,rfl⟩))
 all_goals try (refine congrArg Aa ?_)
 ·exact Xq j_ hI (by simpa using h.symm)
 ·intro i hi hij
  rcases Nat.lt_or_ge i j with h1 | h1
  ·exact hI i hi h1
  ·have:i=j:=by omega
   subst this
   simpa using Ne.symm h
 ·exact Zk (fun i hi=>hI i hi j_)
theorem Zq (l:List Int) (x:Int) (hl:Dx l):Sy.Spec Tryz.prog 161 [.sl 1 Aa l,Aa x] [] (Af (inB l x)) []:=cT F161 Tryz.ntmps161 fun F hF=>by
 conv=>whnf
 (repeat' (first | (refine Bn rfl (.cons .tmp .nil) ?_ rfl) | (refine c0 (indexS _ _ hl) F160 ?_;((refine oO ?_)))))
 exact congrArg Af (Abb _ _).symm
def Oo (l:List Int) (least most:Int) (i:Nat) (x:Int):Bool:=decide (least≤x) && decide (x≤most) && (i == 0 || decide (nth l ((i:Int)-1)<x))
def Hk (l:List Int) (least most:Int):Bool:=decide (0<l.length) && decide (l.length≤16) && Qp (Oo l least most) l
theorem Xi (l:List Int) (least most:Int) (hl:Dx l):Sy.Spec Tryz.prog 166 [.sl 1 Aa l,Aa least,Aa most] [] (Af (Hk l least most)) []:=cT F166 Tryz.ntmps166 fun F hF=>by
 unfold Dx at hl
 conv=>whnf
 refine Bz l.length (fun j=>M4 (Oo l least most) l j) (fun j=>[(0,.sl 1 Aa l),(1,Aa least),(2,Aa most),(9,.sl 1 Aa l),(10,Aa l.length),(11,Aa j)]) (fun _=>[]) [] (Ej _ _) ⟨⟨q_,q_,q_,q_,q_,q_,q_,q_,q_,q_,q_,q_,z_⟩,z_,q_,q_⟩ ?_
 intro j hj hI
 refine oO ?_
 (repeat' (first | (refine⟨fun h=>?_,fun h=>?_⟩<;>(repeat (first | simp only[decide_eq_true_eq]at h | simp only[decide_eq_false_iff_not]at h))<;>((refine oO ?_);repeat((first|refine aF ?_|refine aT ?_);(refine oO ?_)))) | (refine Bn rfl (.cons .tmp .nil) ?_ rfl) | (refine⟨y_,?_⟩;((conv=>whnf))) | (refine⟨by (first | (unfold I64;omega) | omega),by (omega),?_⟩;((conv=>whnf))) | (refine⟨by (unfold I64;omega),?_⟩;((conv=>whnf))) | refine B1 [] hI j_ ?_ ⟨⟨rfl,rfl,rfl,rfl,rfl,rfl,rfl,rfl,rfl,rfl,rfl,rfl,trivial⟩,trivial,rfl,rfl⟩))
 all_goals try (refine congrArg Af ?_)
 all_goals try simp only[Int.toNat_natCast,Int.pred_toNat]at *
 ·rw[Hk,Ev (i:=j) j_ (by simp[Oo];omega)];simp
 ·rw[Hk,Ev (i:=j) j_ (by simp[Oo];omega)];simp
 ·rw[Hk,Ev (i:=j) j_ (by simp only[Oo,Aax (show ((j:Int)-1).toNat<l.length by omega),Int.pred_toNat,Int.toNat_natCast];simp;omega)];simp
 ·exact Dz hI j_ (by simp only[Oo,Aax (show ((j:Int)-1).toNat<l.length by omega),Int.pred_toNat,Int.toNat_natCast];simp;omega)
 ·exact Dz hI j_ (by simp[Oo];omega)
 ·rw[Hk,Od hI j_,Bool.eq_iff_iff];simp;omega
 ·rw[Hk];simp;omega
theorem Bi {K:List Nat}:∀ (a b:List SV),Bd K (a++b)=(Bd K a && Bd K b)
 | [],b=>by simp[Bd]
 | x::a,b=>by simp[Bd,Bi a b,Bool.and_assoc]
theorem Oa {f:FuncId} {first cap xs:List SV} (hc:(SV.clo (.func f) first cap).inn []=true) (hx:Bd [] xs=true):Bd [] (first++xs++cap)=true:=by
 simp only[SV.inn,Bool.and_eq_true]at hc
 rw[Bi,Bi,hc.1,hc.2,hx]
 rfl
def Acn (l:List Int) (most:Int):Bool:=decide (l.length=0) || Hk l 1 most
theorem D3 {P:Program} (Γ:Ty P) {o:Oper} {s:SS} {t:TypeId} {ti:TI} {et:TypeId} {sz eb lo hi:Nat} {ez:List Value} {x:Operand} {lx hx:Option Operand} {α:Type} {e:α→SV} {l:List α} (r:List α)
  (h:o.op=.slice t x lx hx none) (ht:Γ.get t=some ti) (hk:ti.k=.slice et sz eb ez) (hxe:ev s x=.sl sz e l) (hlo:BoundIs s lx 0 lo) (hhi:BoundIs s hx l.length hi) (h1:lo≤hi) (h2:hi≤l.length) (hr:(l.take hi).drop lo=r) :
  Good P o s ⟨.sl sz e r,[],[]⟩:=by
 subst hr
 exact Qy Γ h ht hk hxe hlo hhi h1 h2
theorem Sn (a:Int):Sy.Spec Tryz.prog 170 [Aa a] [] (Af false) []:=cT F170 Tryz.ntmps170 fun F hF=>by
 conv=>whnf
 exact Bn q_ (.cons .tmp .nil) (congrArg Af qd) q_
theorem Sm (a:Int):Sy.Spec Tryz.prog 231 [Cn a] [] (Af false) []:=cT F231 Tryz.ntmps231 fun F hF=>by
 conv=>whnf
 exact Bn q_ (.cons .tmp .nil) (congrArg Af qd) q_
def Au (a b:Int):Int:=if a<b then -1 else if a>b then 1 else 0
theorem Dk (a b:Int):Sy.Spec Tryz.prog 103 [Aa a,Aa b] [] (Aa (Au a b)) []:=cT F103 Tryz.ntmps103 fun F hF=>by
 conv=>whnf
 (repeat' (first | (refine⟨fun h=>?_,fun h=>?_⟩<;>(repeat (first | simp only[decide_eq_true_eq]at h | simp only[decide_eq_false_iff_not]at h))<;>((refine oO ?_))) | (refine Bn rfl (.cons .tmp .nil) ?_ rfl) | (refine c0 (Sn a) F170 ?_;((refine oO ?_))) | (refine c0 (Sn b) F170 ?_;((refine oO ?_);repeat((refine aF ?_);(refine oO ?_))))))
 all_goals (refine congrArg Aa ?_;clear hF;grind [Au])
theorem V3 (a b:Int):Sy.Spec Tryz.prog 172 [Cn a,Cn b] [] (Aa (Au a b)) []:=cT F172 Tryz.ntmps172 fun F hF=>by
 conv=>whnf
 (repeat' (first | (refine⟨fun h=>?_,fun h=>?_⟩<;>(repeat (first | simp only[decide_eq_true_eq]at h | simp only[decide_eq_false_iff_not]at h))<;>((refine oO ?_))) | (refine Bn rfl (.cons .tmp .nil) ?_ rfl) | (refine c0 (Sm a) F231 ?_;((refine oO ?_))) | (refine c0 (Sm b) F231 ?_;((refine oO ?_);repeat((refine aF ?_);(refine oO ?_))))))
 all_goals (refine congrArg Aa ?_;clear hF;grind [Au])
def orI:List Int→Int
 | []=>0
 | x::l=>if x=0 then orI l else x
theorem Ox:∀ {l:List Int} {j:Nat},(∀ i (h:i<l.length),i<j→l[i]=0)→orI l=orI (l.drop j)
 | l,0,_=>rfl
 | [],j+1,_=>rfl
 | x::l,j+1,h=>by
  have h0:=h 0 qd j_
  simp only[List.getElem_cons_zero]at h0
  rw[orI,if_pos h0,List.drop_succ_cons]
  exact Ox fun i hi hij=>h (i+1) (by simp;omega) j_
theorem orS (l:List Int) (hl:Dx l):Sy.Spec Tryz.prog 102 [.sl 1 Aa l] [] (Aa (orI l)) []:=cT F102 Tryz.ntmps102 fun F hF=>by
 unfold Dx at hl
 conv=>whnf
 refine Bz l.length (fun j=>∀ i (h:i<l.length),i<j→l[i]=0) (fun j=>[(3,Aa 0),(6,.sl 1 Aa l),(7,Aa l.length),(8,Aa j)]) (fun _=>[]) [] (fun i h hj=>absurd hj j_) ⟨⟨q_,q_,q_,q_,q_,q_,q_,q_,z_⟩,z_,q_,q_⟩ ?_
 intro j hj hI
 refine oO ?_
 (repeat' (first | (refine⟨fun h=>?_,fun h=>?_⟩<;>(repeat (first | simp only[decide_eq_true_eq]at h | simp only[decide_eq_false_iff_not]at h | simp only[bne_iff_ne]at h | simp only[bne_eq_false_iff_eq]at h))<;>((refine oO ?_))) | (refine Bn rfl (.cons .tmp .nil) ?_ rfl) | (refine⟨y_,?_⟩;((conv=>whnf))) | (refine⟨by (omega),by (omega),?_⟩;((conv=>whnf))) | (refine⟨by (unfold I64;omega),?_⟩;((conv=>whnf))) | refine B1 [] hI j_ ?_ ⟨⟨rfl,rfl,rfl,rfl,rfl,rfl,rfl,rfl,trivial⟩,trivial,rfl,rfl⟩))
 all_goals try (refine congrArg Aa ?_)
 ·have hj2:j<l.length:=by omega
  rw[Ox hI,List.drop_eq_getElem_cons hj2,orI,if_neg (by simpa using h)]
  rfl
 ·intro i hi hij
  rcases Nat.lt_or_ge i j with h1 | h1
  ·exact hI i hi h1
  ·have:i=j:=by omega
   subst this
   simpa using h
 ·rw[Ox hI,List.drop_of_length_le j_]
  rfl
end Go.Sy.YtgblchnfjbkipaaGreatDoor
namespace Go.Sy.YtgblchnfjbkipaaGreatDoor
open Go.Proofs
structure LineM where
 row:Int
 kind:Int
 dev:ByteArray
 port:ByteArray
 peer:ByteArray
 far:ByteArray
 name:ByteArray
 mac:Int
 addr:Int
 bits:Int
 vlan:Int
 num:Int
 cost:Int
 tagged:List Int
 imports:List Int
 exports:List Int
 addrs:List Int
def Av (l:LineM):List SV:=[Aa l.row,Aa l.kind,Ac l.dev,Ac l.port,Ac l.peer,Ac l.far,Ac l.name,Cn l.mac,Aw l.addr,Aa l.bits,Aa l.vlan,Aa l.num,Aa l.cost,.sl 1 Aa l.tagged,.sl 1 Aa l.imports,.sl 1 Aa l.exports,.sl 1 Aw l.addrs]
def Ab (l:LineM):SV:=.agg [Aa l.row,Aa l.kind,Ac l.dev,Ac l.port,Ac l.peer,Ac l.far,Ac l.name,Cn l.mac,Aw l.addr,Aa l.bits,Aa l.vlan,Aa l.num,Aa l.cost,.sl 1 Aa l.tagged,.sl 1 Aa l.imports,.sl 1 Aa l.exports,.sl 1 Aw l.addrs]
theorem cmpI_ok:CmpOK Au:=Acc
theorem I3 {a b:Int} (h:Au a b=0):a=b:=Zr h
def Jd (x y:UInt8):Int:=Au (x.toNat:Int) (y.toNat:Int)
theorem cmpU_ok:CmpOK Jd:=cmpI_ok.comap (fun x:UInt8=>(x.toNat:Int))
theorem Lv {x y:UInt8} (h:Jd x y=0):x=y:=by
 have:=I3 h
 exact UInt8.toNat_inj.1 j_
def D2 (a b:ByteArray):Int:=Ao Jd a.data.toList b.data.toList
theorem cmpB_ok:CmpOK D2:=cmpU_ok.list.comap (fun b:ByteArray=>b.data.toList)
theorem Zs {a b:ByteArray} (h:D2 a b=0):a=b:=by
 have:=J6 (fun x y=>Lv) _ _ h
 obtain ⟨⟨a⟩⟩:=a
 obtain ⟨⟨b⟩⟩:=b
 simp at this
 rw[this]
theorem Kw:∀ (a b:List UInt8),Op.bytesLess a b=decide (Ao Jd a b<0)
 | [],[]=>by simp[Op.bytesLess,Ao]
 | [],_::_=>by simp[Op.bytesLess,Ao]
 | _::_,[]=>by simp[Op.bytesLess,Ao]
 | x::a,y::b=>by
  rw[Op.bytesLess,Ao,Kw a b]
  unfold Bs Jd Au
  have hx:=x.toNat_lt
  have hy:=y.toNat_lt
  by_cases h1:x<y
  ·have h2:(x.toNat:Int)<(y.toNat:Int):=by have:=UInt8.lt_iff_toNat_lt.1 h1;omega
   simp[h1,h2]
  ·have h2:¬ (x.toNat:Int)<(y.toNat:Int):=fun h=>h1 (UInt8.lt_iff_toNat_lt.2 j_)
   by_cases h3:x=y
   ·subst h3;simp
   ·have h4:(y.toNat:Int)<(x.toNat:Int):=by
     have:x.toNat≠y.toNat:=fun e=>h3 (UInt8.toNat_inj.1 e)
     omega
    simp[h1,h2,h3,h4]
theorem Abn {a b:List UInt8}:Ao Jd a b=if Op.bytesLess a b=true then -1 else if a=b then 0 else 1:=by
 rw[Kw]
 have hr:∀ (a b:List UInt8),Ao Jd a b=-1∨Ao Jd a b=0∨Ao Jd a b=1:=by
  intro a
  induction a with
  | nil=>intro b;cases b<;>simp[Ao]
  | cons x a ih =>
   intro b
   cases b with
   | nil=>simp[Ao]
   | cons y b =>
    rw[Ao]
    unfold Bs
    split
    ·unfold Jd Au;split
     ·simp
     ·split<;>simp
    ·exact ih b
 have h0:=J6 (c:=Jd) (fun x y=>Lv) a b
 rcases hr a b with h | h | h
 ·rw[h];simp
 ·rw[h,h0 h];simp
 ·have hne:a≠b:=fun e=>by
   subst e
   have:=cmpU_ok.list.self a
   omega
  rw[h,if_neg qd,if_neg hne]
theorem Dp (x:Int) (l:List Int):orI (x::l)=Bs x (orI l):=by
 rw[orI];unfold Bs;split<;>simp_all
theorem CmpOK.const {α:Type}:CmpOK (fun _ _:α=>(0:Int)):=⟨fun _ _=>by simp,fun _ _ _ _ _=>by simp⟩
theorem CmpOK.orNil {α:Type}:CmpOK (fun _ _:α=>orI []):=CmpOK.const
theorem CmpOK.or {α:Type} {c:α→α→Int} {d:α→α→List Int} (hc:CmpOK c) (hd:CmpOK (fun x y=>orI (d x y))):CmpOK (fun x y=>orI (c x y::d x y)):=by
 have h:=hc.then hd
 simp only[Dp]
 exact h
def stepI (k:Int):Int:=if k=1 then 1 else if k=5 then 2 else if k=2 then 3 else if k=3 then 4 else if k=4 then 5 else if k=6 then 6 else if k=7 then 7 else if k=8 then 8 else if k=9 then 9 else 10
def O3 (a b:LineM):Int:=orI [D2 a.dev b.dev,D2 a.port b.port,D2 a.peer b.peer,D2 a.far b.far,D2 a.name b.name]
def If (a b:LineM):Int:=orI [Au a.vlan b.vlan,Au a.num b.num,Au a.mac b.mac,Au a.addr b.addr,Au a.bits b.bits,Au a.cost b.cost]
def O5 (a b:LineM):Int:=orI [Ao Au a.tagged b.tagged,Ao Au a.imports b.imports,Ao Au a.exports b.exports,Ao Au a.addrs b.addrs]
def Ii (a b:LineM):Int:=orI [Au (stepI a.kind) (stepI b.kind),O3 a b,If a b,O5 a b]
theorem lineC_ok:CmpOK Ii:=by
 have n:CmpOK O3:=.or (cmpB_ok.comap LineM.dev) (.or (cmpB_ok.comap LineM.port) (.or (cmpB_ok.comap LineM.peer) (.or (cmpB_ok.comap LineM.far) (.or (cmpB_ok.comap LineM.name) .orNil))))
 have u:CmpOK If:=.or (cmpI_ok.comap LineM.vlan) (.or (cmpI_ok.comap LineM.num) (.or (cmpI_ok.comap LineM.mac) (.or (cmpI_ok.comap LineM.addr) (.or (cmpI_ok.comap LineM.bits) (.or (cmpI_ok.comap LineM.cost) .orNil)))))
 have l:CmpOK O5:=.or (cmpI_ok.list.comap LineM.tagged) (.or (cmpI_ok.list.comap LineM.imports) (.or (cmpI_ok.list.comap LineM.exports) (.or (cmpI_ok.list.comap LineM.addrs) .orNil)))
 exact .or (cmpI_ok.comap (fun a:LineM=>stepI a.kind)) (.or n (.or u (.or l .orNil)))
def Bm (a b:LineM):Bool:=decide (Ii a b<0)
theorem lineB_ordy:Ordy Bm:=lineC_ok.ordy
def Ep (l:List LineM):List LineM:=l.mapIdx fun i x=>{ x with row:=i+1 }
def A4 (l:List LineM):List LineM:=Ep (At Bm l)
end Go.Sy.YtgblchnfjbkipaaGreatDoor
namespace Go.Sy
theorem Yp {κ:Ka} {w:World} {x:SV}:∀ {l:List SV} {cs:List Value} {i:Nat},RdL κ w l cs→(∀ y v,l[i]? = some y→Rd κ w y v→Rd κ w x v)→RdL κ w (l.set i x) cs
 | [],_,_,h,_=>h
 | y::l,cs,0,h,hx=>by
  simp only[RdL,List.set_cons_zero]at h ⊢
  obtain ⟨v,r,e1,e2,e3⟩:=h
  exact⟨v,r,e1,hx y v q_ e2,e3⟩
 | y::l,cs,i+1,h,hx=>by
  simp only[RdL,List.set_cons_succ]at h ⊢
  obtain ⟨v,r,e1,e2,e3⟩:=h
  exact⟨v,r,e1,e2,Yp e3 (fun z u hz hu=>hx z u hz hu)⟩
theorem Wc {C:Cx} {k:List KI} {s:SS} (b i d sz:Nat) {α:Type} (e:α→SV) {l:List SV} (hb:s.h b=.box l) (h:l[i]? = some (.val (.slice none 0 0))) (hd:s.h d=.fresh) (hbd:Nat.beq b d=false)
  (hg:G C k ⟨s.σ,upd (upd s.h b (.box (l.set i (.osl d)))) d (.row sz e [])⟩):G C k s:=fun κ a w hs=>by
 have hne:b≠d:=fun e=>by rw[e,Nat.beq_refl]at hbd;cases hbd
 have hnew:κ d=.new:=by have:=hs.obj d;rwa [hd]at this
 obtain ⟨st,inv⟩:=C7 hs.inv hnew (e:=.nil) (Grew.refl w) (fun b hb=>by cases hb)
 refine hg (Cs κ d .nil) a w ⟨hs.defers,hs.size,inv,hs.ctx.step inv st,fun j=>Rd.step st _ _ (hs.slot j),fun j=>?_⟩
 show ObOK _ w j (upd (upd s.h b (.box (l.set i (.osl d)))) d (.row sz e []) j)
 by_cases hj:j=d
 ·subst hj;rw[Bc];exact .inl ⟨Ah _ _ _,rfl⟩
 ·rw[B2 _ _ hj]
  by_cases hjb:j=b
  ·subst hjb
   rw[Bc]
   have:=ObOK.step st hj _ (hs.obj j)
   rw[hb]at this
   obtain ⟨b',cs,T,fr,e1,e2,e3,e4,e5⟩:=this
   refine⟨b',cs,T,fr,e1,e2,e3,e4,Yp e5 fun y v hy hv=>?_⟩
   rw[h]at hy
   cases hy
   simp only[Rd]at hv
   simp only[Rd,Ah]
   exact hv
  ·rw[B2 _ _ hjb];exact ObOK.step st hj _ (hs.obj j)
theorem I7 {P:Program} (w:World) {t e:TypeId} (h:P.underlying t=some (.slice e)) (ad:Option Addr) (n cap c1 c2:Nat):(Op.equal t (.slice ad n cap) (.slice none c1 c2)).run P w=.ok ad.isNone w:=by
 have key:∀ d,(Op.equalIn (d+1) t (.slice ad n cap) (.slice none c1 c2)).run P w=.ok ad.isNone w:=fun d=>by
  cases ad<;>simp[Op.equalIn,run_underlying h]
 exact key 9999
inductive NilT (s:SS):SV→List Nat→Nat→Prop
 | sl {sz:Nat} {α:Type} {e:α→SV} {l:List α}:NilT s (.sl sz e l) [] l.length
 | row {k sz:Nat} {α:Type} {e:α→SV} {l:List α} (h:s.h k=.row sz e l):NilT s (.osl k) [k] l.length
theorem NilT.at {C:Cx} {s:SS} {κ:Ka} {a:Act} {w:World} {x:Operand} {rd:List Nat} {n:Nat} (hs:St C.F C.n s κ a w) (hx:NilT s (ev s x) rd n):∃ (ad:Option Addr) (m cap:Nat),a.eval x=.slice ad m cap∧(ad.isNone=true→n=0):=by
 have h1:Rd κ w (ev s x) (a.eval x):=hs.ev x
 generalize ev s x=y at *
 cases hx with
 | @sl sz α e l =>
  simp only[Rd,RdD]at h1
  rcases h1 with ⟨rfl,a',cap,h1⟩ | ⟨b,off,cap,h1,_⟩
  ·exact⟨_,_,_,h1,fun _=>rfl⟩
  ·exact⟨_,_,_,h1,fun h=>by cases h⟩
 | @row k' sz α e l hr =>
  have hob:=hs.obj k'
  rw[hr]at hob
  simp only[Rd]at h1
  rcases hob with ⟨hκ,hl⟩ | ⟨b,cap,_,_,_,hκ,_⟩
  ·rw[hκ]at h1
   exact⟨_,_,_,h1,fun _=>by rw[hl];rfl⟩
  ·rw[hκ]at h1
   exact⟨_,_,_,h1,fun h=>by cases h⟩
theorem X9 {C:Cx} {k:List KI} {s:SS} {all:Array Oper} {o:Oper} {rest:List Oper} {op:BinOp} {t yt:TypeId} {ti:TI} {et:TypeId} {sz eb n:Nat} {ez:List Value} {x y:Operand} {rd:List Nat} (h:o.op=.binOp op t x y yt) (hop:op=.eql∨op=.neq)
  (ht:C.Γ.get t=some ti) (hk:ti.k=.slice et sz eb ez) (hy:ev s y=.val (.slice none 0 0)) (hx:NilT s (ev s x) rd n) (hd:Jq C.n o=true) (hw:Ca C.n all o s=some true)
  (hg:∀ b:Bool,(b=true→n=0)→G C (.ops all rest::k) (s.upd o.dst ⟨.val (.bool (if op=.eql then b else !b)),rd,[]⟩)):G C (.ops all (o::rest)::k) s:=fun κ a w hs=>by
 have h2:Rd κ w (ev s y) (a.eval y):=hs.ev y
 rw[hy]at h2
 obtain ⟨ad,m,cap,e1,e2⟩:=hx.at hs
 obtain ⟨d,info,z,k1,k2,_⟩:=C.Γ.ok t ti ht
 rw[hk]at k2
 simp only[TK.ok]at k2
 have hrun:=I7 (P:=C.P) w (t:=t) (e:=et) (by first | exact k2.1 ▸ k1 | (rw[k1,k2.1])) ad m cap 0 0
 have hG:=hg ad.isNone e2
 have hv:=h2.val
 refine wpList_step fun K hK=>?_
 rw[if_pos (Iu hs (B3 hw).2 (B3 hw).1)]
 have hx':(execOp a.eval o).run C.P w=.ok (.value (.bool (if op=.eql then ad.isNone else !ad.isNone))) w:=by
  rcases hop with rfl | rfl<;>simp[execOp,h,e1,hv,eqGuard,binOp,hrun]
 simp only[Oper.wp,hx',Oper.upon]
 exact hK _ _ (hG κ _ w (hs.put (U:=⟨.val (.bool (if op=.eql then ad.isNone else !ad.isNone)),rd,[]⟩) (Qj hd) (Step.refl _ κ w) hs.inv (by simp[Rd]) (fun p hp=>by cases hp)))
def KeepL (s:SS):List (Nat × Ob)→Prop
 | []=>True
 | (k,o)::r=>s.h k=o∧KeepL s r
theorem KeepL.all {s:SS}:∀ {l:List (Nat × Ob)},KeepL s l→∀ p∈l,s.h p.1=p.2
 | [],_,p,hp=>by cases hp
 | (k,o)::r,h,p,hp=>by
  rcases List.mem_cons.1 hp with rfl | hp
  ·exact h.1
  ·exact KeepL.all h.2 p hp
theorem stepD2 {C:Cx} {k:List KI} {s:SS} {all:Array Oper} {done:List Stp} {o:Oper} {rest:List Oper} {U:Up} (hg:Good C.P o s U) (hk:KeepL s U.objs) (hi:all[done.length]? = some o) (hw:Ca C.n all o s=some true)
  (h:DR C k all (done++[⟨done.length,o,⟨U.v,U.rd++U.ws,[]⟩,true⟩]) rest (s.upd o.dst ⟨U.v,U.rd++U.ws,[]⟩)) (hn:(Di o || E6 o)=false:=by rfl):DR C k all done (o::rest) s :=
 Abv _ (.of2 (hg.keep hk.all) hn) hi (B3 hw).1 h
theorem Q8 {κ:Ka} {w w':World} (hi:Inv κ w) (g:Grew w w'):Step (fun _=>False) κ w κ w'∧Inv κ w' :=
 ⟨⟨g.size,g.os,g.tape,g.output,rfl,fun b hb=>g.blk b (hi.mbnd b hb),fun b hb _=>g.blk b hb,fun k b _ hb=>g.blk b (hi.bnd k b hb),fun _ _=>rfl,fun _ h=>h.elim,fun _ h=>.inl h⟩,
  ⟨hi.inj,fun k b h=>Nat.lt_of_lt_of_le (hi.bnd k b h) g.size,hi.apart,fun b h=>Nat.lt_of_lt_of_le (hi.mbnd b h) g.size⟩⟩
theorem Spec.of_calls {P:Program} {f:FuncId} {A:List SV} {H:Obs} {u:Value}
  (h:∀ (κ:Ka) (w:World) (vs:List Value),Inv κ w→RdL κ w A vs→H.ok κ w→Calls P f vs.toArray w fun e w'=>e=.returned u∧RowKit.Below w.heap.size w w'):Spec P f A H (.val u) H:=by
 intro κ w vs hi _ hr ho
 refine(h κ w vs hi hr ho).mono fun e w' hw=>?_
 obtain ⟨he,hw⟩:=hw
 have g:Grew w w':=⟨hw.os,hw.tape,hw.output,hw.size,hw.block⟩
 have st:=Q8 hi g
 exact⟨u,κ,he,(Ctx.refl κ w).step st.2 st.1,st.2,by simp[Rd],fun p hp=>ObOK.step st.1 qd p.2 (ho p hp)⟩
theorem Wf {κ:Ka} {w:World} {l:List ByteArray} {v:Value} (h:Rd κ w (.sl 1 Ac l) v) :
  (l=[]∧∃ a c,v=.slice a 0 c)∨∃ b o c,v=.slice (some ⟨b,o,none⟩) l.length c∧l.length≤c∧b<w.heap.size∧∀ (j:Nat) x,l[j]? = some x→w.cell? ⟨b,o+j,none⟩=some (.string x):=by
 simp only[Rd,RdD]at h
 rcases h with ⟨h1,h2⟩ | ⟨b,off,cap,h1,h0,h2,h3,h4⟩
 ·exact .inl ⟨h1,h2⟩
 ·refine .inr ⟨b,off,cap,h1,h0,h3,fun j x hj=>?_⟩
  obtain ⟨hlt,he⟩:=List.getElem?_eq_some_iff.1 hj
  obtain ⟨u,h5,h6⟩:=h4 j hlt
  rw[he]at h5
  simp only[Ac,RdD]at h5
  subst h5
  have:=h6.2.2 0 j_
  simp only[Nat.mul_one,Nat.add_zero]at this
  exact this
def D7 (l:List ByteArray) (sep:ByteArray):ByteArray:=⟨(Lib.join (l.map (·.data.toList)) sep.data.toList).toArray⟩
def E9 (l:List ByteArray):Nat:=(l.map (·.size)).sum
theorem Ye:∀ (l:List (List UInt8)) (sep:List UInt8),(Lib.join l sep).length≤(l.map (·.length)).sum+sep.length * l.length
 | [],_=>by simp[Lib.join_nil]
 | x::r,sep=>by
  rw[Lib.join_length]
  have:Lib.lens (x::r)=((x::r).map (·.length)).sum:=by
   clear sep
   induction (x::r) with
   | nil=>rfl
   | cons a t ih=>simp[Lib.lens,ih]
  rw[this,List.length_cons,Nat.mul_succ]
  omega
theorem Aa4 {l:List ByteArray} {sep:ByteArray} (h1:E9 l≤70368744177664) (h2:sep.size * l.length≤70368744177664):(Lib.join (l.map (·.data.toList)) sep.data.toList).length≤140737488355328:=by
 have:=Ye (l.map (·.data.toList)) sep.data.toList
 have e:(l.map (·.data.toList)).map (·.length)=l.map (·.size):=by
  rw[List.map_map]
  apply List.map_congr_left
  intro a _
  rfl
 rw[e,List.length_map]at this
 have e2:sep.data.toList.length=sep.size:=rfl
 rw[e2]at this
 unfold E9 at h1
 omega
end Go.Sy
namespace Go.Proofs
open Go.Shelf
def Tryz.lays156_ren:Go.Shelf.Ren:=⟨fun | 156=>255 | 165=>303 | 166=>304 | 169=>305 | 240=>353 | 241=>354 | 276=>386 | 277=>387 | n=>n,fun | 31=>164 | 9=>9 | 3=>3 | 4=>4 | 0=>0 | 20=>20 | 72=>302 | 76=>305 | 70=>300 | 37=>35 | 75=>304 | 127=>330 | 164=>338 | 5=>5 | 80=>223 | n=>n,fun | n=>n⟩
theorem Tryz.lays156:Go.Proofs.Lays.n156 Tryz.prog Tryz.lays156_ren:={
 mixed:=by kernel_rfl
 f156:=Tryz.func255.trans (congrArg some Go.Sy.y_)
 f165:=Tryz.func303.trans (congrArg some Go.Sy.y_)
 f166:=Tryz.func304.trans (congrArg some Go.Sy.y_)
 f169:=Tryz.func305.trans (congrArg some Go.Sy.y_)
 f240:=Tryz.func353.trans (congrArg some Go.Sy.y_)
 f241:=Tryz.func354.trans (congrArg some Go.Sy.y_)
 f276:=Tryz.func386.trans (congrArg some Go.Sy.y_)
 f277:=Tryz.func387.trans (congrArg some Go.Sy.y_)
 t0:=Tryz.underlying0
 a0:=Tryz.isAgg0
 z0:=Tryz.sizeOf0
 v0:=Tryz.zeroValue0
 t3:=Tryz.underlying3
 a3:=Tryz.isAgg3
 z3:=Tryz.sizeOf3
 v3:=Tryz.zeroValue3
 t4:=Tryz.underlying4
 a4:=Tryz.isAgg4
 z4:=Tryz.sizeOf4
 v4:=Tryz.zeroValue4
 t9:=Tryz.underlying9
 a9:=Tryz.isAgg9
 z9:=Tryz.sizeOf9
 v9:=Tryz.zeroValue9
 t20:=Tryz.underlying20
 a20:=Tryz.isAgg20
 z20:=Tryz.sizeOf20
 v20:=Tryz.zeroValue20
 t31:=Tryz.underlying164
 a31:=Tryz.isAgg164
 z31:=Tryz.sizeOf164
 v31:=Tryz.zeroValue164
 t37:=Tryz.underlying35
 a37:=Tryz.isAgg35
 z37:=Tryz.sizeOf35
 v37:=Tryz.zeroValue35
 t70:=Tryz.underlying300
 a70:=Tryz.isAgg300
 z70:=Tryz.sizeOf300
 v70:=Tryz.zeroValue300
 t72:=Tryz.underlying302
 a72:=Tryz.isAgg302
 z72:=Tryz.sizeOf302
 v72:=Tryz.zeroValue302
 t75:=Tryz.underlying304
 a75:=Tryz.isAgg304
 z75:=Tryz.sizeOf304
 v75:=Tryz.zeroValue304
 t76:=Tryz.underlying305
 a76:=Tryz.isAgg305
 z76:=Tryz.sizeOf305
 v76:=Tryz.zeroValue305
 t127:=Tryz.underlying330
 a127:=Tryz.isAgg330
 z127:=Tryz.sizeOf330
 v127:=Tryz.zeroValue330
 t164:=Tryz.underlying338
 a164:=Tryz.isAgg338
 z164:=Tryz.sizeOf338
 v164:=Tryz.zeroValue338 }
theorem Tryz.Builder_Extra_156:Builder.Extra Tryz.prog Tryz.lays156_ren:={
 sizeBuilder:=by kernel_rfl
 liesBuilder:=by kernel_rfl
 t5:=Tryz.underlying5
 a5:=Tryz.isAgg5
 z5:=Tryz.sizeOf5
 v5:=Tryz.zeroValue5
 infoByte:=by kernel_rfl
 cellsByte:=by kernel_rfl
 sizeByte:=by kernel_rfl
 neB5:=by decide }
open Go.RowKit in
theorem Tryz.strings_Join_none (a:Option Addr) (c:Nat) (sep:ByteArray) (w:World) :
  Calls Tryz.prog 255 #[.slice a 0 c,.string sep] w fun e w'=>e=.returned (.string ⟨#[]⟩)∧w'=w:=Any.strings_Join_none Tryz.lays156 Tryz.Builder_Extra_156 a c sep w
open Go.RowKit in
theorem Tryz.strings_Join (bk o c:Nat) (xs:List ByteArray) (sep:ByteArray) (w:World) (hcells:∀ (j:Nat) x,xs[j]? = some x→w.cell? ⟨bk,o+j,none⟩=some (.string x)) (hbk:bk<w.heap.size) (hN:xs.length≤140737488355328) (hcap:xs.length≤c) (hlen:(Lib.join (xs.map (·.data.toList)) sep.data.toList).length≤140737488355328) :
  Calls Tryz.prog 255 #[.slice (some ⟨bk,o,none⟩) xs.length c,.string sep] w fun e w'=>e=.returned (.string ⟨(Lib.join (xs.map (·.data.toList)) sep.data.toList).toArray⟩)∧Below w.heap.size w w':=Any.strings_Join Tryz.lays156 Tryz.Builder_Extra_156 bk o c xs sep w hcells hbk hN hcap hlen
def Tryz.lays219_ren:Go.Shelf.Ren:=⟨fun | 219=>288 | 217=>341 | 225=>342 | 224=>343 | 267=>344 | 266=>382 | 314=>383 | n=>n,fun | 9=>9 | 3=>3 | 4=>4 | 5=>5 | 46=>257 | 146=>350 | 51=>24 | n=>n,fun | 1=>0 | n=>n⟩
theorem Tryz.lays219:Go.Proofs.Lays.n219 Tryz.prog Tryz.lays219_ren:={
 mixed:=by kernel_rfl
 f217:=Tryz.func341.trans (congrArg some Go.Sy.y_)
 f219:=Tryz.func288.trans (congrArg some Go.Sy.y_)
 f224:=Tryz.func343.trans (congrArg some Go.Sy.y_)
 f225:=Tryz.func342.trans (congrArg some Go.Sy.y_)
 f266:=Tryz.func382.trans (congrArg some Go.Sy.y_)
 f267:=Tryz.func344.trans (congrArg some Go.Sy.y_)
 f314:=Tryz.func383.trans (congrArg some Go.Sy.y_)
 t3:=Tryz.underlying3
 a3:=Tryz.isAgg3
 z3:=Tryz.sizeOf3
 v3:=Tryz.zeroValue3
 t4:=Tryz.underlying4
 a4:=Tryz.isAgg4
 z4:=Tryz.sizeOf4
 v4:=Tryz.zeroValue4
 t5:=Tryz.underlying5
 a5:=Tryz.isAgg5
 z5:=Tryz.sizeOf5
 v5:=Tryz.zeroValue5
 t9:=Tryz.underlying9
 a9:=Tryz.isAgg9
 z9:=Tryz.sizeOf9
 v9:=Tryz.zeroValue9
 t46:=Tryz.underlying257
 a46:=Tryz.isAgg257
 z46:=Tryz.sizeOf257
 v46:=Tryz.zeroValue257
 t51:=Tryz.underlying24
 a51:=Tryz.isAgg24
 z51:=Tryz.sizeOf24
 v51:=Tryz.zeroValue24
 t146:=Tryz.underlying350
 a146:=Tryz.isAgg350
 z146:=Tryz.sizeOf350
 v146:=Tryz.zeroValue350
 g1:=by kernel_rfl }
open Go.RowKit Go.Lib in
theorem Tryz.stringslite_Index_one (s:ByteArray) (c:UInt8) (w:World) :
  Calls Tryz.prog 288 #[.string s,.string ⟨#[c]⟩] w fun e w'=>e=.returned (.int .i64 (Lib.indexByte s.data.toList c))∧w'=w:=Any.stringslite_Index_one Tryz.lays219 s c w
def Tryz.lays143_ren:Go.Shelf.Ren:=⟨fun | 143=>348 | 219=>288 | 217=>341 | 225=>342 | 224=>343 | 267=>344 | 266=>382 | 314=>383 | n=>n,fun | 9=>9 | 3=>3 | 4=>4 | 5=>5 | 46=>257 | 146=>350 | 51=>24 | n=>n,fun | 1=>0 | n=>n⟩
theorem Tryz.lays143:Go.Proofs.Lays.n143 Tryz.prog Tryz.lays143_ren:={
 mixed:=by kernel_rfl
 f143:=Tryz.func348.trans (congrArg some Go.Sy.y_)
 f217:=Tryz.func341.trans (congrArg some Go.Sy.y_)
 f219:=Tryz.func288.trans (congrArg some Go.Sy.y_)
 f224:=Tryz.func343.trans (congrArg some Go.Sy.y_)
 f225:=Tryz.func342.trans (congrArg some Go.Sy.y_)
 f266:=Tryz.func382.trans (congrArg some Go.Sy.y_)
 f267:=Tryz.func344.trans (congrArg some Go.Sy.y_)
 f314:=Tryz.func383.trans (congrArg some Go.Sy.y_)
 t3:=Tryz.underlying3
 a3:=Tryz.isAgg3
 z3:=Tryz.sizeOf3
 v3:=Tryz.zeroValue3
 t4:=Tryz.underlying4
 a4:=Tryz.isAgg4
 z4:=Tryz.sizeOf4
 v4:=Tryz.zeroValue4
 t5:=Tryz.underlying5
 a5:=Tryz.isAgg5
 z5:=Tryz.sizeOf5
 v5:=Tryz.zeroValue5
 t9:=Tryz.underlying9
 a9:=Tryz.isAgg9
 z9:=Tryz.sizeOf9
 v9:=Tryz.zeroValue9
 t46:=Tryz.underlying257
 a46:=Tryz.isAgg257
 z46:=Tryz.sizeOf257
 v46:=Tryz.zeroValue257
 t51:=Tryz.underlying24
 a51:=Tryz.isAgg24
 z51:=Tryz.sizeOf24
 v51:=Tryz.zeroValue24
 t146:=Tryz.underlying350
 a146:=Tryz.isAgg350
 z146:=Tryz.sizeOf350
 v146:=Tryz.zeroValue350
 g1:=by kernel_rfl }
open Go.RowKit Go.Lib in
theorem Tryz.strings_Index_one (s:ByteArray) (c:UInt8) (w:World) :
  Calls Tryz.prog 348 #[.string s,.string ⟨#[c]⟩] w fun e w'=>e=.returned (.int .i64 (Lib.indexByte s.data.toList c))∧w'=w:=Any.strings_Index_one Tryz.lays143 s c w
def Tryz.lays101_ren:Go.Shelf.Ren:=⟨fun | 101=>289 | 208=>345 | 206=>384 | n=>n,fun | 9=>9 | 4=>4 | 3=>3 | n=>n,fun | n=>n⟩
theorem Tryz.lays101:Go.Proofs.Lays.n101 Tryz.prog Tryz.lays101_ren:={
 mixed:=by kernel_rfl
 f101:=Tryz.func289.trans (congrArg some Go.Sy.y_)
 f206:=Tryz.func384.trans (congrArg some Go.Sy.y_)
 f208:=Tryz.func345.trans (congrArg some Go.Sy.y_)
 t3:=Tryz.underlying3
 a3:=Tryz.isAgg3
 z3:=Tryz.sizeOf3
 v3:=Tryz.zeroValue3
 t4:=Tryz.underlying4
 a4:=Tryz.isAgg4
 z4:=Tryz.sizeOf4
 v4:=Tryz.zeroValue4
 t9:=Tryz.underlying9
 a9:=Tryz.isAgg9
 z9:=Tryz.sizeOf9
 v9:=Tryz.zeroValue9 }
open Go.RowKit Go.Lib in
theorem Tryz.strings_TrimPrefix (s p:ByteArray) (w:World) :
  Calls Tryz.prog 289 #[.string s,.string p] w fun e w'=>e=.returned (.string ⟨(Lib.trimPrefix s.data.toList p.data.toList).toArray⟩)∧w'=w:=Any.strings_TrimPrefix Tryz.lays101 s p w
end Go.Proofs
namespace Go.Sy.YtgblchnfjbkipaaGreatDoor
open Go.Proofs
theorem Oi (l:List ByteArray) (sep:ByteArray) (h0:l.length≤70368744177664) (h1:E9 l≤70368744177664) (h2:sep.size * l.length≤70368744177664) :
  Sy.Spec Tryz.prog 255 [.sl 1 Ac l,Ac sep] [] (Ac (D7 l sep)) [] :=
 Spec.of_calls fun κ w vs hi hr _=>by
  simp only[RdL]at hr
  obtain ⟨v,r,rfl,h3,u,r',rfl,h4,rfl⟩:=hr
  have h4':u=.string sep:=by simpa only [Ac,Rd] using h4
  subst h4'
  rcases Wf h3 with ⟨rfl,a,c,rfl⟩ | ⟨b,o,c,rfl,hc,hb,hcell⟩
  ·exact(Tryz.strings_Join_none a c sep w).mono fun e w' ⟨he,hw⟩=>⟨he,hw ▸ RowKit.Below.refl _ _⟩
  ·exact Tryz.strings_Join b o c l sep w hcell hb j_ hc (Aa4 h1 h2)
def D9 (c:UInt8) (l:List UInt8):Nat:=(Lib.indexByte l c).toNat
def A8 (c:UInt8) (l:List UInt8):Nat→List UInt8
 | 0=>l
 | j+1=>(A8 c l j).drop (D9 c (A8 c l j)+1)
def Ic (c:UInt8) (l:List UInt8) (j:Nat):List UInt8:=(A8 c l j).take (D9 c (A8 c l j))
def mkT (l:List UInt8):ByteArray:=⟨l.toArray⟩
def A5 (c:UInt8) (s:ByteArray):List ByteArray :=
 (List.range (s.data.toList.count c)).map (fun j=>mkT (Ic c s.data.toList j))++[mkT (A8 c s.data.toList (s.data.toList.count c))]
theorem Dj:∀ {l:List UInt8} {c:UInt8},c∈l→0≤Lib.indexByte l c∧(Lib.indexByte l c).toNat<l.length
 | b::l,c,h=>by
  unfold Lib.indexByte
  by_cases hb:b == c
  ·rw[if_pos hb];simp
  ·rw[if_neg hb]
   have hm':c∈l:=by
    rcases List.mem_cons.1 h with h | h
    ·exact absurd (by simp[h]) hb
    ·exact h
   have:=Dj hm'
   rw[if_neg (by simp;omega)]
   simp only[List.length_cons]
   omega
theorem Ht:∀ {l:List UInt8} {c:UInt8},c∈l→(l.drop (D9 c l+1)).count c+1=l.count c
 | b::l,c,h=>by
  unfold D9 Lib.indexByte
  by_cases hb:b == c
  ·rw[if_pos hb,List.count_cons,if_pos hb];simp
  ·rw[if_neg hb]
   have hm':c∈l:=by
    rcases List.mem_cons.1 h with h | h
    ·exact absurd (by simp[h]) hb
    ·exact h
   have h1:=Dj hm'
   rw[if_neg (by simp;omega),List.count_cons,if_neg hb,Nat.add_zero,← Ht hm']
   have e:(Lib.indexByte l c+1).toNat=D9 c l+1:=by unfold D9;omega
   rw[e,List.drop_succ_cons]
theorem J5 (c:UInt8) (l:List UInt8):∀ j,j≤l.count c→(A8 c l j).count c+j=l.count c
 | 0,_=>rfl
 | j+1,h=>by
  have ih:=J5 c l j j_
  have hm':c∈A8 c l j:=List.count_pos_iff.1 j_
  have:=Ht hm'
  rw[A8]
  omega
theorem W9 {c:UInt8} {l:List UInt8} {j:Nat} (h:j<l.count c):c∈A8 c l j :=
 List.count_pos_iff.1 (by have:=J5 c l j j_;omega)
def Xy (c:UInt8) (s:ByteArray):Nat:=s.data.toList.count c
theorem Jg (c:UInt8) (s:ByteArray):(A5 c s).length=Xy c s+1:=by simp only[A5,List.length_append,List.length_map,List.length_range,List.length_singleton];rfl
theorem Us (c:UInt8) (l:List UInt8):∀ j,(A8 c l j).length≤l.length
 | 0=>Nat.le_refl _
 | j+1=>by rw[A8,List.length_drop];have:=Us c l j;omega
theorem K5 {a b:ByteArray} (h:a.data.toList=b.data.toList):a=b:=by
 cases a;cases b;simp only[ByteArray.mk.injEq];exact Array.toList_inj.1 h
theorem Bw (l:List UInt8):(mkT l).size=l.length:=by simp[mkT,ByteArray.size]
theorem Ds (l:List UInt8):(mkT l).data.toList=l:=by simp[mkT]
theorem B5 (l:List UInt8) (i j:Nat):(mkT l).extract i j=mkT ((l.take j).drop i):=by
 apply K5
 simp[mkT,ByteArray.data_extract,List.extract_eq_take_drop,List.drop_take]
theorem Dr (s:ByteArray):mkT s.data.toList=s:=K5 (by simp[mkT])
theorem Aan {c:UInt8} {s:ByteArray} {j m:Nat} (h:Lib.indexByte (A8 c s.data.toList j) c=m):Ic c s.data.toList j=(A8 c s.data.toList j).take m:=by
 rw[Ic,D9,h,Int.toNat_natCast]
theorem Ab1 {c:UInt8} {s:ByteArray} {j m:Nat} (h:Lib.indexByte (A8 c s.data.toList j) c=m):A8 c s.data.toList (j+1)=(A8 c s.data.toList j).drop (m+1):=by
 rw[A8,D9,h,Int.toNat_natCast]
end Go.Sy.YtgblchnfjbkipaaGreatDoor
namespace Go.Sy.YtgblchnfjbkipaaGreatDoor
open Go.Proofs
attribute [local irreducible] Go.Sy.G Go.Sy.DR
set_option maxRecDepth 20000
set_option maxHeartbeats 4000000
def Dy (c:UInt8):Bool:=decide (48≤c.toNat) && decide (c.toNat≤57)
def Jt (s:ByteArray):Nat→Int
 | 0=>0
 | j+1=>10 * Jt s j+((Ak s j).toNat-48)
def V0 (s:ByteArray):Bool:=(List.range s.size).all fun i=>Dy (Ak s i)
def smallT (s:ByteArray) (most:Int):Int × Bool :=
 if s.size=0∨3<s.size∨(1<s.size∧(Ak s 0).toNat=48)∨V0 s=false then (0,false) else (Jt s s.size,decide (Jt s s.size≤most))
theorem K7 {s:ByteArray} {i:Nat} (hi:i<s.size) (h:Dy (Ak s i)=false):V0 s=false:=by
 rw[V0,List.all_eq_false]
 exact⟨i,by simpa using hi,by simp[h]⟩
theorem Sv {s:ByteArray} (h:∀ i,i<s.size→Dy (Ak s i)=true):V0 s=true:=by
 rw[V0,List.all_eq_true]
 intro i hi
 exact h i (by simpa using hi)
theorem digB_iff {c:UInt8}:Dy c=true↔48≤c.toNat∧c.toNat≤57:=by simp[Dy]
theorem S5 {s:ByteArray}:∀ {j:Nat},(∀ i,i<j→Dy (Ak s i)=true)→0≤Jt s j∧Jt s j<10 ^ j
 | 0,_=>by simp[Jt]
 | j+1,h=>by
  have ih:=S5 (s:=s) (j:=j) (fun i hi=>h i j_)
  have hd:=digB_iff.1 (h j j_)
  rw[Jt]
  have e:(10:Int) ^ (j+1)=10 * 10 ^ j:=by rw[Int.pow_succ];omega
  rw[e]
  omega
theorem Z2 {n:Nat} (h:48≤n) (h2:n<256):IntKind.u8.wrap ((n:Int)-48)=(n:Int)-48:=by
 rw[IntKind.wrap_u8]
 omega
theorem Abc {n:Int} (h:0≤n) (h2:n<256):IntKind.i64.wrap n=n:=by
 rw[IntKind.wrap_i64]
 omega
theorem Qq (s:ByteArray) (most:Int):Sy.Spec Tryz.prog 241 [Ac s,Aa most] [] (.tup [Aa (smallT s most).1,Af (smallT s most).2]) []:=cT F241 Tryz.ntmps241 fun F hF=>by
 have hlk:=smallT.eq_1 s most
 generalize smallT s most=res at *
 ((conv=>whnf);repeat((first|refine aF ?_|refine aT ?_);(first|refine rG Γ hm ?_|refine rD Γ hm y_ ?_);conv=>whnf))
 refine⟨fun h=>?_,fun h=>?_⟩
 ·have h1:s.size=0:=by simpa using h
  rw[if_pos (.inl h1)]at hlk
  subst hlk
  ((first|refine rG Γ hm ?_|refine rD Γ hm y_ ?_);(conv=>whnf);repeat((first|refine aF ?_|refine aT ?_);(first|refine rG Γ hm ?_|refine rD Γ hm y_ ?_);conv=>whnf))
  exact dN
 have h1:¬ s.size=0:=by simpa using h
 ((first|refine rG Γ hm ?_|refine rD Γ hm y_ ?_);(conv=>whnf);repeat((first|refine aF ?_|refine aT ?_);(first|refine rG Γ hm ?_|refine rD Γ hm y_ ?_);conv=>whnf))
 refine⟨fun h=>?_,fun h=>?_⟩
 ·have h2:3<s.size:=qA h
  rw[if_pos (.inr (.inl h2))]at hlk
  subst hlk
  ((first|refine rG Γ hm ?_|refine rD Γ hm y_ ?_);(conv=>whnf);repeat((first|refine aF ?_|refine aT ?_);(first|refine rG Γ hm ?_|refine rD Γ hm y_ ?_);conv=>whnf))
  exact dN
 have h2:¬ 3<s.size:=qB h
 ((first|refine rG Γ hm ?_|refine rD Γ hm y_ ?_);(conv=>whnf);repeat((first|refine aF ?_|refine aT ?_);(first|refine rG Γ hm ?_|refine rD Γ hm y_ ?_);conv=>whnf))
 refine⟨fun h=>?_,fun h=>?_⟩
 ·have h3:1<s.size:=qA h
  ((first|refine rG Γ hm ?_|refine rD Γ hm y_ ?_);(conv=>whnf);repeat((first|refine aF ?_|refine aT ?_);(first|refine rG Γ hm ?_|refine rD Γ hm y_ ?_);conv=>whnf))
  refine⟨by decide,by simp;omega,?_⟩
  ((conv=>whnf);repeat((first|refine aF ?_|refine aT ?_);(first|refine rG Γ hm ?_|refine rD Γ hm y_ ?_);conv=>whnf))
  refine⟨fun h=>?_,fun h=>?_⟩
  ·have h4:(Ak s 0).toNat=48:=by have:=h;simp at this;omega
   rw[if_pos (.inr (.inr (.inl ⟨h3,h4⟩)))]at hlk
   subst hlk
   ((first|refine rG Γ hm ?_|refine rD Γ hm y_ ?_);(conv=>whnf);repeat((first|refine aF ?_|refine aT ?_);(first|refine rG Γ hm ?_|refine rD Γ hm y_ ?_);conv=>whnf))
   exact dN
  have h34:¬ (1<s.size∧(Ak s 0).toNat=48):=by
   intro e
   have:=h
   simp at this
   omega
  ((first|refine rG Γ hm ?_|refine rD Γ hm y_ ?_);(conv=>whnf);repeat((first|refine aF ?_|refine aT ?_);(first|refine rG Γ hm ?_|refine rD Γ hm y_ ?_);conv=>whnf))
  refine Bz s.size (fun j=>∀ i,i<j→Dy (Ak s i)=true) (fun j=>[(0,Ac s),(1,Aa most),(6,Aa (Jt s j)),(27,Aa s.size),(28,Aa j)]) (fun _=>[]) [] (fun i hi=>absurd hi j_) ⟨⟨q_,q_,q_,q_,q_,q_,q_,q_,q_,q_,z_⟩,z_,q_,q_⟩ ?_
  intro j hj hI
  have hv:=S5 hI
  have hp:(10:Int) ^ j≤1000:=by
   have:j=0∨j=1∨j=2∨j=3:=by omega
   rcases this with rfl | rfl | rfl | rfl<;>decide
  have hsu:Jt s (j+1)=10 * Jt s j+((Ak s j).toNat-48):=rfl
  have hjn:((j:Nat):Int).toNat=j:=Int.toNat_natCast j
  have hb:=(Ak s j).toNat_lt
  generalize hvj:Jt s j=v at *
  ((first|refine rG Γ hm ?_|refine rD Γ hm y_ ?_);(conv=>whnf);repeat((first|refine aF ?_|refine aT ?_);(first|refine rG Γ hm ?_|refine rD Γ hm y_ ?_);conv=>whnf))
  refine⟨fun h=>?_,fun h=>?_⟩
  ·have hlt:j<s.size:=by simpa using h
   ((first|refine rG Γ hm ?_|refine rD Γ hm y_ ?_);(conv=>whnf);repeat((first|refine aF ?_|refine aT ?_);(first|refine rG Γ hm ?_|refine rD Γ hm y_ ?_);conv=>whnf))
   refine⟨by omega,by simpa using hlt,?_⟩
   rw[hjn]
   ((conv=>whnf);repeat((first|refine aF ?_|refine aT ?_);(first|refine rG Γ hm ?_|refine rD Γ hm y_ ?_);conv=>whnf))
   refine⟨fun h=>?_,fun h=>?_⟩
   ·have h5:¬ 48≤(Ak s j).toNat:=qA h
    rw[if_pos (.inr (.inr (.inr (K7 hlt (by simp only[Dy,Bool.and_eq_false_iff,decide_eq_false_iff_not];exact .inl h5)))))]at hlk
    subst hlk
    ((first|refine rG Γ hm ?_|refine rD Γ hm y_ ?_);(conv=>whnf);repeat((first|refine aF ?_|refine aT ?_);(first|refine rG Γ hm ?_|refine rD Γ hm y_ ?_);conv=>whnf))
    exact dN
   have h5:48≤(Ak s j).toNat:=qB h
   ((first|refine rG Γ hm ?_|refine rD Γ hm y_ ?_);(conv=>whnf);repeat((first|refine aF ?_|refine aT ?_);(first|refine rG Γ hm ?_|refine rD Γ hm y_ ?_);conv=>whnf))
   refine⟨by omega,by simpa using hlt,?_⟩
   rw[hjn]
   ((conv=>whnf);repeat((first|refine aF ?_|refine aT ?_);(first|refine rG Γ hm ?_|refine rD Γ hm y_ ?_);conv=>whnf))
   refine⟨fun h=>?_,fun h=>?_⟩
   ·have h6:¬ (Ak s j).toNat≤57:=qA h
    rw[if_pos (.inr (.inr (.inr (K7 hlt (by simp only[Dy,Bool.and_eq_false_iff,decide_eq_false_iff_not];exact .inr h6)))))]at hlk
    subst hlk
    ((first|refine rG Γ hm ?_|refine rD Γ hm y_ ?_);(conv=>whnf);repeat((first|refine aF ?_|refine aT ?_);(first|refine rG Γ hm ?_|refine rD Γ hm y_ ?_);conv=>whnf))
    exact dN
   have h6:(Ak s j).toNat≤57:=qB h
   ((first|refine rG Γ hm ?_|refine rD Γ hm y_ ?_);(conv=>whnf);repeat((first|refine aF ?_|refine aT ?_);(first|refine rG Γ hm ?_|refine rD Γ hm y_ ?_);conv=>whnf))
   refine iL ?_
   ((conv=>whnf);repeat((first|refine aF ?_|refine aT ?_);(first|refine rG Γ hm ?_|refine rD Γ hm y_ ?_);conv=>whnf))
   refine⟨by omega,by simpa using hlt,?_⟩
   rw[hjn]
   ((conv=>whnf);repeat((first|refine aF ?_|refine aT ?_);(first|refine rG Γ hm ?_|refine rD Γ hm y_ ?_);conv=>whnf))
   rw[Z2 h5 hb,Abc j_ j_]
   refine iL ?_
   ((conv=>whnf);repeat((first|refine aF ?_|refine aT ?_);(first|refine rG Γ hm ?_|refine rD Γ hm y_ ?_);conv=>whnf))
   refine iL ?_
   ((conv=>whnf);repeat((first|refine aF ?_|refine aT ?_);(first|refine rG Γ hm ?_|refine rD Γ hm y_ ?_);conv=>whnf))
   refine B1 [] hI j_ (fun i hi=>?_) ⟨⟨q_,q_,q_,q_,congrArg Aa hsu,q_,q_,q_,q_,q_,z_⟩,z_,q_,q_⟩
   by_cases hij:i=j
   ·subst hij;exact digB_iff.2 ⟨h5,h6⟩
   ·exact hI i j_
  ·have:j=s.size:=qB h
   subst this
   rw[if_neg (by rw[Sv hI];simp only[h1,h2,false_or,Bool.true_eq_false,or_false];exact h34),hvj]at hlk
   subst hlk
   ((first|refine rG Γ hm ?_|refine rD Γ hm y_ ?_);(conv=>whnf);repeat((first|refine aF ?_|refine aT ?_);(first|refine rG Γ hm ?_|refine rD Γ hm y_ ?_);conv=>whnf))
   exact dN
 ·have h34:¬ (1<s.size∧(Ak s 0).toNat=48):=qB h
  ((first|refine rG Γ hm ?_|refine rD Γ hm y_ ?_);(conv=>whnf);repeat((first|refine aF ?_|refine aT ?_);(first|refine rG Γ hm ?_|refine rD Γ hm y_ ?_);conv=>whnf))
  refine Bz s.size (fun j=>∀ i,i<j→Dy (Ak s i)=true) (fun j=>[(0,Ac s),(1,Aa most),(6,Aa (Jt s j)),(27,Aa s.size),(28,Aa j)]) (fun _=>[]) [] (fun i hi=>absurd hi j_) ⟨⟨q_,q_,q_,q_,q_,q_,q_,q_,q_,q_,z_⟩,z_,q_,q_⟩ ?_
  intro j hj hI
  have hv:=S5 hI
  have hp:(10:Int) ^ j≤1000:=by
   have:j=0∨j=1∨j=2∨j=3:=by omega
   rcases this with rfl | rfl | rfl | rfl<;>decide
  have hsu:Jt s (j+1)=10 * Jt s j+((Ak s j).toNat-48):=rfl
  have hjn:((j:Nat):Int).toNat=j:=Int.toNat_natCast j
  have hb:=(Ak s j).toNat_lt
  generalize hvj:Jt s j=v at *
  ((first|refine rG Γ hm ?_|refine rD Γ hm y_ ?_);(conv=>whnf);repeat((first|refine aF ?_|refine aT ?_);(first|refine rG Γ hm ?_|refine rD Γ hm y_ ?_);conv=>whnf))
  refine⟨fun h=>?_,fun h=>?_⟩
  ·have hlt:j<s.size:=by simpa using h
   ((first|refine rG Γ hm ?_|refine rD Γ hm y_ ?_);(conv=>whnf);repeat((first|refine aF ?_|refine aT ?_);(first|refine rG Γ hm ?_|refine rD Γ hm y_ ?_);conv=>whnf))
   refine⟨by omega,by simpa using hlt,?_⟩
   rw[hjn]
   ((conv=>whnf);repeat((first|refine aF ?_|refine aT ?_);(first|refine rG Γ hm ?_|refine rD Γ hm y_ ?_);conv=>whnf))
   refine⟨fun h=>?_,fun h=>?_⟩
   ·have h5:¬ 48≤(Ak s j).toNat:=qA h
    rw[if_pos (.inr (.inr (.inr (K7 hlt (by simp only[Dy,Bool.and_eq_false_iff,decide_eq_false_iff_not];exact .inl h5)))))]at hlk
    subst hlk
    ((first|refine rG Γ hm ?_|refine rD Γ hm y_ ?_);(conv=>whnf);repeat((first|refine aF ?_|refine aT ?_);(first|refine rG Γ hm ?_|refine rD Γ hm y_ ?_);conv=>whnf))
    exact dN
   have h5:48≤(Ak s j).toNat:=qB h
   ((first|refine rG Γ hm ?_|refine rD Γ hm y_ ?_);(conv=>whnf);repeat((first|refine aF ?_|refine aT ?_);(first|refine rG Γ hm ?_|refine rD Γ hm y_ ?_);conv=>whnf))
   refine⟨by omega,by simpa using hlt,?_⟩
   rw[hjn]
   ((conv=>whnf);repeat((first|refine aF ?_|refine aT ?_);(first|refine rG Γ hm ?_|refine rD Γ hm y_ ?_);conv=>whnf))
   refine⟨fun h=>?_,fun h=>?_⟩
   ·have h6:¬ (Ak s j).toNat≤57:=qA h
    rw[if_pos (.inr (.inr (.inr (K7 hlt (by simp only[Dy,Bool.and_eq_false_iff,decide_eq_false_iff_not];exact .inr h6)))))]at hlk
    subst hlk
    ((first|refine rG Γ hm ?_|refine rD Γ hm y_ ?_);(conv=>whnf);repeat((first|refine aF ?_|refine aT ?_);(first|refine rG Γ hm ?_|refine rD Γ hm y_ ?_);conv=>whnf))
    exact dN
   have h6:(Ak s j).toNat≤57:=qB h
   ((first|refine rG Γ hm ?_|refine rD Γ hm y_ ?_);(conv=>whnf);repeat((first|refine aF ?_|refine aT ?_);(first|refine rG Γ hm ?_|refine rD Γ hm y_ ?_);conv=>whnf))
   refine iL ?_
   ((conv=>whnf);repeat((first|refine aF ?_|refine aT ?_);(first|refine rG Γ hm ?_|refine rD Γ hm y_ ?_);conv=>whnf))
   refine⟨by omega,by simpa using hlt,?_⟩
   rw[hjn]
   ((conv=>whnf);repeat((first|refine aF ?_|refine aT ?_);(first|refine rG Γ hm ?_|refine rD Γ hm y_ ?_);conv=>whnf))
   rw[Z2 h5 hb,Abc j_ j_]
   refine iL ?_
   ((conv=>whnf);repeat((first|refine aF ?_|refine aT ?_);(first|refine rG Γ hm ?_|refine rD Γ hm y_ ?_);conv=>whnf))
   refine iL ?_
   ((conv=>whnf);repeat((first|refine aF ?_|refine aT ?_);(first|refine rG Γ hm ?_|refine rD Γ hm y_ ?_);conv=>whnf))
   refine B1 [] hI j_ (fun i hi=>?_) ⟨⟨q_,q_,q_,q_,congrArg Aa hsu,q_,q_,q_,q_,q_,z_⟩,z_,q_,q_⟩
   by_cases hij:i=j
   ·subst hij;exact digB_iff.2 ⟨h5,h6⟩
   ·exact hI i j_
  ·have:j=s.size:=qB h
   subst this
   rw[if_neg (by rw[Sv hI];simp only[h1,h2,false_or,Bool.true_eq_false,or_false];exact h34),hvj]at hlk
   subst hlk
   ((first|refine rG Γ hm ?_|refine rD Γ hm y_ ?_);(conv=>whnf);repeat((first|refine aF ?_|refine aT ?_);(first|refine rG Γ hm ?_|refine rD Γ hm y_ ?_);conv=>whnf))
   exact dN
end Go.Sy.YtgblchnfjbkipaaGreatDoor
namespace Go.Sy.YtgblchnfjbkipaaGreatDoor
open Go.Proofs
def I9 {α:Type} (l:List α) (j:Nat):List α:=List.ofFn fun i:Fin l.length=>if i.1<j∨l.length-j≤i.1 then l[l.length-1-i.1] else l[i.1]
theorem Br {α:Type} (l:List α) (j:Nat):(I9 l j).length=l.length:=by simp[I9]
theorem Ha {α:Type} (l:List α) (j i:Nat) (h:i<l.length):(I9 l j)[i]'(by rw[Br];exact h)=if i<j∨l.length-j≤i then l[l.length-1-i] else l[i]:=by simp[I9]
theorem Sc {α:Type} (l:List α):I9 l 0=l:=by
 apply List.ext_getElem (Br l 0)
 intro i h1 h2
 rw[Ha l 0 i h2,if_neg j_]
theorem Uq {α:Type} (l:List α) (j:Nat) (h:l.length≤2 * j+1):I9 l j=l.reverse:=by
 apply List.ext_getElem (by rw[Br,List.length_reverse])
 intro i h1 h2
 have hi:i<l.length:=by rw[Br]at h1;exact h1
 rw[Ha l j i hi,List.getElem_reverse]
 split
 ·rfl
 ·congr 1;omega
theorem Y6 {α:Type} (l:List α) (j:Nat) (h:2 * j+1<l.length) :
  ((I9 l j).set j ((I9 l j)[l.length-1-j]'(by rw[Br];omega))).set (l.length-1-j) ((I9 l j)[j]'(by rw[Br];omega))=I9 l (j+1):=by
 apply List.ext_getElem (by simp only[List.length_set,Br])
 intro i h1 h2
 have hi:i<l.length:=by rw[Br]at h2;exact h2
 rw[List.getElem_set,List.getElem_set,Ha l (j+1) i hi,Ha l j i hi,Ha l j _ j_,Ha l j _ j_]
 by_cases e1:l.length-1-j=i
 ·rw[if_pos e1,if_neg j_,if_pos j_]
  congr 1;omega
 ·rw[if_neg e1]
  by_cases e2:j=i
  ·rw[if_pos e2,if_neg j_,if_pos j_]
   congr 1;omega
  ·rw[if_neg e2]
   by_cases e3:i<j∨l.length-j≤i
   ·rw[if_pos e3,if_pos j_]
   ·rw[if_neg e3,if_neg j_]
theorem Sd {α:Type} {l u:List α} {j k:Nat} (hu:I9 l j=u) (h:2 * j+1<l.length) (hk:l.length-1-j=k) (h1:k<u.length) (h2:j<u.length):(u.set j u[k]).set k u[j]=I9 l (j+1):=by
 subst hu hk
 exact Y6 l j h
def revDigs (u:Nat):List UInt8:=if u<10 then [UInt8.ofNat (48+u)] else UInt8.ofNat (48+u % 10)::revDigs (u / 10)
theorem E1 (u:Nat):0<(revDigs u).length:=by
 rw[revDigs];split<;>simp
theorem H8:∀ (j u:Nat),j+1<(revDigs u).length↔0<u / 10 ^ (j+1)
 | 0,u=>by
  rw[revDigs]
  split
  ·simp;omega
  ·have:=E1 (u / 10)
   simp only[List.length_cons];omega
 | j+1,u=>by
  rw[revDigs]
  have e:u / 10 ^ (j+1+1)=u / 10 / 10 ^ (j+1):=by rw[Nat.div_div_eq_div_mul,Nat.pow_succ 10 (j+1),Nat.mul_comm (10 ^ (j+1))]
  rw[e]
  split
  ·have:u / 10=0:=by omega
   rw[this];simp
  ·rw[List.length_cons,← H8 j (u / 10)];omega
theorem H9:∀ (j u:Nat) (h:j<(revDigs u).length),(revDigs u)[j]=UInt8.ofNat (48+u / 10 ^ j % 10)
 | 0,u,h=>by
  have e:(revDigs u)[0]=UInt8.ofNat (48+u % 10):=by
   simp only[revDigs.eq_1 u]
   split
   ·show UInt8.ofNat (48+u)=UInt8.ofNat (48+u % 10)
    rw[Nat.mod_eq_of_lt (by assumption)]
   ·rfl
  rw[e];simp
 | j+1,u,h=>by
  have hu:¬ u<10:=fun hu=>by rw[revDigs,if_pos hu]at h;simp at h
  have e0:revDigs u=UInt8.ofNat (48+u % 10)::revDigs (u / 10):=by rw[revDigs.eq_1 u,if_neg hu]
  have e:u / 10 ^ (j+1)=u / 10 / 10 ^ j:=by rw[Nat.div_div_eq_div_mul,Nat.pow_succ,Nat.mul_comm]
  have hl:j<(revDigs (u / 10)).length:=by rw[e0]at h;simpa using h
  have:=H9 j (u / 10) hl
  rw[e,← this]
  simp only[e0,List.getElem_cons_succ]
theorem B9:∀ (k u:Nat),u<10 ^ k→(revDigs u).length≤k+1
 | 0,u,h=>by rw[revDigs,if_pos (by simp at h;omega)];simp
 | k+1,u,h=>by
  rw[revDigs]
  split
  ·simp
  ·have:=B9 k (u / 10) (by rw[Nat.pow_succ]at h;omega)
   simp only[List.length_cons];omega
def Aaw (n:Int):List UInt8:=(revDigs n.natAbs++(if n<0 then [45] else [])).reverse
def Ba (n:Int):ByteArray:=mkT (Aaw n)
theorem Vc (m:Nat):Aaw m=(revDigs m).reverse:=by
 rw[Aaw,Int.natAbs_natCast,if_neg j_,List.append_nil]
set_option maxRecDepth 20000 in
theorem Aau (m:Nat) (hb:m<9223372036854775808):Sy.Spec Tryz.prog 247 [Aa m] [] (Ac (Ba m)) []:=cT F247 Tryz.ntmps247 fun F hF=>by
 have hpos:=E1 m
 have hlen:=fun j=>H8 j m
 have hget:=fun j=>H9 j m
 have hsh:(revDigs m).length≤20:=B9 19 m j_
 rw[Ba,Vc]
 generalize revDigs m=D at *
 ((conv=>whnf);repeat((first|refine aF ?_|refine aT ?_);(first|refine rG Γ hm ?_|refine rD Γ hm y_ ?_);conv=>whnf))
 refine Cz 3 1000 1 An q_ q_ ?_
 refine Dc D.length (fun j=>[(0,Aa m),(3,.osl 1000),(4,Cn (m / 10 ^ j:Nat)),(5,Af (decide (j<D.length)))]) (fun j=>[(1000,.row 1 An (D.take j))]) []
  ⟨⟨rfl,rfl,rfl,rfl,congrArg (fun z=>SV.val (.int .u64 z)) (by rw[IntKind.wrap_u64];omega),rfl,congrArg Af (decide_eq_true hpos),rfl,trivial⟩,⟨.inl rfl,rfl,trivial⟩,rfl,rfl⟩ ?_
 intro j hj
 ((first|refine rG Γ hm ?_|refine rD Γ hm y_ ?_);(conv=>whnf);repeat((first|refine aF ?_|refine aT ?_);(first|refine rG Γ hm ?_|refine rD Γ hm y_ ?_);conv=>whnf))
 refine⟨fun h=>?_,fun h=>?_⟩
 ·have hlt:j<D.length:=of_decide_eq_true h
  have hgj:=hget j hlt
  have hlj:=hlen j
  have e:m / 10 ^ (j+1)=m / 10 ^ j / 10:=by rw[Nat.div_div_eq_div_mul,Nat.pow_succ]
  have hq:m / 10 ^ j≤m:=Nat.div_le_self _ _
  rw[e]at hlj
  ((first|refine rG Γ hm ?_|refine rD Γ hm y_ ?_);(conv=>whnf);repeat((first|refine aF ?_|refine aT ?_);(first|refine rG Γ hm ?_|refine rD Γ hm y_ ?_);conv=>whnf))
  refine⟨by decide,?_⟩
  ((conv=>whnf);repeat((first|refine aF ?_|refine aT ?_);(first|refine rG Γ hm ?_|refine rD Γ hm y_ ?_);conv=>whnf))
  refine Cd (Ag Γ.toTy 23 q_ q_ q_ q_ q_ (.row q_) (.lit (l:=[D[j]]) q_ ?_) qd ?_ ?_) q_ q_ ?_
  ·rw[hgj]
   simp only[List.map_cons,List.map_nil,An]
   congr 3
   generalize m / 10 ^ j=q at *
   rw[Int.tmod_eq_emod_of_nonneg (Int.natCast_nonneg _),IntKind.wrap_u64,IntKind.wrap_u8]
   simp
  ·simp;omega
  ·simp;omega
  ((first|refine rG Γ hm ?_|refine rD Γ hm y_ ?_);(conv=>whnf);repeat((first|refine aF ?_|refine aT ?_);(first|refine rG Γ hm ?_|refine rD Γ hm y_ ?_);conv=>whnf))
  refine⟨by decide,?_⟩
  ((conv=>whnf);repeat((first|refine aF ?_|refine aT ?_);(first|refine rG Γ hm ?_|refine rD Γ hm y_ ?_);conv=>whnf))
  refine Df [(1000,23)] hlt ⟨⟨q_,q_,q_,q_,congrArg (fun z=>SV.val (.int .u64 z)) ?_,q_,congrArg Af ?_,q_,z_⟩,⟨.inl (congrArg (Ob.row 1 An) (List.take_succ_eq_append_getElem hlt)),q_,z_⟩,q_,q_⟩
  ·rw[e,Int.tdiv_eq_ediv_of_nonneg (Int.natCast_nonneg _),IntKind.wrap_u64]
   generalize m / 10 ^ j=q at *
   omega
  ·rw[Int.tdiv_eq_ediv_of_nonneg (Int.natCast_nonneg _),IntKind.wrap_u64]
   generalize m / 10 ^ j=q at *
   refine decide_eq_decide.2 ?_
   omega
 ·have:j=D.length:=qB h
  subst this
  rw[List.take_length]
  ((first|refine rG Γ hm ?_|refine rD Γ hm y_ ?_);(conv=>whnf);repeat((first|refine aF ?_|refine aT ?_);(first|refine rG Γ hm ?_|refine rD Γ hm y_ ?_);conv=>whnf))
  refine iL ?_
  ((conv=>whnf);repeat((first|refine aF ?_|refine aT ?_);(first|refine rG Γ hm ?_|refine rD Γ hm y_ ?_);conv=>whnf))
  refine Dc (D.length / 2) (fun j=>[(3,.osl 1000),(6,Aa j),(7,Aa (D.length-1-j:Nat))]) (fun j=>[(1000,.row 1 An (I9 D j))]) []
   ⟨⟨rfl,rfl,rfl,rfl,congrArg (fun z=>SV.val (.int .i64 z)) j_,rfl,trivial⟩,⟨.inl (congrArg (Ob.row 1 An) (Sc D)),rfl,trivial⟩,rfl,rfl⟩ ?_
  intro i hi
  have hul:=Br D i
  ((first|refine rG Γ hm ?_|refine rD Γ hm y_ ?_);(conv=>whnf);repeat((first|refine aF ?_|refine aT ?_);(first|refine rG Γ hm ?_|refine rD Γ hm y_ ?_);conv=>whnf))
  refine⟨fun h2=>?_,fun h2=>?_⟩
  ·have hlt:2 * i+1<D.length:=by have:=of_decide_eq_true h2;omega
   obtain ⟨u,hu⟩:∃ u,I9 D i=u:=⟨_,rfl⟩
   obtain ⟨k,hk⟩:∃ k,D.length-1-i=k:=⟨_,rfl⟩
   rw[hu]at hul
   have hs:=Sd hu hlt hk j_ j_
   rw[hu,hk]
   ((first|refine rG Γ hm ?_|refine rD Γ hm y_ ?_);(conv=>whnf);repeat((first|refine aF ?_|refine aT ?_);(first|refine rG Γ hm ?_|refine rD Γ hm y_ ?_);conv=>whnf))
   refine⟨by omega,by omega,?_⟩
   ((conv=>whnf);repeat((first|refine aF ?_|refine aT ?_);(first|refine rG Γ hm ?_|refine rD Γ hm y_ ?_);conv=>whnf))
   refine⟨q_,by omega,?_⟩
   ((conv=>whnf);repeat((first|refine aF ?_|refine aT ?_);(first|refine rG Γ hm ?_|refine rD Γ hm y_ ?_);conv=>whnf))
   refine⟨by omega,by omega,?_⟩
   ((conv=>whnf);repeat((first|refine aF ?_|refine aT ?_);(first|refine rG Γ hm ?_|refine rD Γ hm y_ ?_);conv=>whnf))
   refine⟨q_,by omega,?_⟩
   ((conv=>whnf);repeat((first|refine aF ?_|refine aT ?_);(first|refine rG Γ hm ?_|refine rD Γ hm y_ ?_);conv=>whnf))
   refine⟨by omega,by omega,?_⟩
   ((conv=>whnf);repeat((first|refine aF ?_|refine aT ?_);(first|refine rG Γ hm ?_|refine rD Γ hm y_ ?_);conv=>whnf))
   refine⟨q_,by omega,u[k],q_,q_,?_⟩
   ((conv=>whnf);repeat((first|refine aF ?_|refine aT ?_);(first|refine rG Γ hm ?_|refine rD Γ hm y_ ?_);conv=>whnf))
   refine⟨by omega,by simp;omega,?_⟩
   ((conv=>whnf);repeat((first|refine aF ?_|refine aT ?_);(first|refine rG Γ hm ?_|refine rD Γ hm y_ ?_);conv=>whnf))
   refine⟨q_,by simp;omega,u[i],q_,q_,?_⟩
   ((conv=>whnf);repeat((first|refine aF ?_|refine aT ?_);(first|refine rG Γ hm ?_|refine rD Γ hm y_ ?_);conv=>whnf))
   refine⟨y_,?_⟩
   ((conv=>whnf);repeat((first|refine aF ?_|refine aT ?_);(first|refine rG Γ hm ?_|refine rD Γ hm y_ ?_);conv=>whnf))
   refine iL ?_
   ((conv=>whnf);repeat((first|refine aF ?_|refine aT ?_);(first|refine rG Γ hm ?_|refine rD Γ hm y_ ?_);conv=>whnf))
   refine iL ?_
   ((conv=>whnf);repeat((first|refine aF ?_|refine aT ?_);(first|refine rG Γ hm ?_|refine rD Γ hm y_ ?_);conv=>whnf))
   refine Df [] j_ ⟨⟨q_,q_,q_,q_,congrArg (fun z=>SV.val (.int .i64 z)) j_,q_,z_⟩,⟨.inl (congrArg (Ob.row 1 An) hs.symm),q_,z_⟩,q_,q_⟩
  ·have h3:D.length≤2 * i+1:=by have:=of_decide_eq_false h2;omega
   rw[Uq D i h3]
   ((first|refine rG Γ hm ?_|refine rD Γ hm y_ ?_);(conv=>whnf);repeat((first|refine aF ?_|refine aT ?_);(first|refine rG Γ hm ?_|refine rD Γ hm y_ ?_);conv=>whnf))
   refine Cd (Ci Γ.toTy (bs:=D.reverse) q_ q_ q_ q_ q_ q_ q_ (.row q_)) q_ q_ ?_
   ((first|refine rG Γ hm ?_|refine rD Γ hm y_ ?_);(conv=>whnf);repeat((first|refine aF ?_|refine aT ?_);(first|refine rG Γ hm ?_|refine rD Γ hm y_ ?_);conv=>whnf))
   exact dN
end Go.Sy.YtgblchnfjbkipaaGreatDoor
namespace Go.Sy
def Wa (C:Cx) {β:Type} (I:β→Prop) (L:β→List (Nat × SV)) (O:β→Obs) (μ:β→Nat) (x:β) (a:Act) (w:World):Prop :=
 ∃ x':{y:β // I y},∃ κ,μ x'.1<μ x∧St C.F C.n (mkS (L x'.1) (O x'.1)) κ a w
theorem Az {C:Cx} {k:List KI} {s:SS} {body:Code} {β:Type} (I:β→Prop) (L:β→List (Nat × SV)) (O:β→Obs) (μ:β→Nat) (x₀:β) (ρ:List (Nat × Nat)) (h0:I x₀) (hsub:Sub C s ρ (L x₀) (O x₀))
  (h:∀ x,I x→G C (.code body::.inv (Wa C I L O μ x)::k) (mkS (L x) (O x))):G C (.code (.loop body)::k) s :=
 X8 (α:={y:β // I y}) (fun x=>L x.1) (fun x=>O x.1) (fun x=>μ x.1) ⟨x₀,h0⟩ ρ hsub (fun x=>h x.1 x.2)
theorem Al {C:Cx} {k:List KI} {s:SS} {β:Type} {I:β→Prop} {L:β→List (Nat × SV)} {O:β→Obs} {μ:β→Nat} {x:β} (x':β) (ρ:List (Nat × Nat)) (h':I x') (hμ:μ x'<μ x) (hsub:Sub C s ρ (L x') (O x')) :
  G C (.inv (Wa C I L O μ x)::k) s:=fun _ _ _ hs=>⟨⟨x',h'⟩,_,hμ,hsub.st hs⟩
theorem Abt {C:Cx} {kk:List KI} {s:SS} (k d:Nat) {sz:Nat} {α:Type} {e:α→SV} {l:List α} (h:s.h k=.row sz e l) (hd:s.h d=.fresh) (hkd:k≠d)
  (hg:G C kk ⟨fun i=>frz k (.osl d) (s.σ i),upd (fun j=>bif Nat.beq j k then .non else Zn k (.osl d) (s.h j)) d (.row sz e l)⟩):G C kk s:=fun κ a w hs=>by
 have hob:=hs.obj k
 rw[h]at hob
 have hnew:κ d=.new:=by have:=hs.obj d;rwa [hd]at this
 have fin:∀ κ':Ka,(∀ j,j≠k→j≠d→κ' j=κ j)→Step (fun j=>j=k∨j=d) κ w κ' w→Inv κ' w→(∀ v,Rd κ w (.osl k) v→Rd κ' w (.osl d) v)→ObOK κ' w d (.row sz e l)→den C.P C.B kk .normal a w:=by
  intro κ' hne st inv hv ho
  refine hg κ' a w ⟨hs.defers,hs.size,inv,hs.ctx.step inv st,fun j=>T0 st hv _ _ (hs.slot j),fun j=>?_⟩
  show ObOK κ' w j (upd (fun j=>bif Nat.beq j k then .non else Zn k (.osl d) (s.h j)) d (.row sz e l) j)
  by_cases hj:j=d
  ·subst hj;rw[Bc];exact ho
  ·rw[B2 _ _ hj]
   by_cases hj2:j=k
   ·subst hj2;rw[show Nat.beq j j=true from Nat.beq_refl j];trivial
   ·rw[show Nat.beq j k=false from by cases hb:Nat.beq j k with | false=>rfl | true=>exact absurd (Nat.eq_of_beq_eq_true hb) hj2]
    have hb:=ObOK.step st (fun e=>e.elim hj2 hj) _ (hs.obj j)
    have h0:=hs.obj j
    show ObOK κ' w j (Zn k (.osl d) (s.h j))
    cases hh:s.h j with
    | box m =>
     rw[hh]at h0 hb
     obtain ⟨b,cs,T,fr,e1,e2,e3,e4,e5⟩:=h0
     exact⟨b,cs,T,fr,(hne j hj2 hj).trans e1,e2,e3,e4,Hs st hv m cs e5⟩
    | fresh=>rw[hh]at hb;exact hb
    | non=>rw[hh]at hb;exact hb
    | row sz' e' l'=>rw[hh]at hb;exact hb
    | lit sz' svs=>rw[hh]at hb;exact hb
    | glob sz' x' g'=>rw[hh]at hb;exact hb
    | pin b' n' cap' sz' e' l'=>rw[hh]at hb;exact hb
    | dat v' sz' e' l'=>rw[hh]at hb;exact hb
 rcases hob with ⟨h1,rfl⟩ | ⟨b,cap,cs,T,fr,e1,e2,e3,e4,e5,e6⟩
 ·have st:=C7 (D8 hs.inv (some k)) (by show Cs κ k .dead d=.new;rw[A9 _ _ (Ne.symm hkd)];exact hnew) (e:=.nil) (Grew.refl w) (fun b hb=>by cases hb)
  refine fin _ (fun j h1 h2=>by rw[A9 _ _ h2];exact A9 _ _ h1) (((Dg (some k)).weaken (fun j hj=>.inl (Option.some.inj hj).symm)).trans (st.1.weaken (fun j hj=>.inr hj))) st.2 (fun v hv=>?_) (.inl ⟨Ah _ _ _,q_⟩)
  simp only[Rd,h1]at hv
  simp[Rd,Ah,hv]
 ·obtain ⟨st,inv⟩:=Le (n':=l.length) (w':=w) hs.inv e1 hnew rfl rfl rfl rfl (fun _ _=>rfl)
  refine fin _ (fun j h1 h2=>by rw[A9 _ _ h2];exact A9 _ _ h1) st inv (fun v hv=>?_) (.inr ⟨b,cap,cs,T,fr,Ah _ _ _,e2,e3,e4,e5,fun i x hx=>?_⟩)
  ·simp only[Rd,e1]at hv
   simp[Rd,Ah,hv]
  ·obtain ⟨q1,u,q2,q3⟩:=e6 i x hx
   exact⟨q1,u,RdD.keep st.keeps _ _ q2,q3⟩
theorem Ef {C:Cx} {k:List KI} {s:SS} (d:Nat) {sz:Nat} {α:Type} (e:α→SV) (l:List α) {svs:List SV} (h:s.h d=.lit sz svs) (hl:l.map e=svs) (hg:G C k ⟨s.σ,upd s.h d (.row sz e l)⟩):G C k s:=fun κ a w hs=>by
 refine hg κ a w ⟨hs.defers,hs.size,hs.inv,hs.ctx,hs.slot,fun j=>?_⟩
 show ObOK κ w j (upd s.h d (.row sz e l) j)
 by_cases hj:j=d
 ·subst hj
  rw[Bc]
  have hob:=hs.obj j
  rw[h]at hob
  have hlen:l.length=svs.length:=by rw[← hl,List.length_map]
  obtain ⟨b,cap,cs,T,fr,e1,e2,e3,e4,e5,e6⟩:=hob
  exact .inr ⟨b,cap,cs,T,fr,by rw[hlen];exact e1,e2,e3,e4,by omega,fun i x hx=>by rw[hlen];exact e6 i x (Km hl i x hx)⟩
 ·rw[B2 _ _ hj];exact hs.obj j
end Go.Sy
namespace Go.Sy.YtgblchnfjbkipaaGreatDoor
open Go.Proofs
theorem tdiv10 (n:Nat) (h:n<1000000000000000000):IntKind.i64.wrap ((n:Int).tdiv 10)=((n / 10:Nat):Int):=by
 rw[Int.tdiv_eq_ediv_of_nonneg j_,IntKind.wrap_i64];omega
theorem Z4 (n:Nat):(n:Int).tmod 10=((n % 10:Nat):Int):=by
 rw[Int.tmod_eq_emod_of_nonneg j_];omega
theorem dig8 (n:Nat):IntKind.u8.wrap (48+((n % 10:Nat):Int))=((UInt8.ofNat (48+n % 10)).toNat:Int):=by
 rw[IntKind.wrap_u8]
 simp
theorem Ur (n:Nat):(revDigs n).reverse=(if n<10 then [] else (revDigs (n / 10)).reverse)++[UInt8.ofNat (48+n % 10)]:=by
 rw[revDigs.eq_1 n]
 split
 ·rw[Nat.mod_eq_of_lt (by assumption)];rfl
 ·rw[List.reverse_cons]
theorem J3 (l:List ByteArray) (sep:ByteArray):(D7 l sep).size≤E9 l+sep.size * l.length:=by
 have:=Ye (l.map (·.data.toList)) sep.data.toList
 have e:(l.map (·.data.toList)).map (·.length)=l.map (·.size):=by
  rw[List.map_map]
  apply List.map_congr_left
  intro a _
  rfl
 rw[e,List.length_map]at this
 have e2:(D7 l sep).size=(Lib.join (l.map (·.data.toList)) sep.data.toList).length:=by simp[D7,ByteArray.size]
 rw[e2]
 exact this
end Go.Sy.YtgblchnfjbkipaaGreatDoor
namespace Go.Sy.YtgblchnfjbkipaaGreatDoor
open Go.Proofs
attribute [local irreducible] Go.Sy.G Go.Sy.DR
set_option maxRecDepth 20000
set_option maxHeartbeats 4000000
theorem Xk (a b:List UInt8):mkT a++mkT b=mkT (a++b):=by
 apply K5
 simp[mkT]
theorem U7 (m:Nat):Ba m=mkT (revDigs m).reverse:=by rw[Ba,Vc]
end Go.Sy.YtgblchnfjbkipaaGreatDoor
namespace Go.Sy.YtgblchnfjbkipaaGreatDoor
open Go.Proofs
theorem Vb (m:Nat) (h:0<m):Aaw (-(m:Int))=(revDigs m++[45]).reverse:=by
 rw[Aaw,if_pos j_]
 have:(-(m:Int)).natAbs=m:=by omega
 rw[this]
set_option maxRecDepth 20000 in
theorem U6 (m:Nat) (h0:0<m) (hb:m≤9223372036854775808):Sy.Spec Tryz.prog 247 [Aa (-(m:Int))] [] (Ac (Ba (-(m:Int)))) []:=cT F247 Tryz.ntmps247 fun F hF=>by
 have hpos:=E1 m
 have hlen:=fun j=>H8 j m
 have hget:=fun j=>H9 j m
 have hsh:(revDigs m).length≤20:=B9 19 m j_
 have w1:IntKind.u64.wrap (0-IntKind.u64.wrap (-(m:Int)))=m:=by rw[IntKind.wrap_u64,IntKind.wrap_u64];omega
 rw[Ba,Vb m h0]
 generalize revDigs m=D at *
 ((conv=>whnf);repeat((first|refine aF ?_|refine aT ?_);(first|refine rG Γ hm ?_|refine rD Γ hm y_ ?_);conv=>whnf))
 refine⟨fun _=>?_,fun h=>absurd (of_decide_eq_false h) j_⟩
 refine Cz 3 1000 1 An q_ q_ ?_
 ((first|refine rG Γ hm ?_|refine rD Γ hm y_ ?_);(conv=>whnf);repeat((first|refine aF ?_|refine aT ?_);(first|refine rG Γ hm ?_|refine rD Γ hm y_ ?_);conv=>whnf))
 refine Dc D.length (fun j=>[(0,Aa (-(m:Int))),(3,.osl 1000),(4,Cn (m / 10 ^ j:Nat)),(5,Af (decide (j<D.length)))]) (fun j=>[(1000,.row 1 An (D.take j))]) []
  ⟨⟨rfl,rfl,rfl,rfl,congrArg (fun z=>SV.val (.int .u64 z)) (by simpa using w1.symm),rfl,congrArg Af (decide_eq_true hpos),rfl,trivial⟩,⟨.inl rfl,rfl,trivial⟩,rfl,rfl⟩ ?_
 intro j hj
 ((first|refine rG Γ hm ?_|refine rD Γ hm y_ ?_);(conv=>whnf);repeat((first|refine aF ?_|refine aT ?_);(first|refine rG Γ hm ?_|refine rD Γ hm y_ ?_);conv=>whnf))
 refine⟨fun h=>?_,fun h=>?_⟩
 ·have hlt:j<D.length:=of_decide_eq_true h
  have hgj:=hget j hlt
  have hlj:=hlen j
  have e:m / 10 ^ (j+1)=m / 10 ^ j / 10:=by rw[Nat.div_div_eq_div_mul,Nat.pow_succ]
  have hq:m / 10 ^ j≤m:=Nat.div_le_self _ _
  rw[e]at hlj
  ((first|refine rG Γ hm ?_|refine rD Γ hm y_ ?_);(conv=>whnf);repeat((first|refine aF ?_|refine aT ?_);(first|refine rG Γ hm ?_|refine rD Γ hm y_ ?_);conv=>whnf))
  refine⟨by decide,?_⟩
  ((conv=>whnf);repeat((first|refine aF ?_|refine aT ?_);(first|refine rG Γ hm ?_|refine rD Γ hm y_ ?_);conv=>whnf))
  refine Cd (Ag Γ.toTy 23 q_ q_ q_ q_ q_ (.row q_) (.lit (l:=[D[j]]) q_ ?_) qd ?_ ?_) q_ q_ ?_
  ·rw[hgj]
   simp only[List.map_cons,List.map_nil,An]
   congr 3
   generalize m / 10 ^ j=q at *
   rw[Int.tmod_eq_emod_of_nonneg (Int.natCast_nonneg _),IntKind.wrap_u64,IntKind.wrap_u8]
   simp
  ·simp;omega
  ·simp;omega
  ((first|refine rG Γ hm ?_|refine rD Γ hm y_ ?_);(conv=>whnf);repeat((first|refine aF ?_|refine aT ?_);(first|refine rG Γ hm ?_|refine rD Γ hm y_ ?_);conv=>whnf))
  refine⟨by decide,?_⟩
  ((conv=>whnf);repeat((first|refine aF ?_|refine aT ?_);(first|refine rG Γ hm ?_|refine rD Γ hm y_ ?_);conv=>whnf))
  refine Df [(1000,23)] hlt ⟨⟨q_,q_,q_,q_,congrArg (fun z=>SV.val (.int .u64 z)) ?_,q_,congrArg Af ?_,q_,z_⟩,⟨.inl (congrArg (Ob.row 1 An) (List.take_succ_eq_append_getElem hlt)),q_,z_⟩,q_,q_⟩
  ·rw[e,Int.tdiv_eq_ediv_of_nonneg (Int.natCast_nonneg _),IntKind.wrap_u64]
   generalize m / 10 ^ j=q at *
   omega
  ·rw[Int.tdiv_eq_ediv_of_nonneg (Int.natCast_nonneg _),IntKind.wrap_u64]
   generalize m / 10 ^ j=q at *
   refine decide_eq_decide.2 ?_
   omega
 ·have:j=D.length:=qB h
  subst this
  rw[List.take_length]
  ((first|refine rG Γ hm ?_|refine rD Γ hm y_ ?_);(conv=>whnf);repeat((first|refine aF ?_|refine aT ?_);(first|refine rG Γ hm ?_|refine rD Γ hm y_ ?_);conv=>whnf))
  refine⟨fun _=>?_,fun h=>absurd (of_decide_eq_false h) j_⟩
  ((first|refine rG Γ hm ?_|refine rD Γ hm y_ ?_);(conv=>whnf);repeat((first|refine aF ?_|refine aT ?_);(first|refine rG Γ hm ?_|refine rD Γ hm y_ ?_);conv=>whnf))
  refine Cd (Ag Γ.toTy 30 q_ q_ q_ q_ q_ (.row q_) (.lit (e:=An) (l:=[45]) q_ q_) qd (by simp;omega) (by simp;omega)) q_ q_ ?_
  have hDl:(D++[45]).length=D.length+1:=by simp
  generalize D++[45]=D at *
  ((first|refine rG Γ hm ?_|refine rD Γ hm y_ ?_);(conv=>whnf);repeat((first|refine aF ?_|refine aT ?_);(first|refine rG Γ hm ?_|refine rD Γ hm y_ ?_);conv=>whnf))
  refine iL ?_
  ((conv=>whnf);repeat((first|refine aF ?_|refine aT ?_);(first|refine rG Γ hm ?_|refine rD Γ hm y_ ?_);conv=>whnf))
  refine Dc (D.length / 2) (fun j=>[(3,.osl 1000),(6,Aa j),(7,Aa (D.length-1-j:Nat))]) (fun j=>[(1000,.row 1 An (I9 D j))]) [(1000,30)]
   ⟨⟨rfl,rfl,rfl,rfl,congrArg (fun z=>SV.val (.int .i64 z)) j_,rfl,trivial⟩,⟨.inl (congrArg (Ob.row 1 An) (Sc D)),rfl,trivial⟩,rfl,rfl⟩ ?_
  intro i hi
  have hul:=Br D i
  ((first|refine rG Γ hm ?_|refine rD Γ hm y_ ?_);(conv=>whnf);repeat((first|refine aF ?_|refine aT ?_);(first|refine rG Γ hm ?_|refine rD Γ hm y_ ?_);conv=>whnf))
  refine⟨fun h2=>?_,fun h2=>?_⟩
  ·have hlt:2 * i+1<D.length:=by have:=of_decide_eq_true h2;omega
   obtain ⟨u,hu⟩:∃ u,I9 D i=u:=⟨_,rfl⟩
   obtain ⟨k,hk⟩:∃ k,D.length-1-i=k:=⟨_,rfl⟩
   rw[hu]at hul
   have hs:=Sd hu hlt hk j_ j_
   rw[hu,hk]
   ((first|refine rG Γ hm ?_|refine rD Γ hm y_ ?_);(conv=>whnf);repeat((first|refine aF ?_|refine aT ?_);(first|refine rG Γ hm ?_|refine rD Γ hm y_ ?_);conv=>whnf))
   refine⟨by omega,by omega,?_⟩
   ((conv=>whnf);repeat((first|refine aF ?_|refine aT ?_);(first|refine rG Γ hm ?_|refine rD Γ hm y_ ?_);conv=>whnf))
   refine⟨q_,by omega,?_⟩
   ((conv=>whnf);repeat((first|refine aF ?_|refine aT ?_);(first|refine rG Γ hm ?_|refine rD Γ hm y_ ?_);conv=>whnf))
   refine⟨by omega,by omega,?_⟩
   ((conv=>whnf);repeat((first|refine aF ?_|refine aT ?_);(first|refine rG Γ hm ?_|refine rD Γ hm y_ ?_);conv=>whnf))
   refine⟨q_,by omega,?_⟩
   ((conv=>whnf);repeat((first|refine aF ?_|refine aT ?_);(first|refine rG Γ hm ?_|refine rD Γ hm y_ ?_);conv=>whnf))
   refine⟨by omega,by omega,?_⟩
   ((conv=>whnf);repeat((first|refine aF ?_|refine aT ?_);(first|refine rG Γ hm ?_|refine rD Γ hm y_ ?_);conv=>whnf))
   refine⟨q_,by omega,u[k],q_,q_,?_⟩
   ((conv=>whnf);repeat((first|refine aF ?_|refine aT ?_);(first|refine rG Γ hm ?_|refine rD Γ hm y_ ?_);conv=>whnf))
   refine⟨by omega,by simp;omega,?_⟩
   ((conv=>whnf);repeat((first|refine aF ?_|refine aT ?_);(first|refine rG Γ hm ?_|refine rD Γ hm y_ ?_);conv=>whnf))
   refine⟨q_,by simp;omega,u[i],q_,q_,?_⟩
   ((conv=>whnf);repeat((first|refine aF ?_|refine aT ?_);(first|refine rG Γ hm ?_|refine rD Γ hm y_ ?_);conv=>whnf))
   refine⟨y_,?_⟩
   ((conv=>whnf);repeat((first|refine aF ?_|refine aT ?_);(first|refine rG Γ hm ?_|refine rD Γ hm y_ ?_);conv=>whnf))
   refine iL ?_
   ((conv=>whnf);repeat((first|refine aF ?_|refine aT ?_);(first|refine rG Γ hm ?_|refine rD Γ hm y_ ?_);conv=>whnf))
   refine iL ?_
   ((conv=>whnf);repeat((first|refine aF ?_|refine aT ?_);(first|refine rG Γ hm ?_|refine rD Γ hm y_ ?_);conv=>whnf))
   refine Df [] j_ ⟨⟨q_,q_,q_,q_,congrArg (fun z=>SV.val (.int .i64 z)) j_,q_,z_⟩,⟨.inl (congrArg (Ob.row 1 An) hs.symm),q_,z_⟩,q_,q_⟩
  ·have h3:D.length≤2 * i+1:=by have:=of_decide_eq_false h2;omega
   rw[Uq D i h3]
   ((first|refine rG Γ hm ?_|refine rD Γ hm y_ ?_);(conv=>whnf);repeat((first|refine aF ?_|refine aT ?_);(first|refine rG Γ hm ?_|refine rD Γ hm y_ ?_);conv=>whnf))
   refine Cd (Ci Γ.toTy (bs:=D.reverse) q_ q_ q_ q_ q_ q_ q_ (.row q_)) q_ q_ ?_
   ((first|refine rG Γ hm ?_|refine rD Γ hm y_ ?_);(conv=>whnf);repeat((first|refine aF ?_|refine aT ?_);(first|refine rG Γ hm ?_|refine rD Γ hm y_ ?_);conv=>whnf))
   exact dN
end Go.Sy.YtgblchnfjbkipaaGreatDoor
namespace Go.Sy.YtgblchnfjbkipaaGreatDoor
open Go.Proofs
attribute [local irreducible] Go.Sy.G Go.Sy.DR
set_option maxRecDepth 20000
set_option maxHeartbeats 4000000
def Cm (n:Int):Prop:=-9223372036854775808≤n∧n<9223372036854775808
theorem Aav (m:Nat) (h:0<m):Ba (-(m:Int))=⟨#[45]⟩++Ba (m:Int):=by
 rw[Ba,Vb m h,U7,List.reverse_append]
 exact(Xk [45] _).symm
theorem D5 {n:Int} (h:Cm n):(Ba n).size≤22:=by
 have hs:∀ m:Nat,m<10 ^ 20→(Ba (m:Int)).size≤21:=fun m hm2=>by
  rw[U7,Bw,List.length_reverse];exact B9 20 m hm2
 unfold Cm at h
 by_cases h0:0≤n
 ·obtain ⟨m,rfl⟩:=Int.eq_ofNat_of_zero_le h0
  have:=hs m j_
  omega
 ·obtain ⟨m,hmn⟩:∃ m:Nat,n=-(m:Int):=⟨n.natAbs,by omega⟩
  subst hmn
  have:=hs m j_
  rw[Aav m j_,ByteArray.size_append]
  show 1+_≤22
  omega
theorem Ax (n:Int) (h:Cm n):Sy.Spec Tryz.prog 247 [Aa n] [] (Ac (Ba n)) []:=by
 unfold Cm at h
 by_cases h0:0≤n
 ·obtain ⟨m,rfl⟩:=Int.eq_ofNat_of_zero_le h0
  exact Aau m j_
 ·obtain ⟨m,hmn⟩:∃ m:Nat,n=-(m:Int):=⟨n.natAbs,by omega⟩
  subst hmn
  exact U6 m j_ j_
end Go.Sy.YtgblchnfjbkipaaGreatDoor
namespace Go.Sy.YtgblchnfjbkipaaGreatDoor
open Go.Proofs
attribute [local irreducible] Go.Sy.G Go.Sy.DR
set_option maxRecDepth 100000
set_option maxHeartbeats 4000000
theorem F233:Fun Tryz.prog 233 Tryz.f233 (Qn Tryz.f233):=⟨Tryz.func233,rfl,by kernel_rfl⟩
theorem F288:Fun Tryz.prog 288 Tryz.f288 (Qn Tryz.f288):=⟨Tryz.func288,rfl,by kernel_rfl⟩
theorem Oh (s p:ByteArray):Sy.Spec Tryz.prog 289 [Ac s,Ac p] [] (Ac (mkT (Lib.trimPrefix s.data.toList p.data.toList))) [] :=
 Spec.of_calls fun κ w vs hi hr _=>by
  simp only[RdL]at hr
  obtain ⟨v,r,rfl,h3,u,r',rfl,h4,rfl⟩:=hr
  have h3':v=.string s:=by simpa only [Ac,Rd] using h3
  have h4':u=.string p:=by simpa only [Ac,Rd] using h4
  subst h3' h4'
  exact(Tryz.strings_TrimPrefix s p w).mono fun e w' ⟨he,hw⟩=>⟨he,hw ▸ RowKit.Below.refl _ _⟩
theorem Xn (s:ByteArray) (c:UInt8) (m:Int) (hm:Lib.indexByte s.data.toList c=m):Sy.Spec Tryz.prog 288 [Ac s,Ac ⟨#[c]⟩] [] (Aa m) [] :=
 Spec.of_calls fun κ w vs hi hr _=>by
  subst hm
  simp only[RdL]at hr
  obtain ⟨v,r,rfl,h3,u,r',rfl,h4,rfl⟩:=hr
  have h3':v=.string s:=by simpa only [Ac,Rd] using h3
  have h4':u=.string ⟨#[c]⟩:=by simpa only [Ac,Rd] using h4
  subst h3' h4'
  exact(Tryz.stringslite_Index_one s c w).mono fun e w' ⟨he,hw⟩=>⟨he,hw ▸ RowKit.Below.refl _ _⟩
def cutT (c:UInt8) (s:ByteArray):ByteArray × ByteArray × Bool :=
 if 0≤Lib.indexByte s.data.toList c then (s.extract 0 (D9 c s.data.toList),s.extract (D9 c s.data.toList+1) s.size,true) else (s,⟨#[]⟩,false)
theorem Hq (l:List UInt8) (c:UInt8):Lib.indexByte l c<l.length:=by
 induction l with
 | nil=>simp[Lib.indexByte]
 | cons b l ih =>
  unfold Lib.indexByte
  rw[List.length_cons]
  split
  ·omega
  split
  ·omega
  ·omega
theorem Aa1 (s:ByteArray) (c:UInt8) (hs:s.size≤1000000000):Sy.Spec Tryz.prog 233 [Ac s,Ac ⟨#[c]⟩] [] (.tup [Ac (cutT c s).1,Ac (cutT c s).2.1,Af (cutT c s).2.2]) []:=cT F233 Tryz.ntmps233 fun F hF=>by
 have hres:=cutT.eq_1 c s
 generalize cutT c s=res at *
 have hlt:=Hq s.data.toList c
 have hsz:s.data.toList.length=s.size:=rfl
 have hid:D9 c s.data.toList=(Lib.indexByte s.data.toList c).toNat:=rfl
 obtain ⟨m,hmm⟩:∃ m,Lib.indexByte s.data.toList c=m:=⟨_,rfl⟩
 have q:=Xn s c m hmm
 rw[hmm]at hres hlt hid
 ((conv=>whnf);repeat((first|refine aF ?_|refine aT ?_);(first|refine rG Γ hm ?_|refine rD Γ hm y_ ?_);conv=>whnf))
 refine c0 q F288 ?_
 ((first|refine rG Γ hm ?_|refine rD Γ hm y_ ?_);(conv=>whnf);repeat((first|refine aF ?_|refine aT ?_);(first|refine rG Γ hm ?_|refine rD Γ hm y_ ?_);conv=>whnf))
 refine⟨fun h=>?_,fun h=>?_⟩
 ·have h0:0≤m:=of_decide_eq_true h
  rw[if_pos h0,hid]at hres
  have e1:(m+1).toNat=m.toNat+1:=by omega
  have hc1:(⟨#[c]⟩:ByteArray).size=1:=rfl
  subst hres
  ((first|refine rG Γ hm ?_|refine rD Γ hm y_ ?_);(conv=>whnf);repeat((first|refine aF ?_|refine aT ?_);(first|refine rG Γ hm ?_|refine rD Γ hm y_ ?_);conv=>whnf))
  refine⟨⟨by omega,by omega,by omega⟩,?_⟩
  ((conv=>whnf);repeat((first|refine aF ?_|refine aT ?_);(first|refine rG Γ hm ?_|refine rD Γ hm y_ ?_);conv=>whnf))
  refine⟨by show I64 (m+1);unfold I64;omega,?_⟩
  ((conv=>whnf);repeat((first|refine aF ?_|refine aT ?_);(first|refine rG Γ hm ?_|refine rD Γ hm y_ ?_);conv=>whnf))
  refine⟨⟨by omega,by omega,by omega⟩,?_⟩
  ((conv=>whnf);repeat((first|refine aF ?_|refine aT ?_);(first|refine rG Γ hm ?_|refine rD Γ hm y_ ?_);conv=>whnf))
  refine⟨y_,?_⟩
  ((conv=>whnf);repeat((first|refine aF ?_|refine aT ?_);(first|refine rG Γ hm ?_|refine rD Γ hm y_ ?_);conv=>whnf))
  refine Bn q_ (.cons .tmp (.cons .tmp (.cons .tmp .nil))) ?_ q_
  show SV.tup [Ac _,Ac (s.extract (m.toNat+1) s.size),_]=SV.tup [Ac _,Ac (s.extract (m+1).toNat _),_]
  rw[e1]
  rfl
 ·have h0:¬ 0≤m:=of_decide_eq_false h
  rw[if_neg h0]at hres
  subst hres
  ((first|refine rG Γ hm ?_|refine rD Γ hm y_ ?_);(conv=>whnf);repeat((first|refine aF ?_|refine aT ?_);(first|refine rG Γ hm ?_|refine rD Γ hm y_ ?_);conv=>whnf))
  exact dN
theorem M6 (s:ByteArray) (c:UInt8) (hs:s.size≤1000000000):Sy.Spec Tryz.prog 176 [Ac s,Ac ⟨#[c]⟩] [] (.tup [Ac (cutT c s).1,Ac (cutT c s).2.1,Af (cutT c s).2.2]) []:=cT F176 Tryz.ntmps176 fun F hF=>by
 have q:=Aa1 s c hs
 generalize cutT c s=res at *
 ((conv=>whnf);repeat((first|refine aF ?_|refine aT ?_);(first|refine rG Γ hm ?_|refine rD Γ hm y_ ?_);conv=>whnf))
 refine c0 q F233 ?_
 ((first|refine rG Γ hm ?_|refine rD Γ hm y_ ?_);(conv=>whnf);repeat((first|refine aF ?_|refine aT ?_);(first|refine rG Γ hm ?_|refine rD Γ hm y_ ?_);conv=>whnf))
 exact dN
def Jc (l:List UInt8):Int:=l.foldl (fun n c=>10 * n+((c.toNat:Int)-48)) 0
def Ve (s:ByteArray):Bool:=s.data.toList.head? == some 45
def Eg (s:ByteArray):List UInt8:=if Ve s=true then s.data.toList.drop 1 else s.data.toList
def numV (s:ByteArray):Int:=if Ve s=true then 0-Jc (Eg s) else Jc (Eg s)
def numR (s:ByteArray) (lo hi:Int):Int × Bool :=
 if (Eg s).length<1∨10<(Eg s).length then (0,false) else if (Eg s).all Dy=false then (0,false)
 else if numV s<lo∨hi<numV s then (0,false) else if (Ba (numV s) == s)=true then (numV s,true) else (0,false)
theorem Sw (l:List UInt8) (c:UInt8):Jc (l++[c])=10 * Jc l+((c.toNat:Int)-48):=by
 rw[Jc,List.foldl_append];rfl
theorem Yl:∀ (k:Nat) (l:List UInt8),l.length=k→(∀ c∈l,Dy c=true)→0≤Jc l∧Jc l<10 ^ k
 | 0,l,hl,_=>by
  rw[List.length_eq_zero_iff.1 hl]
  exact⟨Int.le_refl _,by decide⟩
 | k+1,l,hl,h=>by
  have hne:l≠[]:=fun e=>by rw[e]at hl;cases hl
  have e:=List.dropLast_concat_getLast hne
  have h1:=Yl k l.dropLast (by rw[List.length_dropLast];omega) fun c hc=>h c (List.dropLast_subset l hc)
  have h2:=h _ (List.getLast_mem hne)
  simp only[Dy,Bool.and_eq_true,decide_eq_true_eq]at h2
  rw[← e,Sw,Int.pow_succ]
  omega
theorem Acb {l:List UInt8} (hl:l.length≤10) (h:∀ c∈l,Dy c=true):0≤Jc l∧Jc l<10000000000:=by
 have h1:=Yl _ l rfl h
 refine⟨h1.1,Int.lt_of_lt_of_le h1.2 ?_⟩
 have h2:(10:Nat) ^ l.length≤10 ^ 10:=Nat.pow_le_pow_right qc hl
 have h3:((10:Nat) ^ l.length:Int)≤((10 ^ 10:Nat):Int):=by exact_mod_cast h2
 simpa using h3
theorem Z3 (s:ByteArray):Lib.trimPrefix s.data.toList [45]=Eg s:=by
 unfold Lib.trimPrefix Eg Ve
 cases s.data.toList with
 | nil=>simp[Lib.hasPrefix]
 | cons c l =>
  by_cases hc:c=45
  ·subst hc;simp[Lib.hasPrefix]
  ·simp[Lib.hasPrefix,hc,Ne.symm hc]
theorem I4 {s:ByteArray} {i:Nat} (h:i<s.data.toList.length):Ak s i=s.data.toList[i]:=by
 rw[Ak,List.getD_eq_getElem?_getD,List.getElem?_eq_getElem h];rfl
theorem Z1 {α:Type} {p:α→Bool} {l:List α} {j:Nat} (hI:M4 (fun _ x=>p x) l j):∀ c∈l.take j,p c=true:=by
 intro c hc
 obtain ⟨i,hi,rfl⟩:=List.mem_iff_getElem.1 hc
 rw[List.length_take]at hi
 rw[List.getElem_take]
 exact hI i j_ j_
theorem Ly {α:Type} {p:α→Bool} {l:List α} {j:Nat} (hI:M4 (fun _ x=>p x) l j) (hj:l.length≤j):l.all p=true:=by
 rw[List.all_eq_true]
 intro x hx
 obtain ⟨i,hi,rfl⟩:=List.mem_iff_getElem.1 hx
 exact hI i hi j_
theorem all_at' {α:Type} {p:α→Bool} {l:List α} {j:Nat} (hj:j<l.length) (h:p l[j]=false):l.all p=false:=by
 cases ha:l.all p
 ·rfl
 ·rw[List.all_eq_true]at ha
  rw[ha _ (List.getElem_mem hj)]at h;cases h
theorem u8_sub2 {c:UInt8} (h:Dy c=true):IntKind.i64.wrap (IntKind.u8.wrap ((c.toNat:Int)-48))=(c.toNat:Int)-48:=by
 simp only[Dy,Bool.and_eq_true,decide_eq_true_eq]at h
 rw[IntKind.wrap_u8,IntKind.wrap_i64];omega
theorem neg_digs {s:ByteArray} (h:Ve s=true):(Eg s).length+1=s.size∧∀ j,j<(Eg s).length→Ak s (1+j)=(Eg s).getD j 0:=by
 have hsz:s.data.toList.length=s.size:=rfl
 rw[Eg,if_pos h]
 rw[Ve]at h
 cases hd:s.data.toList with
 | nil=>rw[hd]at h;cases h
 | cons c l =>
  rw[hd]at hsz
  refine⟨by simp at hsz ⊢;omega,fun j hj=>?_⟩
  rw[Ak,hd,Nat.add_comm]
  rfl
theorem pos_digs {s:ByteArray} (h:Ve s=false):(Eg s).length=s.size∧∀ j,j<(Eg s).length→Ak s j=(Eg s).getD j 0:=by
 rw[Eg,if_neg (by simp[h])]
 exact⟨q_,fun j hj=>rfl⟩
theorem U9 (s:ByteArray) (lo hi:Int):Sy.Spec Tryz.prog 236 [Ac s,Aa lo,Aa hi] [] (.tup [Aa (numR s lo hi).1,Af (numR s lo hi).2]) []:=cT F236 Tryz.ntmps236 fun F hF=>by
 have hres:=numR.eq_1 s lo hi
 generalize numR s lo hi=res at *
 have q:=Oh s ⟨#[45]⟩
 rw[show (⟨#[45]⟩:ByteArray).data.toList=[45] from rfl,Z3]at q
 have hnv:=numV.eq_1 s
 have hng:=@neg_digs s
 have hps:=@pos_digs s
 generalize numV s=nv at *
 generalize hD:Eg s=D at *
 have hDs:(mkT D).size=D.length:=Bw D
 ((conv=>whnf);repeat((first|refine aF ?_|refine aT ?_);(first|refine rG Γ hm ?_|refine rD Γ hm y_ ?_);conv=>whnf))
 refine c0 q F289 ?_
 by_cases h1:D.length<1∨10<D.length
 ·rw[if_pos h1]at hres
  subst hres
  ((first|refine rG Γ hm ?_|refine rD Γ hm y_ ?_);(conv=>whnf);repeat((first|refine aF ?_|refine aT ?_);(first|refine rG Γ hm ?_|refine rD Γ hm y_ ?_);conv=>whnf))
  refine⟨fun h=>?_,fun h=>?_⟩
  ·((first|refine rG Γ hm ?_|refine rD Γ hm y_ ?_);(conv=>whnf);repeat((first|refine aF ?_|refine aT ?_);(first|refine rG Γ hm ?_|refine rD Γ hm y_ ?_);conv=>whnf))
   exact dN
  ·have h2:1≤D.length:=by
    cases D with
    | nil=>exact absurd (show (mkT [] == (⟨#[]⟩:ByteArray))=true from rfl) (by rw[show (mkT [] == (⟨#[]⟩:ByteArray))=false from h];simp)
    | cons=>simp
   ((first|refine rG Γ hm ?_|refine rD Γ hm y_ ?_);(conv=>whnf);repeat((first|refine aF ?_|refine aT ?_);(first|refine rG Γ hm ?_|refine rD Γ hm y_ ?_);conv=>whnf))
   refine⟨fun h=>?_,fun h=>?_⟩
   ·((first|refine rG Γ hm ?_|refine rD Γ hm y_ ?_);(conv=>whnf);repeat((first|refine aF ?_|refine aT ?_);(first|refine rG Γ hm ?_|refine rD Γ hm y_ ?_);conv=>whnf))
    exact dN
   ·exact absurd (of_decide_eq_false h) j_
 rw[if_neg h1]at hres
 have hne:(mkT D == (⟨#[]⟩:ByteArray))=false:=by
  cases he:(mkT D == (⟨#[]⟩:ByteArray))
  ·rfl
  ·have e:(mkT D).data=(⟨#[]⟩:ByteArray).data:=by simpa using (show ((mkT D).data == (⟨#[]⟩:ByteArray).data)=true from he)
   have:=congrArg Array.size e
   have e2:(mkT D).data.size=D.length:=hDs
   rw[e2]at this
   have e3:(⟨#[]⟩:ByteArray).data.size=0:=rfl
   omega
 ((first|refine rG Γ hm ?_|refine rD Γ hm y_ ?_);(conv=>whnf);repeat((first|refine aF ?_|refine aT ?_);(first|refine rG Γ hm ?_|refine rD Γ hm y_ ?_);conv=>whnf))
 refine⟨fun h=>absurd h (by rw[hne];simp),fun _=>?_⟩
 ((first|refine rG Γ hm ?_|refine rD Γ hm y_ ?_);(conv=>whnf);repeat((first|refine aF ?_|refine aT ?_);(first|refine rG Γ hm ?_|refine rD Γ hm y_ ?_);conv=>whnf))
 refine⟨fun h=>absurd (of_decide_eq_true h) j_,fun _=>?_⟩
 ((first|refine rG Γ hm ?_|refine rD Γ hm y_ ?_);(conv=>whnf);repeat((first|refine aF ?_|refine aT ?_);(first|refine rG Γ hm ?_|refine rD Γ hm y_ ?_);conv=>whnf))
 refine Bz D.length (fun j=>M4 (fun _ c=>Dy c) D j) (fun j=>[(0,Ac s),(1,Aa lo),(2,Aa hi),(8,Ac (mkT D)),(9,Aa (Jc (D.take j))),(21,Aa D.length),(22,Aa j)]) (fun _=>[]) [] (Ej _ _)
  ⟨⟨rfl,rfl,rfl,rfl,rfl,rfl,rfl,rfl,rfl,rfl,congrArg (fun z:Nat=>SV.val (.int .i64 z)) hDs.symm,rfl,rfl,rfl,trivial⟩,trivial,rfl,rfl⟩ ?_
 intro j hj hI
 have hv:=Acb (l:=D.take j) (by rw[List.length_take];omega) (Z1 hI)
 ((first|refine rG Γ hm ?_|refine rD Γ hm y_ ?_);(conv=>whnf);repeat((first|refine aF ?_|refine aT ?_);(first|refine rG Γ hm ?_|refine rD Γ hm y_ ?_);conv=>whnf))
 refine⟨fun h=>?_,fun h=>?_⟩
 ·have hlt:j<D.length:=qA h
  have hb:Ak (mkT D) ((j:Nat):Int).toNat=D[j]:=by
   have:j<(mkT D).data.toList.length:=by rw[Ds];exact hlt
   rw[Int.toNat_natCast,I4 this];simp[mkT]
  have hno:=fun h=>@all_at' _ Dy D j hlt h
  have hnx:=fun h=>Dz (p:=fun _ c=>Dy c) hI hlt h
  have hsucc:Jc (D.take (j+1))=10 * Jc (D.take j)+((D[j].toNat:Int)-48):=by rw[List.take_succ_eq_append_getElem hlt,Sw]
  have hu:=@u8_sub2 D[j]
  generalize D[j]=c at *
  generalize Jc (D.take j)=v at *
  have hc2:=c.toNat_lt
  ((first|refine rG Γ hm ?_|refine rD Γ hm y_ ?_);(conv=>whnf);repeat((first|refine aF ?_|refine aT ?_);(first|refine rG Γ hm ?_|refine rD Γ hm y_ ?_);conv=>whnf))
  refine⟨by omega,by omega,?_⟩
  rw[hb]
  ((conv=>whnf);repeat((first|refine aF ?_|refine aT ?_);(first|refine rG Γ hm ?_|refine rD Γ hm y_ ?_);conv=>whnf))
  refine⟨fun h2=>?_,fun h2=>?_⟩
  ·have h3:c.toNat<48:=by have:=of_decide_eq_true h2;omega
   rw[if_pos (hno (by rw[Dy,decide_eq_false j_];rfl))]at hres
   subst hres
   ((first|refine rG Γ hm ?_|refine rD Γ hm y_ ?_);(conv=>whnf);repeat((first|refine aF ?_|refine aT ?_);(first|refine rG Γ hm ?_|refine rD Γ hm y_ ?_);conv=>whnf))
   exact dN
  have h2:=of_decide_eq_false h2
  ((first|refine rG Γ hm ?_|refine rD Γ hm y_ ?_);(conv=>whnf);repeat((first|refine aF ?_|refine aT ?_);(first|refine rG Γ hm ?_|refine rD Γ hm y_ ?_);conv=>whnf))
  refine⟨by omega,by omega,?_⟩
  rw[hb]
  ((conv=>whnf);repeat((first|refine aF ?_|refine aT ?_);(first|refine rG Γ hm ?_|refine rD Γ hm y_ ?_);conv=>whnf))
  refine⟨fun h3=>?_,fun h3=>?_⟩
  ·have h3:57<c.toNat:=by have:=of_decide_eq_true h3;omega
   rw[if_pos (hno (by rw[Dy,decide_eq_false (by omega:¬ c.toNat≤57),Bool.and_false]))]at hres
   subst hres
   ((first|refine rG Γ hm ?_|refine rD Γ hm y_ ?_);(conv=>whnf);repeat((first|refine aF ?_|refine aT ?_);(first|refine rG Γ hm ?_|refine rD Γ hm y_ ?_);conv=>whnf))
   exact dN
  have h3:=of_decide_eq_false h3
  have hdg:Dy c=true:=by rw[Dy,decide_eq_true j_,decide_eq_true j_];rfl
  have hu:=hu hdg
  ((first|refine rG Γ hm ?_|refine rD Γ hm y_ ?_);(conv=>whnf);repeat((first|refine aF ?_|refine aT ?_);(first|refine rG Γ hm ?_|refine rD Γ hm y_ ?_);conv=>whnf))
  refine⟨by show I64 (10 * v);unfold I64;omega,?_⟩
  ((conv=>whnf);repeat((first|refine aF ?_|refine aT ?_);(first|refine rG Γ hm ?_|refine rD Γ hm y_ ?_);conv=>whnf))
  refine⟨by omega,by omega,?_⟩
  rw[hb]
  ((conv=>whnf);repeat((first|refine aF ?_|refine aT ?_);(first|refine rG Γ hm ?_|refine rD Γ hm y_ ?_);conv=>whnf))
  rw[hu]
  refine⟨by show I64 (10 * v+((c.toNat:Int)-48));unfold I64;omega,?_⟩
  ((conv=>whnf);repeat((first|refine aF ?_|refine aT ?_);(first|refine rG Γ hm ?_|refine rD Γ hm y_ ?_);conv=>whnf))
  refine iL ?_
  ((conv=>whnf);repeat((first|refine aF ?_|refine aT ?_);(first|refine rG Γ hm ?_|refine rD Γ hm y_ ?_);conv=>whnf))
  exact B1 [] hI j_ (hnx hdg) ⟨⟨q_,q_,q_,q_,q_,q_,q_,q_,congrArg Aa hsucc,q_,q_,q_,q_,q_,z_⟩,z_,q_,q_⟩
 ·have hje:j=D.length:=qB h
  subst hje
  rw[if_neg (by rw[Ly hI (Nat.le_refl _)];simp)]at hres
  rw[List.take_length]at hv ⊢
  have fin:∀ nv:Int,nv=(if Ve s=true then 0-Jc D else Jc D)→(-10000000000<nv∧nv<10000000000)∧Cm nv:=fun nv h=>by
   unfold Cm
   split at h<;>omega
  have fn:=fin nv hnv
  have q2:=Ax nv fn.2
  have hs2:((mkT D).size:Int)=D.length:=by rw[hDs]
  cases hn:Ve s
  ·rw[hn,if_neg qd]at hnv
   have h4:=(hps hn).1
   rw[← hnv]
   ((first|refine rG Γ hm ?_|refine rD Γ hm y_ ?_);(conv=>whnf);repeat((first|refine aF ?_|refine aT ?_);(first|refine rG Γ hm ?_|refine rD Γ hm y_ ?_);conv=>whnf))
   refine⟨fun h=>absurd (of_decide_eq_true h) j_,fun _=>?_⟩
   ((first|refine rG Γ hm ?_|refine rD Γ hm y_ ?_);(conv=>whnf);repeat((first|refine aF ?_|refine aT ?_);(first|refine rG Γ hm ?_|refine rD Γ hm y_ ?_);conv=>whnf))
   refine⟨fun h=>?_,fun h=>?_⟩
   ·rw[if_pos (.inl (of_decide_eq_true h))]at hres
    subst hres
    ((first|refine rG Γ hm ?_|refine rD Γ hm y_ ?_);(conv=>whnf);repeat((first|refine aF ?_|refine aT ?_);(first|refine rG Γ hm ?_|refine rD Γ hm y_ ?_);conv=>whnf))
    exact dN
   have h5:=of_decide_eq_false h
   ((first|refine rG Γ hm ?_|refine rD Γ hm y_ ?_);(conv=>whnf);repeat((first|refine aF ?_|refine aT ?_);(first|refine rG Γ hm ?_|refine rD Γ hm y_ ?_);conv=>whnf))
   refine⟨fun h=>?_,fun h=>?_⟩
   ·rw[if_pos (.inr (of_decide_eq_true h))]at hres
    subst hres
    ((first|refine rG Γ hm ?_|refine rD Γ hm y_ ?_);(conv=>whnf);repeat((first|refine aF ?_|refine aT ?_);(first|refine rG Γ hm ?_|refine rD Γ hm y_ ?_);conv=>whnf))
    exact dN
   have h6:=of_decide_eq_false h
   rw[if_neg j_]at hres
   ((first|refine rG Γ hm ?_|refine rD Γ hm y_ ?_);(conv=>whnf);repeat((first|refine aF ?_|refine aT ?_);(first|refine rG Γ hm ?_|refine rD Γ hm y_ ?_);conv=>whnf))
   refine c0 q2 F247 ?_
   cases he:(Ba nv == s)
   ·rw[he,if_neg qd]at hres
    subst hres
    ((first|refine rG Γ hm ?_|refine rD Γ hm y_ ?_);(conv=>whnf);repeat((first|refine aF ?_|refine aT ?_);(first|refine rG Γ hm ?_|refine rD Γ hm y_ ?_);conv=>whnf))
    refine⟨fun _=>?_,fun h=>absurd h (by rw[he];simp)⟩
    ((first|refine rG Γ hm ?_|refine rD Γ hm y_ ?_);(conv=>whnf);repeat((first|refine aF ?_|refine aT ?_);(first|refine rG Γ hm ?_|refine rD Γ hm y_ ?_);conv=>whnf))
    exact dN
   ·rw[he,if_pos rfl]at hres
    subst hres
    ((first|refine rG Γ hm ?_|refine rD Γ hm y_ ?_);(conv=>whnf);repeat((first|refine aF ?_|refine aT ?_);(first|refine rG Γ hm ?_|refine rD Γ hm y_ ?_);conv=>whnf))
    refine⟨fun h=>absurd h (by rw[he];simp),fun _=>?_⟩
    ((first|refine rG Γ hm ?_|refine rD Γ hm y_ ?_);(conv=>whnf);repeat((first|refine aF ?_|refine aT ?_);(first|refine rG Γ hm ?_|refine rD Γ hm y_ ?_);conv=>whnf))
    exact dN
  ·rw[hn,if_pos rfl]at hnv
   have h4:=(hng hn).1
   have hw:IntKind.i64.wrap (0-Jc D)=nv:=by rw[IntKind.wrap_i64];omega
   ((first|refine rG Γ hm ?_|refine rD Γ hm y_ ?_);(conv=>whnf);repeat((first|refine aF ?_|refine aT ?_);(first|refine rG Γ hm ?_|refine rD Γ hm y_ ?_);conv=>whnf))
   refine⟨fun _=>?_,fun h=>absurd (of_decide_eq_false h) j_⟩
   ((first|refine rG Γ hm ?_|refine rD Γ hm y_ ?_);(conv=>whnf);repeat((first|refine aF ?_|refine aT ?_);(first|refine rG Γ hm ?_|refine rD Γ hm y_ ?_);conv=>whnf))
   rw[hw]
   refine⟨fun h=>?_,fun h=>?_⟩
   ·rw[if_pos (.inl (of_decide_eq_true h))]at hres
    subst hres
    ((first|refine rG Γ hm ?_|refine rD Γ hm y_ ?_);(conv=>whnf);repeat((first|refine aF ?_|refine aT ?_);(first|refine rG Γ hm ?_|refine rD Γ hm y_ ?_);conv=>whnf))
    exact dN
   have h5:=of_decide_eq_false h
   ((first|refine rG Γ hm ?_|refine rD Γ hm y_ ?_);(conv=>whnf);repeat((first|refine aF ?_|refine aT ?_);(first|refine rG Γ hm ?_|refine rD Γ hm y_ ?_);conv=>whnf))
   refine⟨fun h=>?_,fun h=>?_⟩
   ·rw[if_pos (.inr (of_decide_eq_true h))]at hres
    subst hres
    ((first|refine rG Γ hm ?_|refine rD Γ hm y_ ?_);(conv=>whnf);repeat((first|refine aF ?_|refine aT ?_);(first|refine rG Γ hm ?_|refine rD Γ hm y_ ?_);conv=>whnf))
    exact dN
   have h6:=of_decide_eq_false h
   rw[if_neg j_]at hres
   ((first|refine rG Γ hm ?_|refine rD Γ hm y_ ?_);(conv=>whnf);repeat((first|refine aF ?_|refine aT ?_);(first|refine rG Γ hm ?_|refine rD Γ hm y_ ?_);conv=>whnf))
   refine c0 q2 F247 ?_
   cases he:(Ba nv == s)
   ·rw[he,if_neg qd]at hres
    subst hres
    ((first|refine rG Γ hm ?_|refine rD Γ hm y_ ?_);(conv=>whnf);repeat((first|refine aF ?_|refine aT ?_);(first|refine rG Γ hm ?_|refine rD Γ hm y_ ?_);conv=>whnf))
    refine⟨fun _=>?_,fun h=>absurd h (by rw[he];simp)⟩
    ((first|refine rG Γ hm ?_|refine rD Γ hm y_ ?_);(conv=>whnf);repeat((first|refine aF ?_|refine aT ?_);(first|refine rG Γ hm ?_|refine rD Γ hm y_ ?_);conv=>whnf))
    exact dN
   ·rw[he,if_pos rfl]at hres
    subst hres
    ((first|refine rG Γ hm ?_|refine rD Γ hm y_ ?_);(conv=>whnf);repeat((first|refine aF ?_|refine aT ?_);(first|refine rG Γ hm ?_|refine rD Γ hm y_ ?_);conv=>whnf))
    refine⟨fun h=>absurd h (by rw[he];simp),fun _=>?_⟩
    ((first|refine rG Γ hm ?_|refine rD Γ hm y_ ?_);(conv=>whnf);repeat((first|refine aF ?_|refine aT ?_);(first|refine rG Γ hm ?_|refine rD Γ hm y_ ?_);conv=>whnf))
    exact dN
theorem Dt:∀ (l:List UInt8) (c:UInt8),-1≤Lib.indexByte l c
 | [],_=>by simp[Lib.indexByte]
 | b::l,c=>by
  unfold Lib.indexByte
  have:=Dt l c
  split
  ·omega
  split
  ·omega
  ·omega
def Cf:List UInt8→List UInt8→List ByteArray
 | cur,[]=>if cur=[] then [] else [mkT cur]
 | cur,c::r=>if c=10 then mkT cur::Cf [] r else Cf (cur++[c]) r
def rowsT (b:List UInt8):List ByteArray × Int :=
 if 20000<b.length then ([],3) else if 400<(Cf [] b).length then ([],3) else (Cf [] b,0)
theorem L9:∀ (l cur:List UInt8),Lib.indexByte l 10=-1→Cf cur l=if cur++l=[] then [] else [mkT (cur++l)]
 | [],cur,_=>by rw[Cf,List.append_nil]
 | c::l,cur,h=>by
  unfold Lib.indexByte at h
  by_cases hc:(c == 10)=true
  ·rw[if_pos hc]at h;omega
  rw[if_neg hc]at h
  have hi:Lib.indexByte l 10=-1:=by
   by_cases h1:(Lib.indexByte l 10 == -1)=true
   ·simpa using h1
   ·rw[if_neg h1]at h
    have:=Dt l 10
    omega
  rw[Cf,if_neg (by simpa using hc),L9 l _ hi]
  simp
theorem L8:∀ (l cur:List UInt8),0≤Lib.indexByte l 10→Cf cur l=mkT (cur++l.take (Lib.indexByte l 10).toNat)::Cf [] (l.drop ((Lib.indexByte l 10).toNat+1))
 | [],cur,h=>by simp[Lib.indexByte]at h
 | c::l,cur,h=>by
  unfold Lib.indexByte at h ⊢
  by_cases hc:(c == 10)=true
  ·rw[if_pos hc,Cf,if_pos (by simpa using hc)]
   simp
  rw[if_neg hc]at h ⊢
  by_cases h1:(Lib.indexByte l 10 == -1)=true
  ·rw[if_pos h1]at h;omega
  rw[if_neg h1]at h ⊢
  have:=Dt l 10
  have h2:0≤Lib.indexByte l 10:=by
   have h3:Lib.indexByte l 10≠-1:=by simpa using h1
   omega
  have e:(Lib.indexByte l 10+1).toNat=(Lib.indexByte l 10).toNat+1:=by omega
  rw[Cf,if_neg (by simpa using hc),L8 l _ h2,e]
  simp
theorem W8 {l:List UInt8} (h:l≠[]):Cf [] l=(cutT 10 (mkT l)).1::Cf [] (cutT 10 (mkT l)).2.1.data.toList∧(cutT 10 (mkT l)).2.1.data.toList.length<l.length:=by
 have hpos:=List.length_pos_iff.2 h
 have hlt:=Hq l 10
 have hge:=Dt l 10
 have e0:(mkT l).size=l.length:=Bw l
 rw[cutT,Ds]
 split
 ·rename_i h0
  dsimp only
  rw[L8 l [] h0,B5,B5,Ds,e0,List.take_length]
  refine⟨q_,?_⟩
  rw[List.length_drop]
  omega
 ·rename_i h0
  dsimp only
  rw[L9 l [] j_,List.nil_append,if_neg h]
  exact⟨q_,hpos⟩
theorem Y9 (l:List UInt8):(mkT l == ⟨#[]⟩)=decide (l=[]):=by
 cases l with
 | nil=>rfl
 | cons c l =>
  rw[decide_eq_false qd]
  cases he:(mkT (c::l) == (⟨#[]⟩:ByteArray))
  ·rfl
  ·have e:(mkT (c::l)).data=(⟨#[]⟩:ByteArray).data:=by simpa using (show ((mkT (c::l)).data == (⟨#[]⟩:ByteArray).data)=true from he)
   have:=congrArg Array.size e
   simp[mkT]at this
theorem Zf (b:List UInt8) (hb:b.length≤1000000):Sy.Spec Tryz.prog 109 [.sl 1 An b] [] (.tup [.sl 1 Ac (rowsT b).1,Aa (rowsT b).2]) []:=cT F109 Tryz.ntmps109 fun F hF=>by
 have hres:=rowsT.eq_1 b
 generalize rowsT b=res at *
 ((conv=>whnf);repeat((first|refine aF ?_|refine aT ?_);(first|refine rG Γ hm ?_|refine rD Γ hm y_ ?_);conv=>whnf))
 refine⟨fun h=>?_,fun h=>?_⟩
 ·rw[if_pos (qA h)]at hres
  subst hres
  ((first|refine rG Γ hm ?_|refine rD Γ hm y_ ?_);(conv=>whnf);repeat((first|refine aF ?_|refine aT ?_);(first|refine rG Γ hm ?_|refine rD Γ hm y_ ?_);conv=>whnf))
  refine B0 2 1 Ac q_ ?_
  ((first|refine rG Γ hm ?_|refine rD Γ hm y_ ?_);(conv=>whnf);repeat((first|refine aF ?_|refine aT ?_);(first|refine rG Γ hm ?_|refine rD Γ hm y_ ?_);conv=>whnf))
  exact dN
 rw[if_neg (qB h)]at hres
 ((first|refine rG Γ hm ?_|refine rD Γ hm y_ ?_);(conv=>whnf);repeat((first|refine aF ?_|refine aT ?_);(first|refine rG Γ hm ?_|refine rD Γ hm y_ ?_);conv=>whnf))
 refine Cd (Ci Γ.toTy (bs:=b) q_ q_ q_ q_ q_ q_ q_ .sl) q_ q_ ?_
 refine Cz 4 1000 1 Ac q_ q_ ?_
 ((first|refine rG Γ hm ?_|refine rD Γ hm y_ ?_);(conv=>whnf);repeat((first|refine aF ?_|refine aT ?_);(first|refine rG Γ hm ?_|refine rD Γ hm y_ ?_);conv=>whnf))
 refine Az (fun x:List ByteArray × List UInt8=>Cf [] b=x.1++Cf [] x.2∧x.1.length+x.2.length≤b.length) (fun x=>[(4,.osl 1000),(5,Ac (mkT x.2))]) (fun x=>[(1000,.row 1 Ac x.1)]) (fun x=>x.2.length) ([],b) [] ⟨q_,by simp⟩
  ⟨⟨rfl,rfl,rfl,rfl,trivial⟩,⟨.inl rfl,rfl,trivial⟩,rfl,rfl⟩ ?_
 rintro ⟨out,rest⟩ ⟨hI,hlen⟩
 dsimp only at hI hlen ⊢
 have hemp:=Y9 rest
 ((first|refine rG Γ hm ?_|refine rD Γ hm y_ ?_);(conv=>whnf);repeat((first|refine aF ?_|refine aT ?_);(first|refine rG Γ hm ?_|refine rD Γ hm y_ ?_);conv=>whnf))
 by_cases hr:rest=[]
 ·rw[decide_eq_true hr]at hemp
  refine⟨fun h=>absurd h (by rw[hemp];simp),fun _=>?_⟩
  have hro:Cf [] b=out:=by rw[hI,hr];simp[Cf]
  rw[hro]at hres
  ((first|refine rG Γ hm ?_|refine rD Γ hm y_ ?_);(conv=>whnf);repeat((first|refine aF ?_|refine aT ?_);(first|refine rG Γ hm ?_|refine rD Γ hm y_ ?_);conv=>whnf))
  refine⟨fun h=>?_,fun h=>?_⟩
  ·rw[if_pos (qA h)]at hres
   subst hres
   ((first|refine rG Γ hm ?_|refine rD Γ hm y_ ?_);(conv=>whnf);repeat((first|refine aF ?_|refine aT ?_);(first|refine rG Γ hm ?_|refine rD Γ hm y_ ?_);conv=>whnf))
   refine B0 2 1 Ac q_ ?_
   ((first|refine rG Γ hm ?_|refine rD Γ hm y_ ?_);(conv=>whnf);repeat((first|refine aF ?_|refine aT ?_);(first|refine rG Γ hm ?_|refine rD Γ hm y_ ?_);conv=>whnf))
   exact dN
  ·rw[if_neg (qB h)]at hres
   subst hres
   refine A6 1000 q_ ?_
   ((first|refine rG Γ hm ?_|refine rD Γ hm y_ ?_);(conv=>whnf);repeat((first|refine aF ?_|refine aT ?_);(first|refine rG Γ hm ?_|refine rD Γ hm y_ ?_);conv=>whnf))
   exact dN
 ·rw[decide_eq_false hr]at hemp
  refine⟨fun _=>?_,fun h=>absurd h (by rw[hemp];simp)⟩
  obtain ⟨hc,hlt⟩:=W8 hr
  have q:=M6 (mkT rest) 10 (by rw[Bw];omega)
  obtain ⟨⟨row,rs,more⟩,hct⟩:∃ p,cutT 10 (mkT rest)=p:=⟨_,rfl⟩
  rw[hct]at q hc hlt
  dsimp only at q hc hlt
  have hrz:rs.data.toList.length=rs.size:=rfl
  ((first|refine rG Γ hm ?_|refine rD Γ hm y_ ?_);(conv=>whnf);repeat((first|refine aF ?_|refine aT ?_);(first|refine rG Γ hm ?_|refine rD Γ hm y_ ?_);conv=>whnf))
  refine c0 q F176 ?_
  ((first|refine rG Γ hm ?_|refine rD Γ hm y_ ?_);(conv=>whnf);repeat((first|refine aF ?_|refine aT ?_);(first|refine rG Γ hm ?_|refine rD Γ hm y_ ?_);conv=>whnf))
  refine Cd (Ag Γ.toTy 23 q_ q_ q_ q_ q_ (.row q_) (.lit (e:=Ac) (l:=[row]) q_ q_) qd (by simp;omega) (by simp;omega)) q_ q_ ?_
  ((first|refine rG Γ hm ?_|refine rD Γ hm y_ ?_);(conv=>whnf);repeat((first|refine aF ?_|refine aT ?_);(first|refine rG Γ hm ?_|refine rD Γ hm y_ ?_);conv=>whnf))
  refine Al (out++[row],rs.data.toList) [(1000,23)] ⟨by rw[hI,hc];simp,by simp;omega⟩ (by dsimp only;omega) ⟨⟨q_,q_,congrArg Ac (Dr rs),q_,z_⟩,⟨.inl q_,q_,z_⟩,q_,q_⟩
end Go.Sy.YtgblchnfjbkipaaGreatDoor
namespace Go.Sy.YtgblchnfjbkipaaGreatDoor
open Go.Proofs
attribute [local irreducible] Go.Sy.G Go.Sy.DR
set_option maxRecDepth 20000
set_option maxHeartbeats 4000000
mutual
theorem Db {K:List Nat}:∀ x:SV,x.inn []=true→x.inn K=true
 | .ptr _ _,h=>by simp[SV.inn,Hm]at h
 | .rpt _ _ _ _,h=>by simp[SV.inn,Hm]at h
 | .osl _,h=>by simp[SV.inn,Hm]at h
 | .agg l,h=>by simp only[SV.inn]at h ⊢;exact Ik l h
 | .tup l,h=>by simp only[SV.inn]at h ⊢;exact Ik l h
 | .ifc _ x,h=>by simp only[SV.inn]at h ⊢;exact Db x h
 | .clo _ f l,h=>by simp only[SV.inn,Bool.and_eq_true]at h ⊢;exact⟨Ik f h.1,Ik l h.2⟩
 | .top,_=>rfl
 | .val _,_=>rfl
 | .sl _ _ _,_=>rfl
 | .ref _ _ _,_=>rfl
theorem Ik {K:List Nat}:∀ l:List SV,Bd [] l=true→Bd K l=true
 | [],_=>rfl
 | x::l,h=>by simp only[Bd,Bool.and_eq_true]at h ⊢;exact⟨Db x h.1,Ik l h.2⟩
end
end Go.Sy.YtgblchnfjbkipaaGreatDoor
namespace Go.Sy.YtgblchnfjbkipaaGreatDoor
theorem G_vw {C:Cx} {k:List KI} {s:SS} (d:Nat) (x:SV) (h:Vw s [] (s.σ d) x) (hg:G C k ⟨upd s.σ d x,s.h⟩):G C k s:=fun κ a w hs =>
 hg κ a w ⟨hs.defers,hs.size,hs.inv,hs.ctx,fun i=>by
  show Rd κ w (upd s.σ d x i) _
  by_cases hi:i=d
  ·subst hi;rw[Bc];exact Vw.rd hs.inv (fun _ hn=>by cases hn) h (hs.slot i)
  ·rw[B2 _ _ hi];exact hs.slot i,hs.obj⟩
end Go.Sy.YtgblchnfjbkipaaGreatDoor
namespace Go.Sy.YtgblchnfjbkipaaGreatDoor
open Go.Proofs
attribute [local irreducible] Go.Sy.G Go.Sy.DR
set_option maxRecDepth 100000
set_option maxHeartbeats 4000000
def C9 (d:UInt8):List UInt8→List UInt8→List ByteArray
 | cur,[]=>[mkT cur]
 | cur,c::r=>if c=d then mkT cur::C9 d [] r else C9 d (cur++[c]) r
theorem Hg (d:UInt8):∀ (l cur:List UInt8),d∉l→C9 d cur l=[mkT (cur++l)]
 | [],cur,_=>by rw[C9,List.append_nil]
 | c::l,cur,h=>by
  simp only[List.mem_cons,not_or]at h
  rw[C9,if_neg (Ne.symm h.1),Hg d l _ h.2]
  simp
theorem Hf (d:UInt8):∀ (l cur:List UInt8),d∈l→C9 d cur l=mkT (cur++l.take (D9 d l))::C9 d [] (l.drop (D9 d l+1))
 | [],cur,h=>by simp at h
 | c::l,cur,h=>by
  by_cases hc:c=d
  ·subst hc
   rw[C9,if_pos rfl,D9]
   simp[Lib.indexByte]
  ·have h2:d∈l:=by
    simp only[List.mem_cons]at h
    exact h.resolve_left (Ne.symm hc)
   have h3:=(Dj h2).1
   have e:D9 d (c::l)=D9 d l+1:=by
    have e1:Lib.indexByte (c::l) d=Lib.indexByte l d+1:=by
     rw[Lib.indexByte.eq_def]
     dsimp only
     rw[if_neg (by simpa using hc),if_neg (by simp;omega)]
    rw[D9,D9,e1]
    omega
   rw[C9,if_neg hc,Hf d l _ h2,e]
   simp
theorem Ib (d:UInt8) (l:List UInt8):∀ j,A8 d l (j+1)=A8 d (l.drop (D9 d l+1)) j
 | 0=>rfl
 | j+1=>by
  rw[A8,Ib d l j]
  rfl
theorem Sa (d:UInt8):∀ (k:Nat) (l:List UInt8),l.length≤k→A5 d (mkT l)=C9 d [] l
 | 0,l,h=>by
  rw[List.length_eq_zero_iff.1 (by omega:l.length=0)]
  simp[A5,C9,A8,mkT]
 | k+1,l,h=>by
  by_cases hd:d∈l
  ·have h1:=Ht hd
   have h2:=(Dj hd).2
   have h3:(l.drop (D9 d l+1)).length≤k:=by rw[List.length_drop];omega
   rw[Hf d l [] hd,← Sa d k _ h3]
   simp only[A5,Ds]
   rw[← h1,List.range_succ_eq_map,List.map_cons,List.map_map,List.cons_append,List.nil_append,Ib]
   congr 2
   apply List.map_congr_left
   intro j _
   show mkT (Ic d l (j+1))=_
   rw[Ic,Ic,Ib]
  ·have h1:l.count d=0:=List.count_eq_zero.2 hd
   rw[Hg d l [] hd]
   simp[A5,Ds,h1,A8]
theorem Q9 (d:UInt8) (s:ByteArray):A5 d s=C9 d [] s.data.toList:=by
 rw[← Sa d _ _ (Nat.le_refl _),Dr]
def digI (c:UInt8):Int:=if 48≤c.toNat∧c.toNat≤57 then (c.toNat:Int)-48 else if 97≤c.toNat∧c.toNat≤102 then (c.toNat:Int)-87 else 16
theorem M9 (c:UInt8):0≤digI c∧digI c≤16:=by
 unfold digI
 split
 ·omega
 split
 ·omega
 ·omega
end Go.Sy.YtgblchnfjbkipaaGreatDoor
namespace Go.Sy
open Go.RowKit
def Ys {β:Type} (T:Nat→Prop) (J:β→World→Prop):Prop :=
 ∀ s W W' row,J s W→W.grownBy W' row→(∀ r,row=some r→T r)→J s W'
def OwnT {β:Type} (B:Nat) (T:Nat→Prop) (I:β→World→Prop):Prop :=
 ∀ s W W' row,I s W→W.grownBy W' row→(∀ r,row=some r→T r∨(B≤r∧∃ o:Obj,W.heap[r]? = some o∧o.isCells=false))→I s W'
theorem OwnT.putObj {β:Type} {B:Nat} {T:Nat→Prop} {I:β→World→Prop} (h:OwnT B T I) {s:β} {W:World} {l:Nat} {o:Obj} (o':Obj) (hs:I s W) (hB:B≤l) (hl:W.heap[l]? = some o) (ho:o.isCells=false):I s (W.putObj l o') :=
 h s W _ _ hs (grownBy_putObj' W l o') (fun r e=>by cases e;exact .inr ⟨hB,o,hl,ho⟩)
theorem OwnT.alloc {β:Type} {B:Nat} {T:Nat→Prop} {I:β→World→Prop} (h:OwnT B T I) {s:β} {W:World} (o:Obj) (hs:I s W):I s (W.alloc o) :=
 h s W _ none hs ⟨rfl,rfl,rfl,by simp,fun k hk _=>Below.heap_alloc _ _ _ hk⟩ (fun r e=>by cases e)
def S2 {α:Type} (F:Fence) (n:Nat) (P:Program) (g:Nat) (lb:Array Value) (encs:α→Array Value) (T:Nat→Prop) (Kp:World→World→Prop) (S Sp:List α→Prop) (N:Nat) (w:World):Prop :=
 ∀ (l:Nat) (J Jx:List α→World→Prop) (W:World),Below w.heap.size w W→Ys T J→Ys T Jx →
  (∀ pre x W1,J pre W1→pre.length<N→YieldAt F (n-1) P l (encs x) W1 fun e W' =>
   (e=.returned (.bool true)∧J (pre++[x]) W'∧Kp W1 W')∨(e=.returned (.bool false)∧Jx (pre++[x]) W')) →
  J [] W →
  CallsIn F n P g (#[.func (.yield l) #[] #[]]++lb) W fun e W'=>(∃ v,e=.returned v)∧((∃ xs,S xs∧J xs W')∨(∃ pre,Sp pre∧Jx pre W'))
theorem E3 {A B:World} {T:Nat→Prop} {row:Option Nat} {k:Nat} {o:Obj} (hg:A.grownBy B row) (hr:∀ r,row=some r→T r) (hk:¬ T k) (h:A.heap[k]? = some o):B.heap[k]? = some o:=by
 obtain ⟨_,_,_,_,h5⟩:=hg
 exact(h5 k (Array.getElem?_eq_some_iff.1 h).1 (fun e=>hk (hr k e.symm))).trans h
variable {F:Fence} {n:Nat} {P:Program}
theorem I6 {α:Type} {g:Operand} {ps:Array Tmp} {assign body:Code} {Q:Exit→Act→World→Prop} {a:Act} {w:World}
  (hro:F.round=none) (h1:1≤n) {gf:Nat} {lb:Array Value} (hg:a.eval g=.func (.func gf) #[] lb) (hFg:F.fn gf) (eg:∀ args w,(callFunc gf args).run P w=.ok (.enter gf args) w)
  {encs:α→Array Value} {T:Nat→Prop} {Kp:World→World→Prop} {S Sp:List α→Prop} {N:Nat} {w0:World} (hseq:S2 F (n-1) P gf lb encs T Kp S Sp N w0) (hT:∀ b,T b→b<w.heap.size)
  (hKt:∀ {A B C:World},Kp A B→Kp B C→Kp A C) (hKb:∀ (W:World) (l:Nat) (o o':Obj),w.heap.size≤l→W.heap[l]? = some o→o.isCells=false→o.isWalk=false→Kp W (W.putObj l o')) (hb0:Below w0.heap.size w0 w) (hps:∀ x,(encs x).size=ps.size)
  (I:List α→World→Prop) (Ix:Code→List α→World→Prop) (hI:OwnT w.heap.size T I) (hIx:∀ c,OwnT w.heap.size T (Ix c)) (h0:I [] w) (a₁:α→Act)
  (hassign:∀ (l:Nat) (x:α) (W:World) (K:Act→World→Prop),K (a₁ x) W →
   assign.wpIn (F.inRound l) (n-1-1) P (Exit.then K (fun _ _ _=>False)) { tmps:=(ps.zip (encs x)).foldl (fun t (p,v)=>t.setIfInBounds p v) a.tmps,defers:=[] } W)
  (hbody:∀ (l:Nat) (pre:List α) (x:α) (W:World),I pre W→pre.length<N→body.wpIn (F.inRound l) (n-1-1) P (ownPostK Kp I Ix (pre++[x]) W) (a₁ x) W)
  (hdone:∀ (D:Nat) (xs:List α) (W:World),w.heap.size≤D→S xs→I xs W→W.heap[D]? = some (.deferred (some []))→Q .normal { a with defers:={ target:=.collected D,args:=#[] }::a.defers } W)
  (hstop:∀ (D:Nat) (c:Code) (pre:List α) (W:World),w.heap.size≤D→Sp pre→Ix c pre W→W.heap[D]? = some (.deferred (some []))→c.wpIn F n P Q { a with defers:={ target:=.collected D,args:=#[] }::a.defers } W) :
  (Code.rangeFunc g ps assign body).wpIn F n P Q a w:=by
 refine wpIn_rangeFunc ?_
 intro fn hfn
 rw[hro]
 obtain ⟨rec,hrec⟩:∃ rec:LoopState→Option Code→Loop,rec=fun st pe=>{ state:=st,pending:=pe,fn,tmps:=a.tmps,params:=ps,assign,body,defers:=w.heap.size }:=⟨_,rfl⟩
 obtain ⟨W1,hW1⟩:∃ W1,(w.alloc (.deferred (some []))).alloc (.loop (rec .ready none))=W1:=⟨_,rfl⟩
 have hL1:W1.heap[w.heap.size+1]? = some (.loop (rec .ready none)):=by
  rw[← hW1];have:=World.alloc_heap_new (w.alloc (.deferred (some []))) (.loop (rec .ready none));rwa [World.size_alloc]at this
 have hK1:W1.heap[w.heap.size]? = some (.deferred (some [])):=by
  rw[← hW1];exact(Below.heap_alloc _ _ _ qd).trans (World.alloc_heap_new w _)
 have hI1:I [] W1:=by rw[← hW1];exact hI.alloc _ (hI.alloc _ h0)
 have hb1:Below w0.heap.size w0 W1:=by
  rw[← hW1];exact hb0.trans ((((Below.refl _ w).alloc (Nat.le_refl _) _).alloc qd _).mono hb0.size)
 have nT:∀ k,w.heap.size≤k→¬ T k:=fun k hk h=>Nat.lt_irrefl _ (Nat.lt_of_lt_of_le (hT k h) hk)
 refine⟨w.heap.size+1,[{ target:=.collected w.heap.size,args:=#[] }],W1,{ target:=.fn (.func gf) lb,args:=#[.func (.yield (w.heap.size+1)) #[] #[]] },W1,gf,
  #[.func (.yield (w.heap.size+1)) #[] #[]]++lb,W1,?_,?_,?_,?_,fun _=>h1,?_⟩
 ·rw[← hW1,hrec];exact run_enterLoop_outer _ _ _ _ _
 ·simp only[resolve,hg]
  simp[go_sem]
 ·intro f' hf';simp[Target.leads]at hf';subst hf';exact hFg
 ·simp[invoke,go_sem,eg]
 ·refine(hseq (w.heap.size+1)
   (fun pre W=>I pre W∧W.heap[w.heap.size+1]? = some (.loop (rec .ready none))∧W.heap[w.heap.size]? = some (.deferred (some [])))
   (fun pre W=>∃ c,Ix c pre W∧W.heap[w.heap.size+1]? = some (.loop (rec .done (some c)))∧W.heap[w.heap.size]? = some (.deferred (some [])))
   W1 hb1
   (fun s A B row hs hg' hr=>⟨hI s A B row hs.1 hg' (fun r e=>.inl (hr r e)),E3 hg' hr (nT _ j_) hs.2.1,E3 hg' hr (nT _ j_) hs.2.2⟩)
   (fun s A B row hs hg' hr=>by
    obtain ⟨c,hc,hl,hk⟩:=hs
    exact⟨c,hIx c s A B row hc hg' (fun r e=>.inl (hr r e)),E3 hg' hr (nT _ j_) hl,E3 hg' hr (nT _ j_) hk⟩)
   ?_ ⟨hI1,hL1,hK1⟩).mono ?_
  ·rintro pre x W ⟨hi,hl,hk⟩ hlen
   have hlt:w.heap.size+1<W.heap.size:=(Array.getElem?_eq_some_iff.1 hl).1
   have hy:=run_yield (P:=P) (args:=encs x) hl (by rw[hrec];exact hps x)
   rw[hrec]at hy
   refine⟨fn,_,assign,body,hy,roundIn_of_wpIn hfn (hassign _ x W _ ⟨_,run_beginRound hl (by rw[hrec]),?_⟩)⟩
   have hl2:(W.putObj (w.heap.size+1) (.loop { rec .ready none with state:=.busy })).heap[w.heap.size+1]? = some (.loop { rec .ready none with state:=.busy }):=World.putObj_heap_same hlt
   have hk2:(W.putObj (w.heap.size+1) (.loop { rec .ready none with state:=.busy })).heap[w.heap.size]? = some (.deferred (some [])):=(World.putObj_heap_other j_).trans hk
   have hw2:Kp W (W.putObj (w.heap.size+1) (.loop { rec .ready none with state:=.busy })):=hKb _ _ _ _ j_ hl rfl rfl
   refine wpIn_mono (hbody _ pre x _ (hI.putObj _ hi (Nat.le_succ _) hl q_) hlen) ?_
   have fin:∀ (jump:Option Code) (W3:World),KeepsOthers (W.putObj (w.heap.size+1) (.loop { rec .ready none with state:=.busy })) W3 →
     (Instr.endRound (w.heap.size+1) jump).run P W3=.ok (.bool jump.isNone) (W3.putObj (w.heap.size+1) (.loop (rec (if jump.isNone then .ready else .done) jump))) ∧
     W3.heap[w.heap.size+1]? = some (.loop { rec .ready none with state:=.busy }) ∧
     (W3.putObj (w.heap.size+1) (.loop (rec (if jump.isNone then .ready else .done) jump))).heap[w.heap.size+1]? = some (.loop (rec (if jump.isNone then .ready else .done) jump)) ∧
     (W3.putObj (w.heap.size+1) (.loop (rec (if jump.isNone then .ready else .done) jump))).heap[w.heap.size]? = some (.deferred (some [])):=fun jump W3 hk3=>by
    have hl3:=hk3.same _ _ hl2 rfl
    have:=run_endRound (P:=P) jump hl3
    rw[hrec]at this ⊢
    exact⟨this,by rw[hrec]at hl3;exact hl3,World.putObj_heap_same (Array.getElem?_eq_some_iff.1 hl3).1,(World.putObj_heap_other j_).trans (hk3.same _ _ hk2 q_)⟩
   rintro e a3 W3 hp
   cases e with
   | normal =>
    obtain ⟨hk3,hkp3,hi3⟩:=hp
    obtain ⟨hr,hl3,hl4,hk4⟩:=fin none W3 hk3
    exact⟨_,_,hr,.inl ⟨q_,⟨hI.putObj _ hi3 (Nat.le_succ _) hl3 q_,hl4,hk4⟩,hKt (hKt hw2 hkp3) (hKb _ _ _ _ j_ hl3 q_ q_)⟩⟩
   | ret =>
    obtain ⟨hk3,hi3⟩:=hp
    obtain ⟨hr,hl3,hl4,hk4⟩:=fin (some .ret) W3 hk3
    exact⟨_,_,hr,.inr ⟨q_,.ret,(hIx _).putObj _ hi3 (Nat.le_succ _) hl3 q_,hl4,hk4⟩⟩
   | exit id =>
    obtain ⟨hk3,hi3⟩:=hp
    obtain ⟨hr,hl3,hl4,hk4⟩:=fin (some (.exit id)) W3 hk3
    exact⟨_,_,hr,.inr ⟨q_,.exit id,(hIx _).putObj _ hi3 (Nat.le_succ _) hl3 q_,hl4,hk4⟩⟩
   | goto t =>
    obtain ⟨hk3,hi3⟩:=hp
    obtain ⟨hr,hl3,hl4,hk4⟩:=fin (some (.goto t)) W3 hk3
    exact⟨_,_,hr,.inr ⟨q_,.goto t,(hIx _).putObj _ hi3 (Nat.le_succ _) hl3 q_,hl4,hk4⟩⟩
   | panic ch=>exact hp.elim
   | outgrown=>exact hp.elim
  ·rintro e W2 ⟨⟨v,rfl⟩,(⟨xs,hS,hi,hl,hk⟩ | ⟨pre,hSp,c,hi,hl,hk⟩)⟩
   ·exact⟨none,_,by have:=run_endLoop (P:=P) hl (by rw[hrec];simp);rw[hrec]at this;exact this,hdone _ xs _ (Nat.le_refl _) hS (hI.putObj _ hi (Nat.le_succ _) hl q_) ((World.putObj_heap_other j_).trans hk)⟩
   ·exact⟨some c,_,by have:=run_endLoop (P:=P) hl (by rw[hrec];simp);rw[hrec]at this;exact this,hstop _ c pre _ (Nat.le_refl _) hSp ((hIx c).putObj _ hi (Nat.le_succ _) hl q_) ((World.putObj_heap_other j_).trans hk)⟩
end Go.Sy
namespace Go.Proofs
open Go.RowKit Go.Shelf Go.Sy Go.Sy.YtgblchnfjbkipaaGreatDoor
attribute [local go_sem] Oper.semAt_some
structure SeqBox (W:World) (bp bs bv:Nat) (t:ByteArray):Prop where
 p:W.cell? ⟨bp,0,none⟩=some (.string ⟨#[46]⟩)
 s:W.cell? ⟨bs,0,none⟩=some (.string t)
 v:W.cell? ⟨bv,0,none⟩=some (.int .i64 0)
 f:W.frozen? ⟨bs,0,none⟩=false
def Abs (bp bs bv:Nat) (W W':World):Prop:=W'.heap[bp]? = W.heap[bp]? ∧ W'.heap[bs]? = W.heap[bs]? ∧ W'.heap[bv]? = W.heap[bv]?
theorem SeqBox.keep {W W':World} {bp bs bv:Nat} {t:ByteArray} (h:SeqBox W bp bs bv t) (k:Abs bp bs bv W W'):SeqBox W' bp bs bv t :=
 ⟨(World.cell?_of_block k.1).trans h.p,(World.cell?_of_block k.2.1).trans h.s,(World.cell?_of_block k.2.2).trans h.v,by
  have:W'.frozen? ⟨bs,0,none⟩=W.frozen? ⟨bs,0,none⟩:=by unfold World.frozen?;rw[k.2.1]
  rw[this];exact h.f⟩
theorem Vq:∀ {l:List UInt8} {c:UInt8},c∉l→Lib.indexByte l c=-1
 | [],_,_=>rfl
 | b::l,c,h=>by
  simp only[List.mem_cons,not_or]at h
  rw[Lib.indexByte,if_neg (by simpa using Ne.symm h.1),Vq h.2]
  rfl
def Aa3 (bs:Nat) (W:World):Nat:=match W.cell? ⟨bs,0,none⟩ with | some (.string t)=>t.size | _=>0
set_option maxRecDepth 100000 in
set_option maxHeartbeats 4000000 in
theorem Tryz.split_stops (s:ByteArray) (hs:s.size<100000) (n:Nat) (hn:1≤n) (bp bs bv:Nat) (hd:bp≠bs∧bv≠bs) (w:World) (hw:SeqBox w bp bs bv s) (hlt:bp<w.heap.size∧bs<w.heap.size∧bv<w.heap.size) :
  S2 Fence.wide n Tryz.prog 346 #[.pointer (some ⟨bp,0,none⟩),.pointer (some ⟨bs,0,none⟩),.pointer (some ⟨bv,0,none⟩)] (fun x:ByteArray=>#[.string x]) (fun b=>b=bs) (Abs bp bs bv)
   (fun xs=>xs=A5 46 s) (fun pre=>pre <+: A5 46 s) (A5 46 s).length w:=fun l J Jx W hW hJ hJx hY h0=>by
 refine callsIn_of_wp Tryz.func346 Go.Sy.q_ Go.Sy.z_ ?_ Go.Sy.q_
 simp only[Tryz.ntmps346,List.size_toArray,List.length_cons,List.length_nil,Nat.reduceAdd,Nat.reduceSub,Array.replicate_succ,Array.replicate_zero,List.push_toArray,List.append_toArray,List.nil_append,List.cons_append]
 have hW0:SeqBox W bp bs bv s:=hw.keep ⟨hW.block _ hlt.1,hW.block _ hlt.2.1,hW.block _ hlt.2.2⟩
 have c1:=hW0.p
 have c2:=hW0.s
 have c3:=hW0.v
 gi_wp2
 gi_loopw [] (fun wr=>∃ j:Nat,j≤Xy 46 s∧SeqBox wr bp bs bv (mkT (A8 46 s.data.toList j))∧J ((A5 46 s).take j) wr) (fun wr=>Aa3 bs wr)
 case atStart =>
  exact⟨0,Nat.zero_le _,by rw[A8,Dr];exact hW0,h0⟩
 case round =>
  obtain ⟨j,hj,hb,hJj⟩:=hrel
  have d1:=hb.p
  have d2:=hb.s
  have d3:=hb.v
  have hlr:=Us 46 s.data.toList j
  have hsz:s.data.toList.length=s.size:=rfl
  have hwl:=Jg 46 s
  have hsm:=Bw (A8 46 s.data.toList j)
  by_cases hlt:j<Xy 46 s
  ·have hi:=Dj (W9 hlt)
   obtain ⟨m,hm'⟩:∃ m:Nat,Lib.indexByte (A8 46 s.data.toList j) 46=m:=⟨(Lib.indexByte (A8 46 s.data.toList j) 46).toNat,by omega⟩
   have q:=Tryz.strings_Index_one (mkT (A8 46 s.data.toList j)) 46 wr
   rw[Ds,hm']at q
   rw[hm',Int.toNat_natCast]at hi
   have hpm:=Aan (c:=46) (s:=s) (j:=j) hm'
   have hqm:=Ab1 (c:=46) (s:=s) (j:=j) hm'
   have hget:(A5 46 s)[j]? = some (mkT (Ic 46 s.data.toList j)):=by
    have hlt':j<s.data.toList.count 46:=hlt
    rw[A5,List.getElem?_append_left (by rw[List.length_map,List.length_range];exact hlt'),List.getElem?_map,List.getElem?_range hlt']
    rfl
   have hx:(mkT (A8 46 s.data.toList j)).extract 0 m=mkT (Ic 46 s.data.toList j):=by
    rw[B5,hpm];simp
   have hx2:(mkT (A8 46 s.data.toList j)).extract (m+1) (mkT (A8 46 s.data.toList j)).size=mkT (A8 46 s.data.toList (j+1)):=by
    rw[B5,hqm,hsm,List.take_length]
   have htk:(A5 46 s).take j++[mkT ((A8 46 s.data.toList j).take m)]=(A5 46 s).take (j+1):=by
    rw[List.take_add_one,hget,hpm];rfl
   obtain ⟨fn,tmps,assign,body,hy,hR⟩:=hY _ (mkT ((A8 46 s.data.toList j).take m)) wr hJj (by rw[List.length_take];omega)
   rw[htk]at hR
   gi_wp2
   refine⟨Go.Sy.z_,?_⟩
   refine(callsIn_wide.2 q).mono ?_
   rintro e w' ⟨rfl,rfl⟩
   gi_wp2
   refine hR.mono ?_
   rintro e W' (⟨rfl,hJ',hk⟩ | ⟨rfl,hJx'⟩)
   ·have hb':=hb.keep hk
    have d1:=hb'.p
    have d2:=hb'.s
    have d3:=hb'.v
    have d4:=hb'.f
    have hsm1:(mkT (A8 46 s.data.toList (j+1))).size+(m+1)=(mkT (A8 46 s.data.toList j)).size:=by
     rw[hsm,Bw,hqm,List.length_drop];omega
    rw[hsm]at hx2
    gi_wp2
    rw[← hqm]
    have e2:(W'.setCell ⟨bs,0,none⟩ (.string (mkT (A8 46 s.data.toList (j+1))))).cell? ⟨bs,0,none⟩=some (.string (mkT (A8 46 s.data.toList (j+1)))):=World.cell?_setCell_same' _ _ _ (by rw[d2];rfl)
    refine⟨⟨j+1,hlt,⟨?_,e2,?_,?_⟩,hJ _ _ _ (some bs) hJ' (grownBy_setCell' _ _ _) (fun r e=>by cases e;rfl)⟩,?_⟩
    ·rw[World.cell?_setCell_other _ _ _ _ (by intro e;cases e;exact hd.1 rfl)];exact d1
    ·rw[World.cell?_setCell_other _ _ _ _ (by intro e;cases e;exact hd.2 rfl)];exact d3
    ·rw[World.frozen?_setCell];exact d4
    ·unfold Aa3
     rw[e2,hb.s]
     simp only
     omega
   ·gi_wp2
    refine bodyPost_ret (results_none Go.Sy.q_ _ _ _) Go.Sy.q_ ?_
    exact⟨⟨_,Go.Sy.q_⟩,.inr ⟨_,List.take_prefix _ _,hJx'⟩⟩
  ·have hje:j=Xy 46 s:=by omega
   have hno:(46:UInt8)∉A8 46 s.data.toList j:=by
    have:=J5 46 s.data.toList j hj
    have e:Xy 46 s=s.data.toList.count 46:=rfl
    exact List.count_eq_zero.1 Go.Sy.j_
   have q:=Tryz.strings_Index_one (mkT (A8 46 s.data.toList j)) 46 wr
   rw[Ds,Vq hno]at q
   have hget:(A5 46 s)[j]? = some (mkT (A8 46 s.data.toList j)):=by
    rw[hje,A5,List.getElem?_append_right (by simp[Xy])]
    simp[Xy]
   have htk:(A5 46 s).take j++[mkT (A8 46 s.data.toList j)]=A5 46 s:=by
    have:(A5 46 s).take (j+1)=A5 46 s:=List.take_of_length_le Go.Sy.j_
    rw[List.take_add_one,hget]at this
    exact this
   have hlen:((A5 46 s).take j).length<(A5 46 s).length:=by rw[List.length_take];omega
   clear hje
   obtain ⟨fn,tmps,assign,body,hy,hR⟩:=hY _ (mkT (A8 46 s.data.toList j)) wr hJj hlen
   rw[htk]at hR
   gi_wp2
   refine⟨Go.Sy.z_,?_⟩
   refine(callsIn_wide.2 q).mono ?_
   rintro e w' ⟨rfl,rfl⟩
   gi_wp2
   refine hR.mono ?_
   rintro e W' (⟨rfl,hJ',hk⟩ | ⟨rfl,hJx'⟩)
   ·gi_wp2
    go_end0
    exact⟨⟨_,Go.Sy.q_⟩,.inl ⟨_,Go.Sy.q_,hJ'⟩⟩
   ·gi_wp2
    go_end0
    exact⟨⟨_,Go.Sy.q_⟩,.inr ⟨_,List.prefix_rfl,hJx'⟩⟩
end Go.Proofs
namespace Go.Sy
theorem T2 (w:World) {b:Nat} {cs:Array Value} {T:TypeId} {fr:Nat × Nat} (h:w.heap[b]? = some (.cells cs T fr)) (n:Nat) :
  (w.freeze ⟨b,n,none⟩ 1).heap[b]? = some (.cells cs T (if fr.1 == fr.2 then (n,n+1) else (min fr.1 n,max fr.2 (n+1))))∧(w.freeze ⟨b,n,none⟩ 1).os=w.os∧(w.freeze ⟨b,n,none⟩ 1).tape=w.tape∧(w.freeze ⟨b,n,none⟩ 1).output=w.output ∧
   (w.freeze ⟨b,n,none⟩ 1).heap.size=w.heap.size∧∀ i,i≠b→(w.freeze ⟨b,n,none⟩ 1).heap[i]? = w.heap[i]?:=by
 unfold World.freeze
 rw[if_neg qc]
 refine⟨?_,q_,q_,q_,by simp,fun i hi=>?_⟩
 ·simp[Array.getElem?_modify,h]
 ·simp[Array.getElem?_modify,Ne.symm hi]
theorem K2 {P:Program} (Γ:Ty P) {o:Oper} {s:SS} {t:TypeId} {ti ei:TI} {x:Operand} {et:TypeId} {sz eb k:Nat} {ez:List Value} {svs:List SV} (h:o.op=.convert t t x)
  (ht:Γ.get t=some ti) (hk:ti.k=.slice et sz eb ez) (he:Γ.get et=some ei) (hek:ei.k=.int .u8) (hx:ev s x=.osl k) (hl:s.h k=.lit sz svs):Good P o s ⟨.osl k,[],[(k,.lit sz svs)]⟩:=by
 intro κ a w hi hr ho N Q hN
 have h1:=hr x (by simp[h,Op.operands])
 have h3:=ho k (.inr (by simp[Up.ws]))
 rw[hl]at h3
 rw[hx]at h1
 obtain ⟨b,cap,cs,T,fr,f1,f2,f3,f4,f5,f6⟩:=h3
 simp only[Rd,f1]at h1
 obtain ⟨hu,_⟩:=B8 Γ ht hk
 have he':=Ls Γ he hek
 obtain ⟨q1,q2,q3,q4,q5,q6⟩:=T2 w f2 cs.length
 have hsh:w.shape? b=some (T,cs.length):=by
  unfold World.shape?
  rw[f2]
  simp
 have hrun:(execOp a.eval o).run P w=.ok (.value (.slice (some ⟨b,0,none⟩) svs.length cap)) (w.freeze ⟨b,cs.length,none⟩ 1):=by
  simp[execOp,h,h1,convert,run_underlying hu,run_underlying he',markStringish,hsh]
 simp only[Oper.wp,hrun,Oper.upon]
 obtain ⟨st,inv⟩:=He hi (k:=k) (b:=b) (by rw[f1];rfl) q2 q3 q4 q5 q6
 refine hN _ κ _ (st.weaken (by simp[Up.ws])) inv (by simp[Rd,f1]) (fun p hp=>?_)
 simp only[List.mem_singleton]at hp
 subst hp
 refine⟨b,cap,cs,T,_,f1,q1,?_,f4,f5,fun i x hx=>?_⟩
 ·rcases f3 with h0 | h0
  ·rw[if_pos (by simpa using h0)];exact .inr (Nat.le_refl _)
  ·split
   ·exact .inr (Nat.le_refl _)
   ·exact .inr (by simp only;omega)
 obtain ⟨g0,u,g1,g2,g3,g4⟩:=f6 i x hx
 exact⟨g0,u,RdD.keep st.keeps _ _ g1,g2,g3,g4⟩
end Go.Sy
