/-
  O8 Sy25 Sy26 Sy27 Sy28 Sh E1 N2 N3 N4 E2 A2 E3 N5 N6 N7 E4 Sy29 B0 D1 E36 E37 E5 E6: parts of a proof, joined by program.
-/
import Derived.Test.YtiijbikecbjdaaaGreatDoorXU4
import Derived.ChangeKeysEq
import Derived.Below
import Derived.Lib.Join
import Derived.Shelf.Strings.Search1
import Derived.Shelf.Strings.Search2
import Derived.Shelf.Strings.Search3
import Derived.Shelf.Strings.Cut
import Derived.Shelf.Strings.Prefix
import Derived.Test.YtiijbikecbjdaaaGreatDoorProg
set_option linter.all false
set_option linter.unusedVariables false
set_option linter.unusedSimpArgs false
set_option linter.deprecated false
namespace Go.Sy.YtiijbikecbjdaaaGreatDoor
open Go.Proofs Go.ChangeShapes Go.WideShapes Go.ChangeAt Go.RowKit
set_option maxRecDepth 100000
section
variable {H:Type} {enc:TypeId × Value→H} {W:World}
theorem opN_byte {P:Program} {t:TypeId} (ht:P.underlying t=some (.int .u8)):OpN enc P W t Ah (λ _=>True) 1:=λ n cs y h=>by
 obtain ⟨z,h1,h2,h3,h4⟩:=Arn ht n cs y h
 have hz:0≤z∧z<256:=by
  simp only[Lit.wf,zH,zQ]at h1
  have a:=h1.1
  have b:=h1.2
  simp only[IntKind.min,IntKind.max,IntKind.signed,IntKind.bits]at a b
  constructor<;>simp at a b<;>omega
 refine⟨UInt8.ofNat z.toNat,Y,h2,h3,?_⟩
 have e:Ah (UInt8.ofNat z.toNat)=.val (.int .u8 z):=by
  rw[Ah,UInt8.toNat_ofNat_of_lt' (by show _<256;omega),xN hz.1]
 rw[e];exact h4
theorem op_bytes:Op1 enc Tryz.prog W 27 (λ l:List UInt8=>.sl 1 Ah l) (λ l=>(∀ x∈l,True)∧l.length≤maxLen) :=
 M6 Tryz.underlying27 (by kernel_rfl:Tryz.prog.cellsOf 5=1) j_ (λ _=>rfl) (λ _=>rfl) (opN_byte Tryz.underlying5)
theorem op_bools:Op1 enc Tryz.prog W 28 (λ l:List Bool=>.sl 1 Ab l) (λ l=>(∀ x∈l,True)∧l.length≤maxLen) :=
 M6 Tryz.underlying28 (by kernel_rfl:Tryz.prog.cellsOf 4=1) j_ (λ _=>rfl) (λ _=>rfl) (Ali Tryz.underlying4)
def StepM.In (x:StepM):Prop:=wI .i64 x.kind∧wI .i64 x.port∧wI .i64 x.domain∧wI .i64 x.at_∧((∀ y∈x.bytes,True)∧x.bytes.length≤maxLen)∧((∀ y∈x.up,True)∧x.up.length≤maxLen)
theorem opN_StepM:OpN enc Tryz.prog W 30 B0 StepM.In 6:=λ n cs y h=>by
 obtain ⟨xs,m,_,_,hlen,hx,hg⟩:=DataW.trod_struct Tryz.underlying30 h
 have hlen:cs.length=6:=hlen.trans (by kernel_rfl:Tryz.prog.cellsOf 30=6)
 have hx:xs.length=6:=hx
 match cs,hlen with
 | [c0,c1,c2,c3,c4,c5],_ =>
  have g0:DataW.trod enc Tryz.prog W 0 (λ _=>true) true m 3 (([c0,c1,c2,c3,c4,c5].drop 0).take (Tryz.prog.cellsOf 3))=xs[0]?:=hg 0 _ rfl
  rw[(by kernel_rfl:Tryz.prog.cellsOf 3=1),zO q_]at g0
  obtain ⟨z0,p0,r0,o0⟩:=Jb Tryz.underlying3 _ _ _ g0
  have g1:DataW.trod enc Tryz.prog W 0 (λ _=>true) true m 3 (([c0,c1,c2,c3,c4,c5].drop 1).take (Tryz.prog.cellsOf 3))=xs[1]?:=hg 1 _ rfl
  rw[(by kernel_rfl:Tryz.prog.cellsOf 3=1),zO q_]at g1
  obtain ⟨z1,p1,r1,o1⟩:=Jb Tryz.underlying3 _ _ _ g1
  have g2:DataW.trod enc Tryz.prog W 0 (λ _=>true) true m 3 (([c0,c1,c2,c3,c4,c5].drop 2).take (Tryz.prog.cellsOf 3))=xs[2]?:=hg 2 _ rfl
  rw[(by kernel_rfl:Tryz.prog.cellsOf 3=1),zO q_]at g2
  obtain ⟨z2,p2,r2,o2⟩:=Jb Tryz.underlying3 _ _ _ g2
  have g3:DataW.trod enc Tryz.prog W 0 (λ _=>true) true m 3 (([c0,c1,c2,c3,c4,c5].drop 3).take (Tryz.prog.cellsOf 3))=xs[3]?:=hg 3 _ rfl
  rw[(by kernel_rfl:Tryz.prog.cellsOf 3=1),zO q_]at g3
  obtain ⟨z3,p3,r3,o3⟩:=Jb Tryz.underlying3 _ _ _ g3
  have g4:DataW.trod enc Tryz.prog W 0 (λ _=>true) true m 27 (([c0,c1,c2,c3,c4,c5].drop 4).take (Tryz.prog.cellsOf 27))=xs[4]?:=hg 4 _ rfl
  rw[(by kernel_rfl:Tryz.prog.cellsOf 27=1),zO q_]at g4
  obtain ⟨z4,p4,r4,o4⟩:=op_bytes _ _ _ g4
  have g5:DataW.trod enc Tryz.prog W 0 (λ _=>true) true m 28 (([c0,c1,c2,c3,c4,c5].drop 5).take (Tryz.prog.cellsOf 28))=xs[5]?:=hg 5 _ rfl
  rw[(by kernel_rfl:Tryz.prog.cellsOf 28=1),zO q_]at g5
  obtain ⟨z5,p5,r5,o5⟩:=op_bools _ _ _ g5
  refine⟨⟨z0,z1,z2,z3,z4,z5⟩,⟨p0,p1,p2,p3,p4,p5⟩,E,λ c hc=>?_,?_⟩
  ·simp only[yI,xG,vM]at hc
   rcases hc with rfl | rfl | rfl | rfl | rfl | rfl<;>assumption
  ·simp only[B0,cellsOf,RdL]
   exact⟨_,_,E,r0,_,_,E,r1,_,_,E,r2,_,_,E,r3,_,_,E,r4,_,_,E,r5,E⟩
theorem op_steps:Op1 enc Tryz.prog W 23 (λ l:List StepM=>.sl 6 B0 l) (λ l=>(∀ x∈l,StepM.In x)∧l.length≤maxLen) :=
 M6 Tryz.underlying23 (by kernel_rfl:Tryz.prog.cellsOf 30=6) j_ (λ _=>rfl) (λ _=>rfl) opN_StepM
def ReportM.In (x:ReportM):Prop:=wI .i64 x.kind∧wI .i64 x.where_∧wI .i64 x.row∧wI .i64 x.error∧wI .i64 x.from_∧wI .i64 x.to∧((∀ y∈x.script,StepM.In y)∧x.script.length≤maxLen)
theorem Aak:OpN enc Tryz.prog W 25 Cj ReportM.In 7:=λ n cs y h=>by
 obtain ⟨xs,m,_,_,hlen,hx,hg⟩:=DataW.trod_struct Tryz.underlying25 h
 have hlen:cs.length=7:=hlen.trans (by kernel_rfl:Tryz.prog.cellsOf 25=7)
 have hx:xs.length=7:=hx
 match cs,hlen with
 | [c0,c1,c2,c3,c4,c5,c6],_ =>
  have g0:DataW.trod enc Tryz.prog W 0 (λ _=>true) true m 3 (([c0,c1,c2,c3,c4,c5,c6].drop 0).take (Tryz.prog.cellsOf 3))=xs[0]?:=hg 0 _ rfl
  rw[(by kernel_rfl:Tryz.prog.cellsOf 3=1),zO q_]at g0
  obtain ⟨z0,p0,r0,o0⟩:=Jb Tryz.underlying3 _ _ _ g0
  have g1:DataW.trod enc Tryz.prog W 0 (λ _=>true) true m 3 (([c0,c1,c2,c3,c4,c5,c6].drop 1).take (Tryz.prog.cellsOf 3))=xs[1]?:=hg 1 _ rfl
  rw[(by kernel_rfl:Tryz.prog.cellsOf 3=1),zO q_]at g1
  obtain ⟨z1,p1,r1,o1⟩:=Jb Tryz.underlying3 _ _ _ g1
  have g2:DataW.trod enc Tryz.prog W 0 (λ _=>true) true m 3 (([c0,c1,c2,c3,c4,c5,c6].drop 2).take (Tryz.prog.cellsOf 3))=xs[2]?:=hg 2 _ rfl
  rw[(by kernel_rfl:Tryz.prog.cellsOf 3=1),zO q_]at g2
  obtain ⟨z2,p2,r2,o2⟩:=Jb Tryz.underlying3 _ _ _ g2
  have g3:DataW.trod enc Tryz.prog W 0 (λ _=>true) true m 22 (([c0,c1,c2,c3,c4,c5,c6].drop 3).take (Tryz.prog.cellsOf 22))=xs[3]?:=hg 3 _ rfl
  rw[(by kernel_rfl:Tryz.prog.cellsOf 22=1),zO q_]at g3
  obtain ⟨z3,p3,r3,o3⟩:=Jb Tryz.underlying22 _ _ _ g3
  have g4:DataW.trod enc Tryz.prog W 0 (λ _=>true) true m 3 (([c0,c1,c2,c3,c4,c5,c6].drop 4).take (Tryz.prog.cellsOf 3))=xs[4]?:=hg 4 _ rfl
  rw[(by kernel_rfl:Tryz.prog.cellsOf 3=1),zO q_]at g4
  obtain ⟨z4,p4,r4,o4⟩:=Jb Tryz.underlying3 _ _ _ g4
  have g5:DataW.trod enc Tryz.prog W 0 (λ _=>true) true m 3 (([c0,c1,c2,c3,c4,c5,c6].drop 5).take (Tryz.prog.cellsOf 3))=xs[5]?:=hg 5 _ rfl
  rw[(by kernel_rfl:Tryz.prog.cellsOf 3=1),zO q_]at g5
  obtain ⟨z5,p5,r5,o5⟩:=Jb Tryz.underlying3 _ _ _ g5
  have g6:DataW.trod enc Tryz.prog W 0 (λ _=>true) true m 23 (([c0,c1,c2,c3,c4,c5,c6].drop 6).take (Tryz.prog.cellsOf 23))=xs[6]?:=hg 6 _ rfl
  rw[(by kernel_rfl:Tryz.prog.cellsOf 23=1),zO q_]at g6
  obtain ⟨z6,p6,r6,o6⟩:=op_steps _ _ _ g6
  refine⟨⟨z0,z1,z2,z3,z4,z5,z6⟩,⟨p0,p1,p2,p3,p4,p5,p6⟩,E,λ c hc=>?_,?_⟩
  ·simp only[yI,xG,vM]at hc
   rcases hc with rfl | rfl | rfl | rfl | rfl | rfl | rfl<;>assumption
  ·simp only[Cj,cellsOf,RdL]
   exact⟨_,_,E,r0,_,_,E,r1,_,_,E,r2,_,_,E,r3,_,_,E,r4,_,_,E,r5,_,_,E,r6,E⟩
end
end Go.Sy.YtiijbikecbjdaaaGreatDoor
namespace Go.Sy
theorem Afe {M:Nat→Prop} {w:World} {sz:Nat} {α:Type} {e:α→SV} {v:Value} (h:v=.slice none 0 0):RdD M w (.sl sz e []) v:=by
 simp only[RdD]
 exact .inl ⟨Y,none,0,h⟩
theorem Ank {C:Cx} {k:List KI} {s:SS} (d:Nat) {sz:Nat} {α β:Type} {e:α→SV} {l:List α} {e':β→SV} {l':List β} (h:s.h d=.row sz e l) (hl:l'.length=l.length)
  (hv:∀ (M:Nat→Prop) (w:World) (i:Nat) (h1:i<l.length) (h2:i<l'.length) (v:Value),RdD M w (e l[i]) v→RdD M w (e' l'[i]) v) (hg:G C k ⟨s.σ,upd s.h d (.row sz e' l')⟩):G C k s:=λ κ a w hs =>
 hg κ a w ⟨hs.defers,hs.size,hs.inv,hs.ctx,hs.slot,λ i=>by
  show ObOK κ w i (upd s.h d (.row sz e' l') i)
  by_cases hi:i=d
  ·subst hi
   rw[Bt]
   have:=hs.obj i
   rw[h]at this
   rcases this with ⟨h1,rfl⟩ | ⟨b,cap,cs,T,fr,e1,e2,e3,e4,e5,e6⟩
   ·exact .inl ⟨h1,zU (by simpa using hl)⟩
   ·refine .inr ⟨b,cap,cs,T,fr,by rw[hl];exact e1,e2,e3,e4,by omega,λ i x hx=>?_⟩
    obtain ⟨hi2,rfl⟩:=hx
    obtain ⟨_,u,hu,hrest⟩:=e6 i (e (l[i]'q_)) ⟨by omega,rfl⟩
    exact⟨hi2,u,hv _ _ i q_ hi2 u hu,hrest⟩
  ·rw[Ck _ _ hi];exact hs.obj i⟩
theorem Asc {κ:Ka} {w:World} {x:SV}:∀ {l:List SV} {cs:List Value} {i:Nat},RdL κ w l cs→(∀ y v,l[i]? = some y→Rd κ w y v→Rd κ w x v)→RdL κ w (l.set i x) cs
 | [],_,_,h,_=>h
 | y::l,cs,0,h,hx=>by
  simp only[RdL,tB]at h ⊢
  obtain ⟨v,r,e1,e2,e3⟩:=h
  exact⟨v,r,e1,hx y v E e2,e3⟩
 | y::l,cs,i+1,h,hx=>by
  simp only[RdL,List.set_cons_succ]at h ⊢
  obtain ⟨v,r,e1,e2,e3⟩:=h
  exact⟨v,r,e1,e2,Asc e3 (λ z u hz hu=>hx z u hz hu)⟩
theorem On {C:Cx} {k:List KI} {s:SS} (b i d sz:Nat) {α:Type} (e:α→SV) {l:List SV} (hb:s.h b=.box l) (h:l[i]? = some (.val (.slice none 0 0))) (hd:s.h d=.fresh) (hbd:Nat.beq b d=false)
  (hg:G C k ⟨s.σ,upd (upd s.h b (.box (l.set i (.osl d)))) d (.row sz e [])⟩):G C k s:=λ κ a w hs=>by
 have hne:b≠d:=λ e=>by rw[e,tA]at hbd;cases hbd
 have hnew:κ d=.new:=by have:=hs.obj d;rwa [hd]at this
 obtain ⟨st,inv⟩:=I8 hs.inv hnew (e:=.nil) (Grew.refl w) (λ b hb=>by cases hb)
 refine hg (Dt κ d .nil) a w ⟨hs.defers,hs.size,inv,hs.ctx.step inv st,λ j=>Rd.step st _ _ (hs.slot j),λ j=>?_⟩
 show ObOK _ w j (upd (upd s.h b (.box (l.set i (.osl d)))) d (.row sz e []) j)
 by_cases hj:j=d
 ·subst hj;rw[Bt];exact .inl ⟨Aw _ _ _,rfl⟩
 ·rw[Ck _ _ hj]
  by_cases hjb:j=b
  ·subst hjb
   rw[Bt]
   have:=ObOK.step st hj _ (hs.obj j)
   rw[hb]at this
   obtain ⟨b',cs,T,fr,e1,e2,e3,e4,e5⟩:=this
   refine⟨b',cs,T,fr,e1,e2,e3,e4,Asc e5 λ y v hy hv=>?_⟩
   rw[h]at hy
   cases hy
   simp only[Rd]at hv
   simp only[Rd,Aw]
   exact hv
  ·rw[Ck _ _ hjb];exact ObOK.step st hj _ (hs.obj j)
theorem Ul {P:Program} (w:World) {t e:TypeId} (h:P.underlying t=some (.slice e)) (ad:Option Addr) (n cap c1 c2:Nat):(Op.equal t (.slice ad n cap) (.slice none c1 c2)).run P w=.ok ad.isNone w:=by
 have key:∀ d,(Op.equalIn (d+1) t (.slice ad n cap) (.slice none c1 c2)).run P w=.ok ad.isNone w:=λ d=>by
  cases ad<;>simp[Op.equalIn,run_underlying h]
 exact key 9999
inductive NilT (s:SS):SV→List Nat→Nat→Prop
 | sl {sz:Nat} {α:Type} {e:α→SV} {l:List α}:NilT s (.sl sz e l) [] l.length
 | row {k sz:Nat} {α:Type} {e:α→SV} {l:List α} (h:s.h k=.row sz e l):NilT s (.osl k) [k] l.length
theorem NilT.at {C:Cx} {s:SS} {κ:Ka} {a:Act} {w:World} {x:Operand} {rd:List Nat} {n:Nat} (hs:St C.F C.n s κ a w) (hx:NilT s (ev s x) rd n):∃ (ad:Option Addr) (m cap:Nat),a.eval x=.slice ad m cap∧(ad.isNone=true→n=0):=by
 have h1:Rd κ w (ev s x) (a.eval x):=hs.ev x
 generalize ev s x=y at *
 cases hx with
 | @sl sz α e l =>
  simp only[Rd,RdD]at h1
  rcases h1 with ⟨rfl,a',cap,h1⟩ | ⟨b,off,cap,h1,_⟩
  ·exact⟨_,_,_,h1,λ _=>rfl⟩
  ·exact⟨_,_,_,h1,λ h=>by cases h⟩
 | @row k' sz α e l hr =>
  have hob:=hs.obj k'
  rw[hr]at hob
  simp only[Rd]at h1
  rcases hob with ⟨hκ,hl⟩ | ⟨b,cap,_,_,_,hκ,_⟩
  ·rw[hκ]at h1
   exact⟨_,_,_,h1,λ _=>by rw[hl];rfl⟩
  ·rw[hκ]at h1
   exact⟨_,_,_,h1,λ h=>by cases h⟩
theorem Ds {C:Cx} {k:List KI} {s:SS} {all:Array Oper} {o:Oper} {rest:List Oper} {op:BinOp} {t yt:TypeId} {ti:TI} {et:TypeId} {sz eb n:Nat} {ez:List Value} {x y:Operand} {rd:List Nat} (h:o.op=.binOp op t x y yt) (hop:op=.eql∨op=.neq)
  (ht:C.Γ.get t=some ti) (hk:ti.k=.slice et sz eb ez) (hy:ev s y=.val (.slice none 0 0)) (hx:NilT s (ev s x) rd n) (hd:Tk C.n o=true) (hw:D6 C.n all o s=some true)
  (hg:∀ b:Bool,(b=true→n=0)→G C (.ops all rest::k) (s.upd o.dst ⟨.val (.bool (if op=.eql then b else !b)),rd,[]⟩)):G C (.ops all (o::rest)::k) s:=λ κ a w hs=>by
 have h2:Rd κ w (ev s y) (a.eval y):=hs.ev y
 rw[hy]at h2
 obtain ⟨ad,m,cap,e1,e2⟩:=hx.at hs
 obtain ⟨d,info,z,k1,k2,_⟩:=C.Γ.ok t ti ht
 rw[hk]at k2
 simp only[TK.ok]at k2
 have hrun:=Ul (P:=C.P) w (t:=t) (e:=et) (by first | exact k2.1 ▸ k1 | (rw[k1,k2.1])) ad m cap 0 0
 have hG:=hg ad.isNone e2
 have hv:=h2.val
 refine wpList_step λ K hK=>?_
 rw[zE (Tx hs (Eb hw).2 (Eb hw).1)]
 have hx':(execOp a.eval o).run C.P w=.ok (.value (.bool (if op=.eql then ad.isNone else !ad.isNone))) w:=by
  rcases hop with rfl | rfl<;>simp[execOp,h,e1,hv,eqGuard,binOp,hrun]
 simp only[Oper.wp,hx',Oper.upon]
 exact hK _ _ (hG κ _ w (hs.put (U:=⟨.val (.bool (if op=.eql then ad.isNone else !ad.isNone)),rd,[]⟩) (Aeo hd) (Step.refl _ κ w) hs.inv (by simp[Rd]) (λ p hp=>by cases hp)))
def KeepL (s:SS):List (Nat × Ob)→Prop
 | []=>True
 | (k,o)::r=>s.h k=o∧KeepL s r
theorem KeepL.all {s:SS}:∀ {l:List (Nat × Ob)},KeepL s l→∀ p∈l,s.h p.1=p.2
 | [],_,p,hp=>by cases hp
 | (k,o)::r,h,p,hp=>by
  rcases yI.1 hp with rfl | hp
  ·exact h.1
  ·exact KeepL.all h.2 p hp
theorem stepD2 {C:Cx} {k:List KI} {s:SS} {all:Array Oper} {done:List Stp} {o:Oper} {rest:List Oper} {U:Up} (hg:Good C.P o s U) (hk:KeepL s U.objs) (hi:all[done.length]? = some o) (hw:D6 C.n all o s=some true)
  (h:DR C k all (done++[⟨done.length,o,⟨U.v,U.rd++U.ws,[]⟩,true⟩]) rest (s.upd o.dst ⟨U.v,U.rd++U.ws,[]⟩)) (hn:(I2 o || Ms o)=false:=by rfl):DR C k all done (o::rest) s :=
 Azj _ (.of2 (hg.keep hk.all) hn) hi (Eb hw).1 h
theorem Zc {κ:Ka} {w w':World} (hi:Inv κ w) (g:Grew w w'):Step (λ _=>False) κ w κ w'∧Inv κ w' :=
 ⟨⟨g.size,g.os,g.tape,g.output,rfl,λ b hb=>g.blk b (hi.mbnd b hb),λ b hb _=>g.blk b hb,λ k b _ hb=>g.blk b (hi.bnd k b hb),λ _ _=>rfl,λ _ h=>h.elim,λ _ h=>.inl h⟩,
  ⟨hi.inj,λ k b h=>yS (hi.bnd k b h) g.size,hi.apart,λ b h=>yS (hi.mbnd b h) g.size⟩⟩
theorem Spec.of_calls {P:Program} {f:FuncId} {A:List SV} {H:Obs} {u:Value}
  (h:∀ (κ:Ka) (w:World) (vs:List Value),Inv κ w→RdL κ w A vs→H.ok κ w→Calls P f vs.toArray w λ e w'=>e=.returned u∧RowKit.Below w.heap.size w w'):Spec P f A H (.val u) H:=by
 intro κ w vs hi _ hr ho
 refine(h κ w vs hi hr ho).mono λ e w' hw=>?_
 obtain ⟨he,hw⟩:=hw
 have g:Grew w w':=⟨hw.os,hw.tape,hw.output,hw.size,hw.block⟩
 have st:=Zc hi g
 exact⟨u,κ,he,(Ctx.refl κ w).step st.2 st.1,st.2,by simp[Rd],λ p hp=>ObOK.step st.1 y_ p.2 (ho p hp)⟩
theorem X4 {P:Program} {o:Oper} {s:SS} {x y:Operand} {at_:Array TypeId} {k k':IntKind} {m n:Int} (h:o.op=.call ⟨.builtin .min,#[x,y],at_⟩)
  (hx:ev s x=.val (.int k m)) (hy:ev s y=.val (.int k' n)):Good P o s ⟨.val (.int k (if n<m then n else m)),[],[]⟩ :=
 Good.pure λ κ a w _ hr ho=>by
  have h1:=hr x (by simp[h,Op.operands,Call.operands])
  have h2:=hr y (by simp[h,Op.operands,Call.operands])
  rw[hx]at h1
  rw[hy]at h2
  refine⟨.int k (if n<m then n else m),?_,by simp[Rd]⟩
  simp[execOp,h,resolve,invoke,builtin,Builtin.min_,Builtin.min2,h1.val,h2.val]
end Go.Sy
namespace Go.Proofs
open Go.Shelf
def Tryz.lays219_ren:Go.Shelf.Ren:=⟨fun | 219=>177 | 217=>250 | 225=>251 | 224=>252 | 267=>253 | 266=>318 | 314=>319 | n=>n,fun | 9=>9 | 3=>3 | 4=>4 | 5=>5 | 46=>165 | 146=>248 | 51=>100 | n=>n,fun | 1=>0 | n=>n⟩
theorem Tryz.lays219:Go.Proofs.Lays.n219 Tryz.prog Tryz.lays219_ren:={
 mixed:=by kernel_rfl
 f217:=Tryz.func250.trans (zG some Go.Sy.z_)
 f219:=Tryz.func177.trans (zG some Go.Sy.z_)
 f224:=Tryz.func252.trans (zG some Go.Sy.z_)
 f225:=Tryz.func251.trans (zG some Go.Sy.z_)
 f266:=Tryz.func318.trans (zG some Go.Sy.z_)
 f267:=Tryz.func253.trans (zG some Go.Sy.z_)
 f314:=Tryz.func319.trans (zG some Go.Sy.z_)
 t3:=Tryz.underlying3
 a3:=Tryz.isAgg3
 z3:=Tryz.sizeOf3
 v3:=Tryz.zeroValue3
 t4:=Tryz.underlying4
 a4:=Tryz.isAgg4
 z4:=Tryz.sizeOf4
 v4:=Tryz.zeroValue4
 t5:=Tryz.underlying5
 a5:=Tryz.isAgg5
 z5:=Tryz.sizeOf5
 v5:=Tryz.zeroValue5
 t9:=Tryz.underlying9
 a9:=Tryz.isAgg9
 z9:=Tryz.sizeOf9
 v9:=Tryz.zeroValue9
 t46:=Tryz.underlying165
 a46:=Tryz.isAgg165
 z46:=Tryz.sizeOf165
 v46:=Tryz.zeroValue165
 t51:=Tryz.underlying100
 a51:=Tryz.isAgg100
 z51:=Tryz.sizeOf100
 v51:=Tryz.zeroValue100
 t146:=Tryz.underlying248
 a146:=Tryz.isAgg248
 z146:=Tryz.sizeOf248
 v146:=Tryz.zeroValue248
 g1:=by kernel_rfl }
open Go.RowKit Go.Lib in
theorem Tryz.stringslite_Index_one (s:ByteArray) (c:UInt8) (w:World) :
  Calls Tryz.prog 177 #[.string s,.string ⟨#[c]⟩] w λ e w'=>e=.returned (.int .i64 (Lib.indexByte s.data.toList c))∧w'=w:=Any.stringslite_Index_one Tryz.lays219 s c w
def Tryz.lays143_ren:Go.Shelf.Ren:=⟨fun | 143=>295 | 219=>177 | 217=>250 | 225=>251 | 224=>252 | 267=>253 | 266=>318 | 314=>319 | n=>n,fun | 9=>9 | 3=>3 | 4=>4 | 5=>5 | 46=>165 | 146=>248 | 51=>100 | n=>n,fun | 1=>0 | n=>n⟩
theorem Tryz.lays143:Go.Proofs.Lays.n143 Tryz.prog Tryz.lays143_ren:={
 mixed:=by kernel_rfl
 f143:=Tryz.func295.trans (zG some Go.Sy.z_)
 f217:=Tryz.func250.trans (zG some Go.Sy.z_)
 f219:=Tryz.func177.trans (zG some Go.Sy.z_)
 f224:=Tryz.func252.trans (zG some Go.Sy.z_)
 f225:=Tryz.func251.trans (zG some Go.Sy.z_)
 f266:=Tryz.func318.trans (zG some Go.Sy.z_)
 f267:=Tryz.func253.trans (zG some Go.Sy.z_)
 f314:=Tryz.func319.trans (zG some Go.Sy.z_)
 t3:=Tryz.underlying3
 a3:=Tryz.isAgg3
 z3:=Tryz.sizeOf3
 v3:=Tryz.zeroValue3
 t4:=Tryz.underlying4
 a4:=Tryz.isAgg4
 z4:=Tryz.sizeOf4
 v4:=Tryz.zeroValue4
 t5:=Tryz.underlying5
 a5:=Tryz.isAgg5
 z5:=Tryz.sizeOf5
 v5:=Tryz.zeroValue5
 t9:=Tryz.underlying9
 a9:=Tryz.isAgg9
 z9:=Tryz.sizeOf9
 v9:=Tryz.zeroValue9
 t46:=Tryz.underlying165
 a46:=Tryz.isAgg165
 z46:=Tryz.sizeOf165
 v46:=Tryz.zeroValue165
 t51:=Tryz.underlying100
 a51:=Tryz.isAgg100
 z51:=Tryz.sizeOf100
 v51:=Tryz.zeroValue100
 t146:=Tryz.underlying248
 a146:=Tryz.isAgg248
 z146:=Tryz.sizeOf248
 v146:=Tryz.zeroValue248
 g1:=by kernel_rfl }
open Go.RowKit Go.Lib in
theorem Tryz.strings_Index_one (s:ByteArray) (c:UInt8) (w:World) :
  Calls Tryz.prog 295 #[.string s,.string ⟨#[c]⟩] w λ e w'=>e=.returned (.int .i64 (Lib.indexByte s.data.toList c))∧w'=w:=Any.strings_Index_one Tryz.lays143 s c w
def Tryz.lays101_ren:Go.Shelf.Ren:=⟨fun | 101=>220 | 208=>292 | 206=>355 | n=>n,fun | 9=>9 | 4=>4 | 3=>3 | n=>n,fun | n=>n⟩
theorem Tryz.lays101:Go.Proofs.Lays.n101 Tryz.prog Tryz.lays101_ren:={
 mixed:=by kernel_rfl
 f101:=Tryz.func220.trans (zG some Go.Sy.z_)
 f206:=Tryz.func355.trans (zG some Go.Sy.z_)
 f208:=Tryz.func292.trans (zG some Go.Sy.z_)
 t3:=Tryz.underlying3
 a3:=Tryz.isAgg3
 z3:=Tryz.sizeOf3
 v3:=Tryz.zeroValue3
 t4:=Tryz.underlying4
 a4:=Tryz.isAgg4
 z4:=Tryz.sizeOf4
 v4:=Tryz.zeroValue4
 t9:=Tryz.underlying9
 a9:=Tryz.isAgg9
 z9:=Tryz.sizeOf9
 v9:=Tryz.zeroValue9 }
open Go.RowKit Go.Lib in
theorem Tryz.strings_TrimPrefix (s p:ByteArray) (w:World) :
  Calls Tryz.prog 220 #[.string s,.string p] w λ e w'=>e=.returned (.string ⟨(Lib.trimPrefix s.data.toList p.data.toList).toArray⟩)∧w'=w:=Any.strings_TrimPrefix Tryz.lays101 s p w
end Go.Proofs
namespace Go.Sy.YtiijbikecbjdaaaGreatDoor
open Go.Proofs
def Ke (c:UInt8) (l:List UInt8):Nat:=(Lib.indexByte l c).toNat
def Ct (c:UInt8) (l:List UInt8):Nat→List UInt8
 | 0=>l
 | j+1=>(Ct c l j).drop (Ke c (Ct c l j)+1)
def S2 (c:UInt8) (l:List UInt8) (j:Nat):List UInt8:=(Ct c l j).take (Ke c (Ct c l j))
def mkT (l:List UInt8):ByteArray:=⟨l.toArray⟩
def Cp (c:UInt8) (s:ByteArray):List ByteArray :=
 (List.range (s.data.toList.count c)).map (λ j=>mkT (S2 c s.data.toList j))++[mkT (Ct c s.data.toList (s.data.toList.count c))]
theorem I3:∀ {l:List UInt8} {c:UInt8},c∈l→0≤Lib.indexByte l c∧(Lib.indexByte l c).toNat<l.length
 | b::l,c,h=>by
  unfold Lib.indexByte
  by_cases hb:b == c
  ·rw[zE hb];simp
  ·rw[zD hb]
   have hm':c∈l:=by
    rcases yI.1 h with h | h
    ·exact yB (by simp[h]) hb
    ·exact h
   have:=I3 hm'
   rw[zD (by simp;omega)]
   simp only[yN]
   omega
theorem Ql:∀ {l:List UInt8} {c:UInt8},c∈l→(l.drop (Ke c l+1)).count c+1=l.count c
 | b::l,c,h=>by
  unfold Ke Lib.indexByte
  by_cases hb:b == c
  ·rw[zE hb,List.count_cons,zE hb];simp
  ·rw[zD hb]
   have hm':c∈l:=by
    rcases yI.1 h with h | h
    ·exact yB (by simp[h]) hb
    ·exact h
   have h1:=I3 hm'
   rw[zD (by simp;omega),List.count_cons,zD hb,tL,← Ql hm']
   have e:(Lib.indexByte l c+1).toNat=Ke c l+1:=by unfold Ke;omega
   rw[e,List.drop_succ_cons]
theorem We (c:UInt8) (l:List UInt8):∀ j,j≤l.count c→(Ct c l j).count c+j=l.count c
 | 0,_=>rfl
 | j+1,h=>by
  have ih:=We c l j q_
  have hm':c∈Ct c l j:=List.count_pos_iff.1 q_
  have:=Ql hm'
  rw[Ct]
  omega
theorem Aox {c:UInt8} {l:List UInt8} {j:Nat} (h:j<l.count c):c∈Ct c l j :=
 List.count_pos_iff.1 (by have:=We c l j q_;omega)
end Go.Sy.YtiijbikecbjdaaaGreatDoor
namespace Go.Sy.YtiijbikecbjdaaaGreatDoor
open Go.Proofs
attribute [local irreducible] Go.Sy.G Go.Sy.DR
set_option maxRecDepth 20000
set_option maxHeartbeats 4000000
theorem Ie {α:Type} (sz:Nat) (e:α→SV) (l:List α) (i:Int):Sp 60 [.sl sz e l,Aa i] (Ab (An i l.length)):=cT F60 Tryz.ntmps60 λ F hF=>by
 conv=>whnf
 (repeat' (first | (refine⟨λ h=>?_,λ h=>?_⟩<;>(repeat (first | simp only[zQ]at h | simp only[zY]at h))<;>((refine oO ?_))) | (refine Aq rfl (.cons .tmp .nil) ?_ rfl)))
 all_goals (refine zG Ab ?_)
 all_goals grind [An]
theorem Ao9 {α:Type} (sz:Nat) (e:α→SV) (l:List α) (i:Int):Sp 110 [.sl sz e l,Aa i] (Ab (An i l.length)):=cT F110 Tryz.ntmps110 λ F hF=>by
 conv=>whnf
 (repeat' (first | (refine⟨λ h=>?_,λ h=>?_⟩<;>(repeat (first | simp only[zQ]at h | simp only[zY]at h))<;>((refine oO ?_))) | (refine Aq rfl (.cons .tmp .nil) ?_ rfl)))
 all_goals (refine zG Ab ?_)
 all_goals grind [An]
theorem Alb {α:Type} (sz:Nat) (e:α→SV) (l:List α) (i:Int):Sp 116 [.sl sz e l,Aa i] (Ab (An i l.length)):=cT F116 Tryz.ntmps116 λ F hF=>by
 conv=>whnf
 (repeat' (first | (refine⟨λ h=>?_,λ h=>?_⟩<;>(repeat (first | simp only[zQ]at h | simp only[zY]at h))<;>((refine oO ?_))) | (refine Aq rfl (.cons .tmp .nil) ?_ rfl)))
 all_goals (refine zG Ab ?_)
 all_goals grind [An]
theorem S1 {α:Type} (sz:Nat) (e:α→SV) (l:List α) (i:Int):Sp 117 [.sl sz e l,Aa i] (Ab (An i l.length)):=cT F117 Tryz.ntmps117 λ F hF=>by
 conv=>whnf
 (repeat' (first | (refine⟨λ h=>?_,λ h=>?_⟩<;>(repeat (first | simp only[zQ]at h | simp only[zY]at h))<;>((refine oO ?_))) | (refine Aq rfl (.cons .tmp .nil) ?_ rfl)))
 all_goals (refine zG Ab ?_)
 all_goals grind [An]
theorem J2 {α:Type} (sz:Nat) (e:α→SV) (l:List α) (i:Int):Sp 118 [.sl sz e l,Aa i] (Ab (An i l.length)):=cT F118 Tryz.ntmps118 λ F hF=>by
 conv=>whnf
 (repeat' (first | (refine⟨λ h=>?_,λ h=>?_⟩<;>(repeat (first | simp only[zQ]at h | simp only[zY]at h))<;>((refine oO ?_))) | (refine Aq rfl (.cons .tmp .nil) ?_ rfl)))
 all_goals (refine zG Ab ?_)
 all_goals grind [An]
theorem Ao8 {α:Type} (sz:Nat) (e:α→SV) (l:List α) (i:Int):Sp 121 [.sl sz e l,Aa i] (Ab (An i l.length)):=cT F121 Tryz.ntmps121 λ F hF=>by
 conv=>whnf
 (repeat' (first | (refine⟨λ h=>?_,λ h=>?_⟩<;>(repeat (first | simp only[zQ]at h | simp only[zY]at h))<;>((refine oO ?_))) | (refine Aq rfl (.cons .tmp .nil) ?_ rfl)))
 all_goals (refine zG Ab ?_)
 all_goals grind [An]
theorem Ax4 (l:List Int) (x:Int) (hl:Ak l):Sp 115 [.sl 1 Aa l,Aa x] (Aa (Co (· == x) l)):=cT F115 Tryz.ntmps115 λ F hF=>by
 unfold Ak at hl
 conv=>whnf
 refine A5 l.length (λ j=>∀ i (h:i<l.length),i<j→(l[i] == x)=false) (λ j=>[(0,.sl 1 Aa l),(1,Aa x),(7,Aa l.length),(8,Aa j)]) (λ _=>[]) [] (λ i h hj=>yB hj q_) ⟨⟨E,E,E,E,E,E,E,E,Y⟩,Y,E,E⟩ ?_
 intro j hj hI
 refine oO ?_
 (repeat' (first | (refine⟨λ h=>?_,λ h=>?_⟩<;>(repeat (first | simp only[zQ]at h | simp only[zY]at h | simp only[yF]at h | simp only[zL]at h))<;>((refine oO ?_))) | (refine Aq rfl (.cons .tmp .nil) ?_ rfl) | (refine⟨z_,?_⟩;((conv=>whnf))) | (refine⟨by (omega),by (omega),?_⟩;((conv=>whnf))) | (refine⟨by (unfold I64;omega),?_⟩;((conv=>whnf))) | refine A4 [] hI q_ ?_ ⟨⟨rfl,rfl,rfl,rfl,rfl,rfl,rfl,rfl,trivial⟩,trivial,rfl,rfl⟩))
 all_goals try (refine zG Aa ?_)
 ·exact Cr q_ hI (by simpa using h.symm)
 ·intro i hi hij
  rcases vG i j with h1 | h1
  ·exact hI i hi h1
  ·have:i=j:=by omega
   subst this
   simpa using Ne.symm h
 ·exact C7 (λ i hi=>hI i hi q_)
theorem Do (l:List Int) (x:Int) (hl:Ak l):Sp 73 [.sl 1 Aa l,Aa x] (Ab (inB l x)):=cT F73 Tryz.ntmps73 λ F hF=>by
 conv=>whnf
 (repeat' (first | (refine Aq rfl (.cons .tmp .nil) ?_ rfl) | (refine c0 (Ax4 _ _ hl) F115 ?_;((refine oO ?_)))))
 exact zG Ab (Ji _ _).symm
def D0 (p:Port) (v:Int):Bool:=v != 0 && (v == p.native || inB p.tagged v)
theorem Xo (p:Port) (v:Int) (hl:Ak p.tagged):Sp 119 [A3 p,Aa v] (Ab (D0 p v)):=cT F119 Tryz.ntmps119 λ F hF=>by
 conv=>whnf
 (repeat' (first | (refine⟨λ h=>?_,λ h=>?_⟩<;>(repeat (first | simp only[yF]at h | simp only[zL]at h | simp only[yQ]at h | simp only[bne_eq_false_iff_eq]at h))<;>((refine oO ?_))) | (refine Aq rfl (.cons .tmp .nil) ?_ rfl) | (refine c0 (Do _ _ hl) F73 ?_;((refine oO ?_)))))
 all_goals (refine zG Ab ?_)
 all_goals grind [D0]
def Uz (l:List Int) (least most:Int) (i:Nat) (x:Int):Bool:=decide (least≤x) && decide (x≤most) && (i == 0 || decide (nth l ((i:Int)-1)<x))
def Im (l:List Int) (least most:Int):Bool:=decide (0<l.length) && decide (l.length≤16) && Ho (Uz l least most) l
theorem Adk (l:List Int) (least most:Int) (hl:Ak l):Sp 120 [.sl 1 Aa l,Aa least,Aa most] (Ab (Im l least most)):=cT F120 Tryz.ntmps120 λ F hF=>by
 unfold Ak at hl
 conv=>whnf
 refine A5 l.length (λ j=>Hc (Uz l least most) l j) (λ j=>[(0,.sl 1 Aa l),(1,Aa least),(2,Aa most),(9,.sl 1 Aa l),(10,Aa l.length),(11,Aa j)]) (λ _=>[]) [] (Bj _ _) ⟨⟨E,E,E,E,E,E,E,E,E,E,E,E,Y⟩,Y,E,E⟩ ?_
 intro j hj hI
 refine oO ?_
 (repeat' (first | (refine⟨λ h=>?_,λ h=>?_⟩<;>(repeat (first | simp only[zQ]at h | simp only[zY]at h))<;>((refine oO ?_);repeat((first|refine aF ?_|refine aT ?_);(refine oO ?_)))) | (refine Aq rfl (.cons .tmp .nil) ?_ rfl) | (refine⟨z_,?_⟩;((conv=>whnf))) | (refine⟨by (first | (unfold I64;omega) | omega),by (omega),?_⟩;((conv=>whnf))) | (refine⟨by (unfold I64;omega),?_⟩;((conv=>whnf))) | refine A4 [] hI q_ ?_ ⟨⟨rfl,rfl,rfl,rfl,rfl,rfl,rfl,rfl,rfl,rfl,rfl,rfl,trivial⟩,trivial,rfl,rfl⟩))
 all_goals try (refine zG Ab ?_)
 all_goals try simp only[yL,Int.pred_toNat]at *
 ·rw[Im,C1 (i:=j) q_ (by simp[Uz];omega)];simp
 ·rw[Im,C1 (i:=j) q_ (by simp[Uz];omega)];simp
 ·rw[Im,C1 (i:=j) q_ (by simp only[Uz,Aj (show ((j:Int)-1).toNat<l.length by omega),Int.pred_toNat,yL];simp;omega)];simp
 ·exact Bh hI q_ (by simp only[Uz,Aj (show ((j:Int)-1).toNat<l.length by omega),Int.pred_toNat,yL];simp;omega)
 ·exact Bh hI q_ (by simp[Uz];omega)
 ·rw[Im,Er hI q_,wA];simp;omega
 ·rw[Im];simp;omega
theorem Aii (l:List Int) (most:Int) (hl:Ak l):Sp 63 [.sl 1 Aa l,Aa most] (Ab (decide (l.length=0) || Im l 1 most)):=cT F63 Tryz.ntmps63 λ F hF=>by
 conv=>whnf
 (repeat' (first | (refine⟨λ h=>?_,λ h=>?_⟩<;>(repeat (first | simp only[yF]at h | simp only[zL]at h))<;>((refine oO ?_))) | (refine Aq rfl (.cons .tmp .nil) ?_ rfl) | (refine c0 (Adk l 1 most hl) F120 ?_;((refine oO ?_)))))
 all_goals (refine zG Ab ?_)
 all_goals grind
theorem Ht {K:List Nat}:∀ (a b:List SV),By K (a++b)=(By K a && By K b)
 | [],b=>by simp[By]
 | x::a,b=>by simp[By,Ht a b,Bool.and_assoc]
theorem Cs {f:FuncId} {first cap xs:List SV} (hc:(SV.clo (.func f) first cap).inn []=true) (hx:By [] xs=true):By [] (first++xs++cap)=true:=by
 simp only[SV.inn,zH]at hc
 rw[Ht,Ht,hc.1,hc.2,hx]
 rfl
theorem Eh (l:List Domain) (p:Domain→Bool) (f:FuncId) (first cap:List SV) (hc:(SV.clo (.func f) first cap).inn []=true) (hf:∀ x∈l,D9 Tryz.prog f (first++[Ap x]++cap) (Ab (p x))) (hl:Ak l) :
  Sp 178 [.sl 6 Ap l,.clo (.func f) first cap] (Aa (Co p l)):=cT F178 Tryz.ntmps178 λ F hF=>by
 unfold Ak at hl
 have hin:∀ x:Domain,By [] (first++[Ap x]++cap)=true:=λ x=>Cs hc rfl
 conv=>whnf
 refine A5 l.length (λ j=>Hc (λ _ x=>!(p x)) l j) (λ j=>[(0,.sl 6 Ap l),(1,.clo (.func f) first cap),(7,Aa l.length),(8,Aa j)]) (λ _=>[]) [] (Bj _ _) ⟨⟨E,E,A8 _,hc,E,E,E,E,Y⟩,Y,E,E⟩ ?_
 intro j hj hI
 refine oO ?_
 constructor<;>intro h
 ·have h:=zK h
  have hj2:j<l.length:=by omega
  refine oO ?_
  refine⟨E,by omega,by omega,?_⟩
  conv=>whnf
  refine Dj (hf l[j] (zJ hj2)) E E E (by simp only[hin];rfl) E E ?_
  refine oO ?_
  constructor<;>intro h2
  ·refine oO ?_
   refine Aq E (.cons .tmp .nil) (zG Aa ?_) E
   exact Cr hj2 (λ i hi hij=>by simpa using hI i hi hij) h2
  ·refine oO ?_
   refine iW ?_
   exact A4 [] hI hj2 (Bh hI hj2 (by simp[h2])) ⟨⟨E,E,A8 _,hc,E,E,E,E,Y⟩,Y,E,E⟩
 ·have h:=zT h
  refine oO ?_
  refine Aq E (.cons .tmp .nil) (zG Aa ?_) E
  exact C7 (λ i hi=>by simpa using hI i hi q_)
theorem Qx (l:List Port) (p:Port→Bool) (f:FuncId) (first cap:List SV) (hc:(SV.clo (.func f) first cap).inn []=true) (hf:∀ x∈l,D9 Tryz.prog f (first++[A3 x]++cap) (Ab (p x))) (hl:Ak l) :
  Sp 181 [.sl 7 A3 l,.clo (.func f) first cap] (Aa (Co p l)):=cT F181 Tryz.ntmps181 λ F hF=>by
 unfold Ak at hl
 have hin:∀ x:Port,By [] (first++[A3 x]++cap)=true:=λ x=>Cs hc rfl
 conv=>whnf
 refine A5 l.length (λ j=>Hc (λ _ x=>!(p x)) l j) (λ j=>[(0,.sl 7 A3 l),(1,.clo (.func f) first cap),(7,Aa l.length),(8,Aa j)]) (λ _=>[]) [] (Bj _ _) ⟨⟨E,E,A8 _,hc,E,E,E,E,Y⟩,Y,E,E⟩ ?_
 intro j hj hI
 refine oO ?_
 constructor<;>intro h
 ·have h:=zK h
  have hj2:j<l.length:=by omega
  refine oO ?_
  refine⟨E,by omega,by omega,?_⟩
  conv=>whnf
  refine Dj (hf l[j] (zJ hj2)) E E E (by simp only[hin];rfl) E E ?_
  refine oO ?_
  constructor<;>intro h2
  ·refine oO ?_
   refine Aq E (.cons .tmp .nil) (zG Aa ?_) E
   exact Cr hj2 (λ i hi hij=>by simpa using hI i hi hij) h2
  ·refine oO ?_
   refine iW ?_
   exact A4 [] hI hj2 (Bh hI hj2 (by simp[h2])) ⟨⟨E,E,A8 _,hc,E,E,E,E,Y⟩,Y,E,E⟩
 ·have h:=zT h
  refine oO ?_
  refine Aq E (.cons .tmp .nil) (zG Aa ?_) E
  exact C7 (λ i hi=>by simpa using hI i hi q_)
theorem Au5 (l:List Port) (p:Nat→Port→Bool) (f:FuncId) (first cap:List SV) (hc:(SV.clo (.func f) first cap).inn []=true) (hf:∀ i (h:i<l.length),D9 Tryz.prog f (first++[Aa i,A3 l[i]]++cap) (Ab (p i l[i]))) (hl:Ak l) :
  Sp 52 [.sl 7 A3 l,.clo (.func f) first cap] (Ab (Ho p l)):=cT F52 Tryz.ntmps52 λ F hF=>by
 unfold Ak at hl
 have hin:∀ (i:Nat) (x:Port),By [] (first++[Aa i,A3 x]++cap)=true:=λ i x=>Cs hc rfl
 conv=>whnf
 refine A5 l.length (λ j=>Hc p l j) (λ j=>[(0,.sl 7 A3 l),(1,.clo (.func f) first cap),(7,.sl 7 A3 l),(8,Aa l.length),(9,Aa j)]) (λ _=>[]) [] (Bj _ _) ⟨⟨E,E,A8 _,hc,E,E,E,E,E,E,Y⟩,Y,E,E⟩ ?_
 intro j hj hI
 refine oO ?_
 constructor<;>intro h
 ·have h:=zK h
  have hj2:j<l.length:=by omega
  refine oO ?_
  refine⟨E,by omega,by omega,?_⟩
  conv=>whnf
  refine Dj (hf j hj2) E E E (by simp only[hin];rfl) E E ?_
  refine oO ?_
  constructor<;>intro h2
  ·refine oO ?_
   refine Aq E (.cons .tmp .nil) (zG Ab ?_) E
   exact C1 hj2 (by simpa using h2)
  ·refine oO ?_
   refine iW ?_
   exact A4 [] hI hj2 (Bh hI hj2 (by simpa using h2)) ⟨⟨E,E,A8 _,hc,E,E,E,E,E,E,Y⟩,Y,E,E⟩
 ·have h:=zT h
  refine oO ?_
  refine Aq E (.cons .tmp .nil) (zG Ab ?_) E
  exact Er hI q_
theorem Au6 (l:List Link) (p:Nat→Link→Bool) (f:FuncId) (first cap:List SV) (hc:(SV.clo (.func f) first cap).inn []=true) (hf:∀ i (h:i<l.length),D9 Tryz.prog f (first++[Aa i,Bw l[i]]++cap) (Ab (p i l[i]))) (hl:Ak l) :
  Sp 54 [.sl 3 Bw l,.clo (.func f) first cap] (Ab (Ho p l)):=cT F54 Tryz.ntmps54 λ F hF=>by
 unfold Ak at hl
 have hin:∀ (i:Nat) (x:Link),By [] (first++[Aa i,Bw x]++cap)=true:=λ i x=>Cs hc rfl
 conv=>whnf
 refine A5 l.length (λ j=>Hc p l j) (λ j=>[(0,.sl 3 Bw l),(1,.clo (.func f) first cap),(7,.sl 3 Bw l),(8,Aa l.length),(9,Aa j)]) (λ _=>[]) [] (Bj _ _) ⟨⟨E,E,A8 _,hc,E,E,E,E,E,E,Y⟩,Y,E,E⟩ ?_
 intro j hj hI
 refine oO ?_
 constructor<;>intro h
 ·have h:=zK h
  have hj2:j<l.length:=by omega
  refine oO ?_
  refine⟨E,by omega,by omega,?_⟩
  conv=>whnf
  refine Dj (hf j hj2) E E E (by simp only[hin];rfl) E E ?_
  refine oO ?_
  constructor<;>intro h2
  ·refine oO ?_
   refine Aq E (.cons .tmp .nil) (zG Ab ?_) E
   exact C1 hj2 (by simpa using h2)
  ·refine oO ?_
   refine iW ?_
   exact A4 [] hI hj2 (Bh hI hj2 (by simpa using h2)) ⟨⟨E,E,A8 _,hc,E,E,E,E,E,E,Y⟩,Y,E,E⟩
 ·have h:=zT h
  refine oO ?_
  refine Aq E (.cons .tmp .nil) (zG Ab ?_) E
  exact Er hI q_
theorem Abd (l:List Domain) (p:Nat→Domain→Bool) (f:FuncId) (first cap:List SV) (hc:(SV.clo (.func f) first cap).inn []=true) (hf:∀ i (h:i<l.length),D9 Tryz.prog f (first++[Aa i,Ap l[i]]++cap) (Ab (p i l[i]))) (hl:Ak l) :
  Sp 49 [.sl 6 Ap l,.clo (.func f) first cap] (Ab (Ho p l)):=cT F49 Tryz.ntmps49 λ F hF=>by
 unfold Ak at hl
 have hin:∀ (i:Nat) (x:Domain),By [] (first++[Aa i,Ap x]++cap)=true:=λ i x=>Cs hc rfl
 conv=>whnf
 refine A5 l.length (λ j=>Hc p l j) (λ j=>[(0,.sl 6 Ap l),(1,.clo (.func f) first cap),(7,.sl 6 Ap l),(8,Aa l.length),(9,Aa j)]) (λ _=>[]) [] (Bj _ _) ⟨⟨E,E,A8 _,hc,E,E,E,E,E,E,Y⟩,Y,E,E⟩ ?_
 intro j hj hI
 refine oO ?_
 constructor<;>intro h
 ·have h:=zK h
  have hj2:j<l.length:=by omega
  refine oO ?_
  refine⟨E,by omega,by omega,?_⟩
  conv=>whnf
  refine Dj (hf j hj2) E E E (by simp only[hin];rfl) E E ?_
  refine oO ?_
  constructor<;>intro h2
  ·refine oO ?_
   refine Aq E (.cons .tmp .nil) (zG Ab ?_) E
   exact C1 hj2 (by simpa using h2)
  ·refine oO ?_
   refine iW ?_
   exact A4 [] hI hj2 (Bh hI hj2 (by simpa using h2)) ⟨⟨E,E,A8 _,hc,E,E,E,E,E,E,Y⟩,Y,E,E⟩
 ·have h:=zT h
  refine oO ?_
  refine Aq E (.cons .tmp .nil) (zG Ab ?_) E
  exact Er hI q_
theorem Ane (l:List Static) (p:Nat→Static→Bool) (f:FuncId) (first cap:List SV) (hc:(SV.clo (.func f) first cap).inn []=true) (hf:∀ i (h:i<l.length),D9 Tryz.prog f (first++[Aa i,Az l[i]]++cap) (Ab (p i l[i]))) (hl:Ak l) :
  Sp 56 [.sl 4 Az l,.clo (.func f) first cap] (Ab (Ho p l)):=cT F56 Tryz.ntmps56 λ F hF=>by
 unfold Ak at hl
 have hin:∀ (i:Nat) (x:Static),By [] (first++[Aa i,Az x]++cap)=true:=λ i x=>Cs hc rfl
 conv=>whnf
 refine A5 l.length (λ j=>Hc p l j) (λ j=>[(0,.sl 4 Az l),(1,.clo (.func f) first cap),(7,.sl 4 Az l),(8,Aa l.length),(9,Aa j)]) (λ _=>[]) [] (Bj _ _) ⟨⟨E,E,A8 _,hc,E,E,E,E,E,E,Y⟩,Y,E,E⟩ ?_
 intro j hj hI
 refine oO ?_
 constructor<;>intro h
 ·have h:=zK h
  have hj2:j<l.length:=by omega
  refine oO ?_
  refine⟨E,by omega,by omega,?_⟩
  conv=>whnf
  refine Dj (hf j hj2) E E E (by simp only[hin];rfl) E E ?_
  refine oO ?_
  constructor<;>intro h2
  ·refine oO ?_
   refine Aq E (.cons .tmp .nil) (zG Ab ?_) E
   exact C1 hj2 (by simpa using h2)
  ·refine oO ?_
   refine iW ?_
   exact A4 [] hI hj2 (Bh hI hj2 (by simpa using h2)) ⟨⟨E,E,A8 _,hc,E,E,E,E,E,E,Y⟩,Y,E,E⟩
 ·have h:=zT h
  refine oO ?_
  refine Aq E (.cons .tmp .nil) (zG Ab ?_) E
  exact Er hI q_
theorem Aqu (l:List Flood) (p:Nat→Flood→Bool) (f:FuncId) (first cap:List SV) (hc:(SV.clo (.func f) first cap).inn []=true) (hf:∀ i (h:i<l.length),D9 Tryz.prog f (first++[Aa i,Be l[i]]++cap) (Ab (p i l[i]))) (hl:Ak l) :
  Sp 58 [.sl 4 Be l,.clo (.func f) first cap] (Ab (Ho p l)):=cT F58 Tryz.ntmps58 λ F hF=>by
 unfold Ak at hl
 have hin:∀ (i:Nat) (x:Flood),By [] (first++[Aa i,Be x]++cap)=true:=λ i x=>Cs hc rfl
 conv=>whnf
 refine A5 l.length (λ j=>Hc p l j) (λ j=>[(0,.sl 4 Be l),(1,.clo (.func f) first cap),(7,.sl 4 Be l),(8,Aa l.length),(9,Aa j)]) (λ _=>[]) [] (Bj _ _) ⟨⟨E,E,A8 _,hc,E,E,E,E,E,E,Y⟩,Y,E,E⟩ ?_
 intro j hj hI
 refine oO ?_
 constructor<;>intro h
 ·have h:=zK h
  have hj2:j<l.length:=by omega
  refine oO ?_
  refine⟨E,by omega,by omega,?_⟩
  conv=>whnf
  refine Dj (hf j hj2) E E E (by simp only[hin];rfl) E E ?_
  refine oO ?_
  constructor<;>intro h2
  ·refine oO ?_
   refine Aq E (.cons .tmp .nil) (zG Ab ?_) E
   exact C1 hj2 (by simpa using h2)
  ·refine oO ?_
   refine iW ?_
   exact A4 [] hI hj2 (Bh hI hj2 (by simpa using h2)) ⟨⟨E,E,A8 _,hc,E,E,E,E,E,E,Y⟩,Y,E,E⟩
 ·have h:=zT h
  refine oO ?_
  refine Aq E (.cons .tmp .nil) (zG Ab ?_) E
  exact Er hI q_
theorem Ay8 (l:List Vrf) (p:Nat→Vrf→Bool) (f:FuncId) (first cap:List SV) (hc:(SV.clo (.func f) first cap).inn []=true) (hf:∀ i (h:i<l.length),D9 Tryz.prog f (first++[Aa i,Ca l[i]]++cap) (Ab (p i l[i]))) (hl:Ak l) :
  Sp 61 [.sl 5 Ca l,.clo (.func f) first cap] (Ab (Ho p l)):=cT F61 Tryz.ntmps61 λ F hF=>by
 unfold Ak at hl
 have hin:∀ (i:Nat) (x:Vrf),By [] (first++[Aa i,Ca x]++cap)=true:=λ i x=>Cs hc rfl
 conv=>whnf
 refine A5 l.length (λ j=>Hc p l j) (λ j=>[(0,.sl 5 Ca l),(1,.clo (.func f) first cap),(7,.sl 5 Ca l),(8,Aa l.length),(9,Aa j)]) (λ _=>[]) [] (Bj _ _) ⟨⟨E,E,A8 _,hc,E,E,E,E,E,E,Y⟩,Y,E,E⟩ ?_
 intro j hj hI
 refine oO ?_
 constructor<;>intro h
 ·have h:=zK h
  have hj2:j<l.length:=by omega
  refine oO ?_
  refine⟨E,by omega,by omega,?_⟩
  conv=>whnf
  refine Dj (hf j hj2) E E E (by simp only[hin];rfl) E E ?_
  refine oO ?_
  constructor<;>intro h2
  ·refine oO ?_
   refine Aq E (.cons .tmp .nil) (zG Ab ?_) E
   exact C1 hj2 (by simpa using h2)
  ·refine oO ?_
   refine iW ?_
   exact A4 [] hI hj2 (Bh hI hj2 (by simpa using h2)) ⟨⟨E,E,A8 _,hc,E,E,E,E,E,E,Y⟩,Y,E,E⟩
 ·have h:=zT h
  refine oO ?_
  refine Aq E (.cons .tmp .nil) (zG Ab ?_) E
  exact Er hI q_
theorem Ay9 (l:List Irb) (p:Nat→Irb→Bool) (f:FuncId) (first cap:List SV) (hc:(SV.clo (.func f) first cap).inn []=true) (hf:∀ i (h:i<l.length),D9 Tryz.prog f (first++[Aa i,B3 l[i]]++cap) (Ab (p i l[i]))) (hl:Ak l) :
  Sp 64 [.sl 5 B3 l,.clo (.func f) first cap] (Ab (Ho p l)):=cT F64 Tryz.ntmps64 λ F hF=>by
 unfold Ak at hl
 have hin:∀ (i:Nat) (x:Irb),By [] (first++[Aa i,B3 x]++cap)=true:=λ i x=>Cs hc rfl
 conv=>whnf
 refine A5 l.length (λ j=>Hc p l j) (λ j=>[(0,.sl 5 B3 l),(1,.clo (.func f) first cap),(7,.sl 5 B3 l),(8,Aa l.length),(9,Aa j)]) (λ _=>[]) [] (Bj _ _) ⟨⟨E,E,A8 _,hc,E,E,E,E,E,E,Y⟩,Y,E,E⟩ ?_
 intro j hj hI
 refine oO ?_
 constructor<;>intro h
 ·have h:=zK h
  have hj2:j<l.length:=by omega
  refine oO ?_
  refine⟨E,by omega,by omega,?_⟩
  conv=>whnf
  refine Dj (hf j hj2) E E E (by simp only[hin];rfl) E E ?_
  refine oO ?_
  constructor<;>intro h2
  ·refine oO ?_
   refine Aq E (.cons .tmp .nil) (zG Ab ?_) E
   exact C1 hj2 (by simpa using h2)
  ·refine oO ?_
   refine iW ?_
   exact A4 [] hI hj2 (Bh hI hj2 (by simpa using h2)) ⟨⟨E,E,A8 _,hc,E,E,E,E,E,E,Y⟩,Y,E,E⟩
 ·have h:=zT h
  refine oO ?_
  refine Aq E (.cons .tmp .nil) (zG Ab ?_) E
  exact Er hI q_
theorem Ay7 (l:List Int) (p:Nat→Int→Bool) (f:FuncId) (first cap:List SV) (hc:(SV.clo (.func f) first cap).inn []=true) (hf:∀ i (h:i<l.length),D9 Tryz.prog f (first++[Aa i,Aa l[i]]++cap) (Ab (p i l[i]))) (hl:Ak l) :
  Sp 112 [.sl 1 Aa l,.clo (.func f) first cap] (Ab (Ho p l)):=cT F112 Tryz.ntmps112 λ F hF=>by
 unfold Ak at hl
 have hin:∀ (i:Nat) (x:Int),By [] (first++[Aa i,Aa x]++cap)=true:=λ i x=>Cs hc rfl
 conv=>whnf
 refine A5 l.length (λ j=>Hc p l j) (λ j=>[(0,.sl 1 Aa l),(1,.clo (.func f) first cap),(7,.sl 1 Aa l),(8,Aa l.length),(9,Aa j)]) (λ _=>[]) [] (Bj _ _) ⟨⟨E,E,A8 _,hc,E,E,E,E,E,E,Y⟩,Y,E,E⟩ ?_
 intro j hj hI
 refine oO ?_
 constructor<;>intro h
 ·have h:=zK h
  have hj2:j<l.length:=by omega
  refine oO ?_
  refine⟨E,by omega,by omega,?_⟩
  conv=>whnf
  refine Dj (hf j hj2) E E E (by simp only[hin];rfl) E E ?_
  refine oO ?_
  constructor<;>intro h2
  ·refine oO ?_
   refine Aq E (.cons .tmp .nil) (zG Ab ?_) E
   exact C1 hj2 (by simpa using h2)
  ·refine oO ?_
   refine iW ?_
   exact A4 [] hI hj2 (Bh hI hj2 (by simpa using h2)) ⟨⟨E,E,A8 _,hc,E,E,E,E,E,E,Y⟩,Y,E,E⟩
 ·have h:=zT h
  refine oO ?_
  refine Aq E (.cons .tmp .nil) (zG Ab ?_) E
  exact Er hI q_
structure Net.Fin (n:Net):Prop where
 devices:Ak n.devices
 ports:Ak n.ports
 links:Ak n.links
 domains:Ak n.domains
 statics:Ak n.statics
 floods:Ak n.floods
 vrfs:Ak n.vrfs
 irbs:Ak n.irbs
 tagged:∀ p∈n.ports,Ak p.tagged
 peers:∀ d∈n.domains,Ak d.peers
 addrs:∀ f∈n.floods,Ak f.addrs
 imports:∀ v∈n.vrfs,Ak v.imports
 exports:∀ v∈n.vrfs,Ak v.exports
def Jm (n:Net) (dev vlan:Int):Int:=Co (λ d=>d.dev == dev && d.vlan == vlan) n.domains
theorem A0z (dev vlan:Int) (d:Domain):Sp 179 [Ap d,.ref 1 (Aa dev) 0,.ref 1 (Aa vlan) 0] (Ab (d.dev == dev && d.vlan == vlan)):=cT F179 Tryz.ntmps179 λ F hF=>by
 conv=>whnf
 (repeat' (first | (refine⟨λ h=>?_,λ h=>?_⟩<;>(repeat (first | simp only[yF]at h | simp only[zL]at h))<;>((refine oO ?_))) | (refine Aq rfl (.cons .tmp .nil) ?_ rfl)))
 all_goals (refine zG Ab ?_)
 all_goals simp_all
theorem Qc (n:Net) (dev vlan:Int) (hl:Ak n.domains):Sp 111 [Al n,Aa dev,Aa vlan] (Aa (Jm n dev vlan)):=cT F111 Tryz.ntmps111 λ F hF=>by
 conv=>whnf
 refine A7 4 1 (Aa dev) E E E ?_
 refine A7 5 1 (Aa vlan) E E E ?_
 refine c0 (Eh n.domains (λ d=>d.dev == dev && d.vlan == vlan) 179 [] [.ref 1 (Aa dev) 0,.ref 1 (Aa vlan) 0] E (λ d _=>⟨⟨_,_,F179⟩,A0z dev vlan d⟩) hl) F178 ?_
 refine oO ?_
 exact dN
def Aqb (n:Net):Bool:=decide (n.devices.length≤8) && decide (n.ports.length≤40) && decide (n.links.length≤20) && decide (n.domains.length≤48) && decide (n.statics.length≤64) && decide (n.floods.length≤48) && decide (n.vrfs.length≤16) && decide (n.irbs.length≤48)
theorem fewS (n:Net):Sp 48 [Al n] (Ab (Aqb n)):=cT F48 Tryz.ntmps48 λ F hF=>by
 conv=>whnf
 (repeat' (first | (refine⟨λ h=>?_,λ h=>?_⟩<;>(repeat (first | simp only[zQ]at h | simp only[zY]at h))<;>((refine oO ?_);repeat((refine aF ?_);(refine oO ?_)))) | (refine Aq rfl (.cons .tmp .nil) ?_ rfl)))
 all_goals (refine zG Ab ?_)
 all_goals (unfold Aqb;rw[wA];simp;omega)
def Q2 (n:Net) (i:Nat) (d:Domain):Bool :=
 An d.dev n.devices.length && decide (1≤d.vlan) && decide (d.vlan≤4094) && decide (0≤d.vni) && decide (d.vni≤16777215) && (d.irb == -1 || An d.irb n.irbs.length && (nth n.irbs d.irb).domain == i) && Jm n d.dev d.vlan == i
theorem bareS (n:Net) (i:Nat) (d:Domain) (hl:Ak n.domains):Sp 50 [Al n,Aa i,Ap d] (Ab (Q2 n i d)):=cT F50 Tryz.ntmps50 λ F hF=>by
 conv=>whnf
 (repeat' (first | (refine⟨λ h=>?_,λ h=>?_⟩<;>(repeat (first | simp only[An]at h | simp only[zQ]at h | simp only[zY]at h | simp only[yF]at h | simp only[zL]at h | simp only[zH]at h | simp only[yU]at h))<;>((refine oO ?_);repeat((first|refine aF ?_|refine aT ?_);(refine oO ?_)))) | (refine Aq rfl (.cons .tmp .nil) ?_ rfl) | (refine⟨z_,?_⟩;((conv=>whnf))) | (refine⟨by (omega),by (omega),?_⟩;((conv=>whnf))) | (refine c0 (Ie 5 Au n.devices d.dev) F60 ?_;((refine oO ?_))) | (refine c0 (Ao9 5 B3 n.irbs d.irb) F110 ?_;((refine oO ?_))) | (refine c0 (Qc n d.dev d.vlan hl) F111 ?_;((refine oO ?_)))))
 all_goals (refine zG Ab ?_)
 all_goals (clear hF;grind [Q2,An,Aj])
def Aq0 (n:Net) (d:Domain):Bool:=(nth n.devices d.dev).vtep != 0
theorem A1k (n:Net) (d:Domain) (hd:An d.dev n.devices.length=true):Sp 180 [Al n,Ap d] (Ab (Aq0 n d)):=cT F180 Tryz.ntmps180 λ F hF=>by
 simp only[An,zH,zQ]at hd
 conv=>whnf
 (repeat' (first | (refine Aq rfl (.cons .tmp .nil) ?_ rfl) | (refine⟨z_,?_⟩;((conv=>whnf))) | (refine⟨by (omega),by (omega),?_⟩;((conv=>whnf)))))
 all_goals (refine zG Ab ?_)
 all_goals (clear hF;grind [Aq0,Aj])
def Adg (n:Net) (i:Nat) (d:Domain) (k:Int):Bool :=
 An k n.domains.length && k != i && An (nth n.domains k).dev n.devices.length && (nth n.domains k).dev != d.dev && (nth n.domains k).vni == d.vni && d.vni != 0 && Aq0 n (nth n.domains k) && Aq0 n d && inB (nth n.domains k).peers i
theorem peerS (n:Net) (i:Nat) (d:Domain) (k:Int) (hn:n.Fin) (hd:An d.dev n.devices.length=true):Sp 114 [Al n,Aa i,Ap d,Aa k] (Ab (Adg n i d k)):=cT F114 Tryz.ntmps114 λ F hF=>by
 conv=>whnf
 (repeat' (first | (refine⟨λ h=>?_,λ h=>?_⟩<;>(repeat (first | simp only[An]at h | simp only[zQ]at h | simp only[zY]at h | simp only[yF]at h | simp only[zL]at h | simp only[yQ]at h | simp only[bne_eq_false_iff_eq]at h | simp only[zH]at h | simp only[yU]at h | simp only[yX]at h | simp only[wT]at h))<;>((refine oO ?_);repeat((first|refine aF ?_|refine aT ?_);(refine oO ?_)))) | (refine Aq rfl (.cons .tmp .nil) ?_ rfl) | (refine⟨z_,?_⟩;((conv=>whnf))) | (refine⟨by (omega),by (omega),?_⟩;((conv=>whnf))) | (refine c0 (J2 6 Ap n.domains k) F118 ?_;((refine oO ?_))) | (refine c0 (Ie 5 Au n.devices (n.domains[k.toNat]'q_).dev) F60 ?_;((refine oO ?_))) | (refine c0 (A1k n (n.domains[k.toNat]'q_) (by simp only[An,zH,zQ];omega)) F180 ?_;((refine oO ?_))) | (refine c0 (A1k n d hd) F180 ?_;((refine oO ?_))) | (refine c0 (Do (n.domains[k.toNat]'q_).peers i (hn.peers _ (zJ _))) F73 ?_;((refine oO ?_)))))
 all_goals (refine zG Ab ?_;clear hF;grind [Adg,An,Aj])
def Apa (n:Net) (i:Nat) (d:Domain):Bool:=Ho (λ at_ k=>Adg n i d k && Co (· == k) d.peers == at_) d.peers
theorem peers1 (n:Net) (i:Nat) (d:Domain) (at_:Nat) (k:Int) (hn:n.Fin) (hp:Ak d.peers) (hd:An d.dev n.devices.length=true) :
  Sp 113 [Aa at_,Aa k,.ref 8 (Al n) 0,.ref 1 (Aa i) 0,.ref 6 (Ap d) 0] (Ab (Adg n i d k && Co (· == k) d.peers == at_)):=cT F113 Tryz.ntmps113 λ F hF=>by
 conv=>whnf
 (repeat' (first | (refine⟨λ h=>?_,λ h=>?_⟩<;>((refine oO ?_))) | (refine Aq rfl (.cons .tmp .nil) ?_ rfl) | (refine c0 (peerS n i d k hn hd) F114 ?_;((refine oO ?_))) | (refine c0 (Ax4 d.peers k hp) F115 ?_;((refine oO ?_)))))
 all_goals (refine zG Ab ?_;clear hF;grind)
theorem peersS (n:Net) (i:Nat) (d:Domain) (hn:n.Fin) (hp:Ak d.peers) (hd:An d.dev n.devices.length=true):Sp 51 [Al n,Aa i,Ap d] (Ab (Apa n i d)):=cT F51 Tryz.ntmps51 λ F hF=>by
 conv=>whnf
 refine A7 3 8 (Al n) E E E ?_
 refine A7 4 1 (Aa i) E E E ?_
 refine A7 5 6 (Ap d) E E E ?_
 refine c0 (Ay7 d.peers (λ at_ k=>Adg n i d k && Co (· == k) d.peers == at_) 113 [] [.ref 8 (Al n) 0,.ref 1 (Aa i) 0,.ref 6 (Ap d) 0] E (λ a ha=>⟨⟨_,_,F113⟩,peers1 n i d a d.peers[a] hn hp hd⟩) hp) F112 ?_
 refine oO ?_
 exact dN
end Go.Sy.YtiijbikecbjdaaaGreatDoor
namespace Go.Sy.YtiijbikecbjdaaaGreatDoor
open Go.Proofs
def Aqm (c:UInt8) (s:ByteArray):Nat:=s.data.toList.count c
theorem J0 (c:UInt8) (s:ByteArray):(Cp c s).length=Aqm c s+1:=by simp only[Cp,yE,xJ,List.length_range,yK];rfl
theorem Aky (c:UInt8) (l:List UInt8):∀ j,(Ct c l j).length≤l.length
 | 0=>yC _
 | j+1=>by rw[Ct,yM];have:=Aky c l j;omega
theorem Aek {a b:ByteArray} (h:a.data.toList=b.data.toList):a=b:=by
 cases a;cases b;simp only[ByteArray.mk.injEq];exact Array.toList_inj.1 h
theorem Hr (l:List UInt8):(mkT l).size=l.length:=by simp[mkT,ByteArray.size]
theorem Je (l:List UInt8):(mkT l).data.toList=l:=by simp[mkT]
theorem Eg (l:List UInt8) (i j:Nat):(mkT l).extract i j=mkT ((l.take j).drop i):=by
 apply Aek
 simp[mkT,ByteArray.data_extract,List.extract_eq_take_drop,List.drop_take]
theorem Jd (s:ByteArray):mkT s.data.toList=s:=Aek (by simp[mkT])
theorem Awz {c:UInt8} {s:ByteArray} {j m:Nat} (h:Lib.indexByte (Ct c s.data.toList j) c=m):S2 c s.data.toList j=(Ct c s.data.toList j).take m:=by
 rw[S2,Ke,h,yL]
theorem Az4 {c:UInt8} {s:ByteArray} {j m:Nat} (h:Lib.indexByte (Ct c s.data.toList j) c=m):Ct c s.data.toList (j+1)=(Ct c s.data.toList j).drop (m+1):=by
 rw[Ct,Ke,h,yL]
end Go.Sy.YtiijbikecbjdaaaGreatDoor
namespace Go.Sy.YtiijbikecbjdaaaGreatDoor
open Go.Proofs
attribute [local irreducible] Go.Sy.G Go.Sy.DR
set_option maxRecDepth 20000
set_option maxHeartbeats 4000000
def Jp (c:UInt8):Bool:=decide (48≤c.toNat) && decide (c.toNat≤57)
def Vu (s:ByteArray):Nat→Int
 | 0=>0
 | j+1=>10 * Vu s j+((Bn s j).toNat-48)
def Amv (s:ByteArray):Bool:=(List.range s.size).all λ i=>Jp (Bn s i)
def smallT (s:ByteArray) (most:Int):Int × Bool :=
 if s.size=0∨3<s.size∨(1<s.size∧(Bn s 0).toNat=48)∨Amv s=false then (0,false) else (Vu s s.size,decide (Vu s s.size≤most))
theorem Yg {s:ByteArray} {i:Nat} (hi:i<s.size) (h:Jp (Bn s i)=false):Amv s=false:=by
 rw[Amv,List.all_eq_false]
 exact⟨i,by simpa using hi,by simp[h]⟩
theorem Ahn {s:ByteArray} (h:∀ i,i<s.size→Jp (Bn s i)=true):Amv s=true:=by
 rw[Amv,yT]
 intro i hi
 exact h i (by simpa using hi)
theorem digB_iff {c:UInt8}:Jp c=true↔48≤c.toNat∧c.toNat≤57:=by simp[Jp]
theorem Ah4 {s:ByteArray}:∀ {j:Nat},(∀ i,i<j→Jp (Bn s i)=true)→0≤Vu s j∧Vu s j<10 ^ j
 | 0,_=>by simp[Vu]
 | j+1,h=>by
  have ih:=Ah4 (s:=s) (j:=j) (λ i hi=>h i q_)
  have hd:=digB_iff.1 (h j q_)
  rw[Vu]
  have e:(10:Int) ^ (j+1)=10 * 10 ^ j:=by rw[Int.pow_succ];omega
  rw[e]
  omega
theorem Avs {n:Nat} (h:48≤n) (h2:n<256):IntKind.u8.wrap ((n:Int)-48)=(n:Int)-48:=by
 rw[IntKind.wrap_u8]
 omega
theorem Ax6 {n:Int} (h:0≤n) (h2:n<256):IntKind.i64.wrap n=n:=by
 rw[IntKind.wrap_i64]
 omega
theorem Afa (s:ByteArray) (most:Int):Sp 167 [Ao s,Aa most] (.tup [Aa (smallT s most).1,Ab (smallT s most).2]):=cT F167 Tryz.ntmps167 λ F hF=>by
 have hlk:=smallT.eq_1 s most
 generalize smallT s most=res at *
 refine fW ?_
 constructor<;>intro h
 ·have h1:s.size=0:=by simpa using h
  rw[zE (.inl h1)]at hlk
  subst hlk
  refine fU ?_
  exact dN
 have h1:¬ s.size=0:=by simpa using h
 refine fU ?_
 constructor<;>intro h
 ·have h2:3<s.size:=qA h
  rw[zE (.inr (.inl h2))]at hlk
  subst hlk
  refine fU ?_
  exact dN
 have h2:¬ 3<s.size:=qB h
 refine fU ?_
 constructor<;>intro h
 ·have h3:1<s.size:=qA h
  refine fU ?_
  refine⟨by decide,by simp;omega,?_⟩
  refine fW ?_
  constructor<;>intro h
  ·have h4:(Bn s 0).toNat=48:=by have:=h;simp at this;omega
   rw[zE (.inr (.inr (.inl ⟨h3,h4⟩)))]at hlk
   subst hlk
   refine fU ?_
   exact dN
  have h34:¬ (1<s.size∧(Bn s 0).toNat=48):=by
   intro e
   have:=h
   simp at this
   omega
  refine fU ?_
  refine A5 s.size (λ j=>∀ i,i<j→Jp (Bn s i)=true) (λ j=>[(0,Ao s),(1,Aa most),(6,Aa (Vu s j)),(27,Aa s.size),(28,Aa j)]) (λ _=>[]) [] (λ i hi=>yB hi q_) ⟨⟨E,E,E,E,E,E,E,E,E,E,Y⟩,Y,E,E⟩ ?_
  intro j hj hI
  have hv:=Ah4 hI
  have hp:(10:Int) ^ j≤1000:=by
   have:j=0∨j=1∨j=2∨j=3:=by omega
   rcases this with rfl | rfl | rfl | rfl<;>decide
  have hsu:Vu s (j+1)=10 * Vu s j+((Bn s j).toNat-48):=rfl
  have hjn:((j:Nat):Int).toNat=j:=yL j
  have hb:=(Bn s j).toNat_lt
  generalize hvj:Vu s j=v at *
  refine fU ?_
  constructor<;>intro h
  ·have hlt:j<s.size:=by simpa using h
   refine fU ?_
   refine⟨by omega,by simpa using hlt,?_⟩
   rw[hjn]
   refine fW ?_
   constructor<;>intro h
   ·have h5:¬ 48≤(Bn s j).toNat:=qA h
    rw[zE (.inr (.inr (.inr (Yg hlt (by simp only[Jp,yU,zY];exact .inl h5)))))]at hlk
    subst hlk
    refine fU ?_
    exact dN
   have h5:48≤(Bn s j).toNat:=qB h
   refine fU ?_
   refine⟨by omega,by simpa using hlt,?_⟩
   rw[hjn]
   refine fW ?_
   constructor<;>intro h
   ·have h6:¬ (Bn s j).toNat≤57:=qA h
    rw[zE (.inr (.inr (.inr (Yg hlt (by simp only[Jp,yU,zY];exact .inr h6)))))]at hlk
    subst hlk
    refine fU ?_
    exact dN
   have h6:(Bn s j).toNat≤57:=qB h
   refine fU ?_
   refine iL ?_
   refine fW ?_
   refine⟨by omega,by simpa using hlt,?_⟩
   rw[hjn]
   refine fW ?_
   rw[Avs h5 hb,Ax6 q_ q_]
   refine iL ?_
   refine fW ?_
   refine iL ?_
   refine fW ?_
   refine A4 [] hI q_ (λ i hi=>?_) ⟨⟨E,E,E,E,zG Aa hsu,E,E,E,E,E,Y⟩,Y,E,E⟩
   by_cases hij:i=j
   ·subst hij;exact digB_iff.2 ⟨h5,h6⟩
   ·exact hI i q_
  ·have:j=s.size:=qB h
   subst this
   rw[zD (by rw[Ahn hI];simp only[h1,h2,false_or,Bool.true_eq_false,vM];exact h34),hvj]at hlk
   subst hlk
   refine fU ?_
   exact dN
 ·have h34:¬ (1<s.size∧(Bn s 0).toNat=48):=qB h
  refine fU ?_
  refine A5 s.size (λ j=>∀ i,i<j→Jp (Bn s i)=true) (λ j=>[(0,Ao s),(1,Aa most),(6,Aa (Vu s j)),(27,Aa s.size),(28,Aa j)]) (λ _=>[]) [] (λ i hi=>yB hi q_) ⟨⟨E,E,E,E,E,E,E,E,E,E,Y⟩,Y,E,E⟩ ?_
  intro j hj hI
  have hv:=Ah4 hI
  have hp:(10:Int) ^ j≤1000:=by
   have:j=0∨j=1∨j=2∨j=3:=by omega
   rcases this with rfl | rfl | rfl | rfl<;>decide
  have hsu:Vu s (j+1)=10 * Vu s j+((Bn s j).toNat-48):=rfl
  have hjn:((j:Nat):Int).toNat=j:=yL j
  have hb:=(Bn s j).toNat_lt
  generalize hvj:Vu s j=v at *
  refine fU ?_
  constructor<;>intro h
  ·have hlt:j<s.size:=by simpa using h
   refine fU ?_
   refine⟨by omega,by simpa using hlt,?_⟩
   rw[hjn]
   refine fW ?_
   constructor<;>intro h
   ·have h5:¬ 48≤(Bn s j).toNat:=qA h
    rw[zE (.inr (.inr (.inr (Yg hlt (by simp only[Jp,yU,zY];exact .inl h5)))))]at hlk
    subst hlk
    refine fU ?_
    exact dN
   have h5:48≤(Bn s j).toNat:=qB h
   refine fU ?_
   refine⟨by omega,by simpa using hlt,?_⟩
   rw[hjn]
   refine fW ?_
   constructor<;>intro h
   ·have h6:¬ (Bn s j).toNat≤57:=qA h
    rw[zE (.inr (.inr (.inr (Yg hlt (by simp only[Jp,yU,zY];exact .inr h6)))))]at hlk
    subst hlk
    refine fU ?_
    exact dN
   have h6:(Bn s j).toNat≤57:=qB h
   refine fU ?_
   refine iL ?_
   refine fW ?_
   refine⟨by omega,by simpa using hlt,?_⟩
   rw[hjn]
   refine fW ?_
   rw[Avs h5 hb,Ax6 q_ q_]
   refine iL ?_
   refine fW ?_
   refine iL ?_
   refine fW ?_
   refine A4 [] hI q_ (λ i hi=>?_) ⟨⟨E,E,E,E,zG Aa hsu,E,E,E,E,E,Y⟩,Y,E,E⟩
   by_cases hij:i=j
   ·subst hij;exact digB_iff.2 ⟨h5,h6⟩
   ·exact hI i q_
  ·have:j=s.size:=qB h
   subst this
   rw[zD (by rw[Ahn hI];simp only[h1,h2,false_or,Bool.true_eq_false,vM];exact h34),hvj]at hlk
   subst hlk
   refine fU ?_
   exact dN
end Go.Sy.YtiijbikecbjdaaaGreatDoor
namespace Go.Sy.YtiijbikecbjdaaaGreatDoor
open Go.Proofs
def Q7 {α:Type} (l:List α) (j:Nat):List α:=List.ofFn λ i:Fin l.length=>if i.1<j∨l.length-j≤i.1 then l[l.length-1-i.1] else l[i.1]
theorem Dg {α:Type} (l:List α) (j:Nat):(Q7 l j).length=l.length:=by simp[Q7]
theorem M3 {α:Type} (l:List α) (j i:Nat) (h:i<l.length):(Q7 l j)[i]'(by rw[Dg];exact h)=if i<j∨l.length-j≤i then l[l.length-1-i] else l[i]:=by simp[Q7]
theorem Zh {α:Type} (l:List α):Q7 l 0=l:=by
 apply uW (Dg l 0)
 intro i h1 h2
 rw[M3 l 0 i h2,zD q_]
theorem Ac5 {α:Type} (l:List α) (j:Nat) (h:l.length≤2 * j+1):Q7 l j=l.reverse:=by
 apply uW (by rw[Dg,List.length_reverse])
 intro i h1 h2
 have hi:i<l.length:=by rw[Dg]at h1;exact h1
 rw[M3 l j i hi,List.getElem_reverse]
 split
 ·rfl
 ·congr 1;omega
theorem Atg {α:Type} (l:List α) (j:Nat) (h:2 * j+1<l.length) :
  ((Q7 l j).set j ((Q7 l j)[l.length-1-j]'(by rw[Dg];omega))).set (l.length-1-j) ((Q7 l j)[j]'(by rw[Dg];omega))=Q7 l (j+1):=by
 apply uW (by simp only[yW,Dg])
 intro i h1 h2
 have hi:i<l.length:=by rw[Dg]at h2;exact h2
 rw[tM,tM,M3 l (j+1) i hi,M3 l j i hi,M3 l j _ q_,M3 l j _ q_]
 by_cases e1:l.length-1-j=i
 ·rw[zE e1,zD q_,zE q_]
  congr 1;omega
 ·rw[zD e1]
  by_cases e2:j=i
  ·rw[zE e2,zD q_,zE q_]
   congr 1;omega
  ·rw[zD e2]
   by_cases e3:i<j∨l.length-j≤i
   ·rw[zE e3,zE q_]
   ·rw[zD e3,zD q_]
theorem Zi {α:Type} {l u:List α} {j k:Nat} (hu:Q7 l j=u) (h:2 * j+1<l.length) (hk:l.length-1-j=k) (h1:k<u.length) (h2:j<u.length):(u.set j u[k]).set k u[j]=Q7 l (j+1):=by
 subst hu hk
 exact Atg l j h
def revDigs (u:Nat):List UInt8:=if u<10 then [UInt8.ofNat (48+u)] else UInt8.ofNat (48+u % 10)::revDigs (u / 10)
theorem Sm (u:Nat):0<(revDigs u).length:=by
 rw[revDigs];split<;>simp
theorem Sn:∀ (j u:Nat),j+1<(revDigs u).length↔0<u / 10 ^ (j+1)
 | 0,u=>by
  rw[revDigs]
  split
  ·simp;omega
  ·have:=Sm (u / 10)
   simp only[yN];omega
 | j+1,u=>by
  rw[revDigs]
  have e:u / 10 ^ (j+1+1)=u / 10 / 10 ^ (j+1):=by rw[tC,tW 10 (j+1),vH (10 ^ (j+1))]
  rw[e]
  split
  ·have:u / 10=0:=by omega
   rw[this];simp
  ·rw[yN,← Sn j (u / 10)];omega
theorem So:∀ (j u:Nat) (h:j<(revDigs u).length),(revDigs u)[j]=UInt8.ofNat (48+u / 10 ^ j % 10)
 | 0,u,h=>by
  have e:(revDigs u)[0]=UInt8.ofNat (48+u % 10):=by
   simp only[revDigs.eq_1 u]
   split
   ·show UInt8.ofNat (48+u)=UInt8.ofNat (48+u % 10)
    rw[xU (by assumption)]
   ·rfl
  rw[e];simp
 | j+1,u,h=>by
  have hu:¬ u<10:=λ hu=>by rw[revDigs,zE hu]at h;simp at h
  have e0:revDigs u=UInt8.ofNat (48+u % 10)::revDigs (u / 10):=by rw[revDigs.eq_1 u,zD hu]
  have e:u / 10 ^ (j+1)=u / 10 / 10 ^ j:=by rw[tC,tW,vH]
  have hl:j<(revDigs (u / 10)).length:=by rw[e0]at h;simpa using h
  have:=So j (u / 10) hl
  rw[e,← this]
  simp only[e0,uG]
theorem Mn:∀ (k u:Nat),u<10 ^ k→(revDigs u).length≤k+1
 | 0,u,h=>by rw[revDigs,zE (by simp at h;omega)];simp
 | k+1,u,h=>by
  rw[revDigs]
  split
  ·simp
  ·have:=Mn k (u / 10) (by rw[tW]at h;omega)
   simp only[yN];omega
def Axc (n:Int):List UInt8:=(revDigs n.natAbs++(if n<0 then [45] else [])).reverse
def Alm (n:Int):ByteArray:=mkT (Axc n)
theorem Axb (m:Nat):Axc m=(revDigs m).reverse:=by
 rw[Axc,Int.natAbs_natCast,zD q_,xK]
set_option maxRecDepth 20000 in
theorem Aw9 (m:Nat) (hb:m<9223372036854775808):Sp 221 [Aa m] (Ao (Alm m)):=cT F221 Tryz.ntmps221 λ F hF=>by
 have hpos:=Sm m
 have hlen:=λ j=>Sn j m
 have hget:=λ j=>So j m
 have hsh:(revDigs m).length≤20:=Mn 19 m q_
 rw[Alm,Axb]
 generalize revDigs m=D at *
 refine fW ?_
 refine B9 3 1000 1 Ah E E ?_
 refine A9 D.length (λ j=>[(0,Aa m),(3,.osl 1000),(4,Bf (m / 10 ^ j:Nat)),(5,Ab (decide (j<D.length)))]) (λ j=>[(1000,.row 1 Ah (D.take j))]) []
  ⟨⟨rfl,rfl,rfl,rfl,zG (λ z=>SV.val (.int .u64 z)) (by rw[IntKind.wrap_u64];omega),rfl,zG Ab (zR hpos),rfl,trivial⟩,⟨.inl rfl,rfl,trivial⟩,rfl,rfl⟩ ?_
 intro j hj
 refine fU ?_
 constructor<;>intro h
 ·have hlt:j<D.length:=zK h
  have hgj:=hget j hlt
  have hlj:=hlen j
  have e:m / 10 ^ (j+1)=m / 10 ^ j / 10:=by rw[tC,tW]
  have hq:m / 10 ^ j≤m:=Nat.div_le_self _ _
  rw[e]at hlj
  refine fU ?_
  refine⟨by decide,?_⟩
  refine fW ?_
  refine Af (Ae Γ.toTy 23 E E E E E (.row E) (.lit (l:=[D[j]]) E ?_) y_ ?_ ?_) E E ?_
  ·rw[hgj]
   simp only[xV,vY,Ah]
   congr 3
   generalize m / 10 ^ j=q at *
   rw[tI (wM _),IntKind.wrap_u64,IntKind.wrap_u8]
   simp
  ·simp;omega
  ·simp;omega
  refine fU ?_
  refine⟨by decide,?_⟩
  refine fW ?_
  refine A2 [(1000,23)] hlt ⟨⟨E,E,E,E,zG (λ z=>SV.val (.int .u64 z)) ?_,E,zG Ab ?_,E,Y⟩,⟨.inl (zG (Ob.row 1 Ah) (zW hlt)),E,Y⟩,E,E⟩
  ·rw[e,vP (wM _),IntKind.wrap_u64]
   generalize m / 10 ^ j=q at *
   omega
  ·rw[vP (wM _),IntKind.wrap_u64]
   generalize m / 10 ^ j=q at *
   refine decide_eq_decide.2 ?_
   omega
 ·have:j=D.length:=qB h
  subst this
  rw[yG]
  refine fU ?_
  refine iL ?_
  refine fW ?_
  refine A9 (D.length / 2) (λ j=>[(3,.osl 1000),(6,Aa j),(7,Aa (D.length-1-j:Nat))]) (λ j=>[(1000,.row 1 Ah (Q7 D j))]) []
   ⟨⟨rfl,rfl,rfl,rfl,zG (λ z=>SV.val (.int .i64 z)) q_,rfl,trivial⟩,⟨.inl (zG (Ob.row 1 Ah) (Zh D)),rfl,trivial⟩,rfl,rfl⟩ ?_
  intro i hi
  have hul:=Dg D i
  refine fU ?_
  constructor<;>intro h2
  ·have hlt:2 * i+1<D.length:=by have:=zK h2;omega
   obtain ⟨u,hu⟩:∃ u,Q7 D i=u:=⟨_,rfl⟩
   obtain ⟨k,hk⟩:∃ k,D.length-1-i=k:=⟨_,rfl⟩
   rw[hu]at hul
   have hs:=Zi hu hlt hk q_ q_
   rw[hu,hk]
   refine fU ?_
   refine⟨by omega,by omega,?_⟩
   refine fW ?_
   refine⟨E,by omega,?_⟩
   refine fW ?_
   refine⟨by omega,by omega,?_⟩
   refine fW ?_
   refine⟨E,by omega,?_⟩
   refine fW ?_
   refine⟨by omega,by omega,?_⟩
   refine fW ?_
   refine⟨E,by omega,u[k],E,E,?_⟩
   refine fW ?_
   refine⟨by omega,by simp;omega,?_⟩
   refine fW ?_
   refine⟨E,by simp;omega,u[i],E,E,?_⟩
   refine fW ?_
   refine⟨z_,?_⟩
   refine fW ?_
   refine iL ?_
   refine fW ?_
   refine iL ?_
   refine fW ?_
   refine A2 [] q_ ⟨⟨E,E,E,E,zG (λ z=>SV.val (.int .i64 z)) q_,E,Y⟩,⟨.inl (zG (Ob.row 1 Ah) hs.symm),E,Y⟩,E,E⟩
  ·have h3:D.length≤2 * i+1:=by have:=zT h2;omega
   rw[Ac5 D i h3]
   refine fU ?_
   refine Af (Cd Γ.toTy (bs:=D.reverse) E E E E E E E (.row E)) E E ?_
   refine fU ?_
   exact dN
end Go.Sy.YtiijbikecbjdaaaGreatDoor
namespace Go.Sy.YtiijbikecbjdaaaGreatDoor
open Go.Proofs
attribute [local irreducible] Go.Sy.G Go.Sy.DR
set_option maxRecDepth 20000
set_option maxHeartbeats 4000000
def Ea (n:Net) (dev vlan:Int):Bool:=decide (0≤Jm n dev vlan)
def Ll (n:Net) (i:Nat) (p:Port):Bool :=
 An p.dev n.devices.length && decide (0≤p.native) && decide (p.native≤4094) && (decide (p.tagged.length=0) || Im p.tagged 1 4094) && !inB p.tagged p.native && !(p.native == 0 && decide (p.tagged.length=0)) &&
  Ho (λ _ v=>Ea n p.dev v) p.tagged && !(decide (0<p.native) && !Ea n p.dev p.native) &&
  (p.link == -1 || An p.link n.links.length && ((nth n.links p.link).a == i || (nth n.links p.link).b == i))
theorem Apt (n:Net) (i:Nat) (p:Port) (hn:n.Fin) (hp:Ak p.tagged):Sp 53 [Al n,Aa i,A3 p] (Ab (Ll n i p)):=cT F53 Tryz.ntmps53 λ F hF=>by
 conv=>whnf
 (repeat' (first | (refine⟨λ h=>?_,λ h=>?_⟩<;>(repeat (first | simp only[An]at h | simp only[zQ]at h | simp only[zY]at h | simp only[yF]at h | simp only[zL]at h | simp only[zH]at h | simp only[yO]at h | simp only[yU]at h | simp only[wR]at h | simp only[yX]at h | simp only[wT]at h))<;>((refine oO ?_);repeat((first|refine aF ?_|refine aT ?_);(refine oO ?_)))) | (refine Aq rfl (.cons .tmp .nil) ?_ rfl) | (refine c0 (Ie 5 Au n.devices p.dev) F60 ?_;((refine oO ?_))) | (refine c0 (Aii p.tagged 4094 hp) F63 ?_;((refine oO ?_))) | (refine c0 (Do p.tagged p.native hp) F73 ?_;((refine oO ?_)))))
 all_goals first | (refine zG Ab ?_;clear hF;grind [Ll,An]) | skip
 all_goals (
  refine A7 3 8 (Al n) E E E ?_
  refine A7 5 7 (A3 p) E E E ?_
  refine A5 p.tagged.length (λ j=>Hc (λ _ v=>Ea n p.dev v) p.tagged j) (λ j=>[(1,Aa i),(3,.ref 8 (Al n) 0),(5,.ref 7 (A3 p) 0),(51,.sl 1 Aa p.tagged),(52,Aa p.tagged.length),(53,Aa j)]) (λ _=>[]) [] (Bj _ _) ⟨⟨E,E,E,E,E,E,E,E,E,E,E,E,Y⟩,Y,E,E⟩ ?_
  intro j hj hI
  have hsh:=hp
  unfold Ak at hsh
  (refine fU ?_))
 all_goals (
  (repeat' (first | (refine⟨λ h=>?_,λ h=>?_⟩<;>(repeat (first | simp only[An]at h | simp only[zQ]at h | simp only[zY]at h | simp only[yF]at h | simp only[zL]at h | simp only[zH]at h | simp only[yU]at h))<;>((refine oO ?_);repeat((refine aF ?_);(refine oO ?_)))) | (refine Aq rfl (.cons .tmp .nil) ?_ rfl) | (refine⟨z_,?_⟩;((conv=>whnf))) | (refine⟨by (omega),by (omega),?_⟩;((conv=>whnf))) | (refine⟨by (unfold I64;omega),?_⟩;((conv=>whnf))) | (refine c0 (Qc n p.dev (p.tagged[j]'q_) hn.domains) F111 ?_;((refine oO ?_))) | (refine c0 (Qc n p.dev p.native hn.domains) F111 ?_;((refine oO ?_))) | (refine c0 (Alb 3 Bw n.links p.link) F116 ?_;((refine oO ?_))) | refine A4 [] hI q_ ?_ ⟨⟨rfl,rfl,rfl,rfl,rfl,rfl,rfl,rfl,rfl,rfl,rfl,rfl,trivial⟩,trivial,rfl,rfl⟩)))
 all_goals first
  | exact Bh hI q_ (by simp only[Ea,zQ];omega)
  | (refine zG Ab ?_
     have h0:Ho (λ _ v=>Ea n p.dev v) p.tagged=false:=C1 (i:=j) q_ (by simp only[Ea,zY];omega)
     clear hF hI;grind [Ll])
  | (refine zG Ab ?_
     have h0:Ho (λ _ v=>Ea n p.dev v) p.tagged=true:=Er hI q_
     clear hF hI;grind [Ll,An,Ea,Aj])
def Xv (n:Net) (i:Nat) (l:Link):Bool :=
 An l.a n.ports.length && An l.b n.ports.length && (nth n.ports l.a).dev != (nth n.ports l.b).dev && (nth n.ports l.a).link == i && (nth n.ports l.b).link == i
theorem Apu (n:Net) (i:Nat) (l:Link):Sp 55 [Al n,Aa i,Bw l] (Ab (Xv n i l)):=cT F55 Tryz.ntmps55 λ F hF=>by
 conv=>whnf
 (repeat' (first | (refine⟨λ h=>?_,λ h=>?_⟩<;>(repeat (first | simp only[An]at h | simp only[zQ]at h | simp only[zY]at h | simp only[yF]at h | simp only[zL]at h | simp only[yQ]at h | simp only[bne_eq_false_iff_eq]at h | simp only[zH]at h | simp only[yU]at h | simp only[yX]at h | simp only[wT]at h))<;>((refine oO ?_);repeat((first|refine aF ?_|refine aT ?_);(refine oO ?_)))) | (refine Aq rfl (.cons .tmp .nil) ?_ rfl) | (refine⟨z_,?_⟩;((conv=>whnf))) | (refine⟨by (omega),by (omega),?_⟩;((conv=>whnf))) | (refine c0 (S1 7 A3 n.ports l.a) F117 ?_;((refine oO ?_))) | (refine c0 (S1 7 A3 n.ports l.b) F117 ?_;((refine oO ?_)))))
 all_goals (refine zG Ab ?_;clear hF;grind [Xv,An,Aj])
def T0 (n:Net) (s:Static):Bool :=
 An s.domain n.domains.length && An s.port n.ports.length && (nth n.ports s.port).dev == (nth n.domains s.domain).dev && D0 (nth n.ports s.port) (nth n.domains s.domain).vlan
theorem Ai7 (n:Net) (i:Nat) (s:Static) (hn:n.Fin):Sp 57 [Al n,Aa i,Az s] (Ab (T0 n s)):=cT F57 Tryz.ntmps57 λ F hF=>by
 conv=>whnf
 (repeat' (first | (refine⟨λ h=>?_,λ h=>?_⟩<;>(repeat (first | simp only[An]at h | simp only[zQ]at h | simp only[zY]at h | simp only[yF]at h | simp only[zL]at h | simp only[zH]at h | simp only[yU]at h | simp only[yX]at h | simp only[wT]at h))<;>((refine oO ?_);repeat((refine aT ?_);(refine oO ?_)))) | (refine Aq rfl (.cons .tmp .nil) ?_ rfl) | (refine⟨z_,?_⟩;((conv=>whnf))) | (refine⟨by (omega),by (omega),?_⟩;((conv=>whnf))) | (refine c0 (J2 6 Ap n.domains s.domain) F118 ?_;((refine oO ?_))) | (refine c0 (S1 7 A3 n.ports s.port) F117 ?_;((refine oO ?_))) | (refine c0 (Xo (n.ports[s.port.toNat]'q_) (n.domains[s.domain.toNat]'q_).vlan (hn.tagged _ (zJ _))) F119 ?_;((refine oO ?_)))))
 all_goals (refine zG Ab ?_;clear hF;grind [T0,An,Aj])
def Apv (n:Net) (i:Nat) (x:Irb):Bool :=
 An x.domain n.domains.length && An x.vrf n.vrfs.length && (nth n.domains x.domain).dev == (nth n.vrfs x.vrf).dev && (nth n.domains x.domain).irb == i && decide (1≤x.bits) && decide (x.bits≤30)
theorem Aud (n:Net) (i:Nat) (x:Irb):Sp 65 [Al n,Aa i,B3 x] (Ab (Apv n i x)):=cT F65 Tryz.ntmps65 λ F hF=>by
 conv=>whnf
 (repeat' (first | (refine⟨λ h=>?_,λ h=>?_⟩<;>(repeat (first | simp only[An]at h | simp only[zQ]at h | simp only[zY]at h | simp only[yF]at h | simp only[zL]at h | simp only[zH]at h | simp only[yU]at h))<;>((refine rd z_ ?_);(conv=>whnf);repeat((refine aF ?_);(refine rd z_ ?_);(conv=>whnf)))) | (refine Aq rfl (.cons .tmp .nil) ?_ rfl) | (refine⟨z_,?_⟩;((conv=>whnf))) | (refine⟨by (omega),by (omega),?_⟩;((conv=>whnf))) | (refine cD (J2 6 Ap n.domains x.domain) F118 ?_;((refine rd z_ ?_);(conv=>whnf))) | (refine cD (Ao8 5 Ca n.vrfs x.vrf) F121 ?_;((refine rd z_ ?_);(conv=>whnf)))))
 all_goals (refine zG Ab ?_;clear hF;grind [Apv,An,Aj])
def Wa (n:Net) (f:Flood):Bool:=An f.dev n.devices.length && decide (f.addrs.length≤16)
theorem right1 (n:Net) (i:Nat) (f:Flood):Sp 59 [Aa i,Be f,.ref 8 (Al n) 0] (Ab (Wa n f)):=cT F59 Tryz.ntmps59 λ F hF=>by
 conv=>whnf
 (repeat' (first | (refine⟨λ h=>?_,λ h=>?_⟩<;>(repeat (first | simp only[An]at h | simp only[zQ]at h | simp only[zY]at h | simp only[zH]at h | simp only[yU]at h))<;>((refine oO ?_))) | (refine Aq rfl (.cons .tmp .nil) ?_ rfl) | (refine c0 (Ie 5 Au n.devices f.dev) F60 ?_;((refine oO ?_)))))
 all_goals (refine zG Ab ?_;clear hF;grind [Wa,An])
def Ac3 (l:List Int) (most:Int):Bool:=decide (l.length=0) || Im l 1 most
def Azq (n:Net) (v:Vrf):Bool:=An v.dev n.devices.length && Ac3 v.imports 65535 && Ac3 v.exports 65535
theorem right2 (n:Net) (i:Nat) (v:Vrf) (h1:Ak v.imports) (h2:Ak v.exports):Sp 62 [Aa i,Ca v,.ref 8 (Al n) 0] (Ab (Azq n v)):=cT F62 Tryz.ntmps62 λ F hF=>by
 conv=>whnf
 (repeat' (first | (refine⟨λ h=>?_,λ h=>?_⟩<;>(repeat (first | simp only[An]at h | simp only[zQ]at h | simp only[zY]at h | simp only[zH]at h | simp only[yO]at h | simp only[yU]at h | simp only[wR]at h))<;>((refine oO ?_);repeat((refine aF ?_);(refine oO ?_)))) | (refine Aq rfl (.cons .tmp .nil) ?_ rfl) | (refine c0 (Ie 5 Au n.devices v.dev) F60 ?_;((refine oO ?_))) | (refine c0 (Aii v.imports 65535 h1) F63 ?_;((refine oO ?_))) | (refine c0 (Aii v.exports 65535 h2) F63 ?_;((refine oO ?_)))))
 all_goals (refine zG Ab ?_;clear hF;grind [Azq,Ac3,An])
def Ac (n:Net):Bool :=
 Aqb n && Ho (Q2 n) n.domains && Ho (Apa n) n.domains && Ho (Ll n) n.ports && Ho (Xv n) n.links && Ho (λ _=>T0 n) n.statics && Ho (λ _=>Wa n) n.floods && Ho (λ _=>Azq n) n.vrfs && Ho (Apv n) n.irbs
theorem Am9 {n:Net} (h:Ho (Q2 n) n.domains=true) {i:Nat} (hi:i<n.domains.length):An n.domains[i].dev n.devices.length=true:=by
 have:=allB_iff.1 h i hi
 simp only[Q2,zH]at this
 exact this.1.1.1.1.1.1
theorem Ax (n:Net) (hn:n.Fin):Sp 24 [Al n] (Ab (Ac n)):=cT F24 Tryz.ntmps24 λ F hF=>by
 conv=>whnf
 refine A7 1 8 (Al n) E E E ?_
 (repeat' (first | (refine⟨λ h=>?_,λ h=>?_⟩<;>((refine oO ?_);repeat((refine aF ?_);(refine oO ?_)))) | (refine Aq rfl (.cons .tmp .nil) ?_ rfl) | (refine c0 (fewS n) F48 ?_;((refine oO ?_))) | (refine c0 (Abd n.domains (Q2 n) 50 [Al n] [] rfl (λ i h=>⟨⟨_,_,F50⟩,bareS n i n.domains[i] hn.domains⟩) hn.domains) F49 ?_;((refine oO ?_))) | (refine Kx (Abd n.domains (Apa n) 51 [Al n] [] rfl (λ i h=>⟨⟨_,_,F51⟩,peersS n i n.domains[i] hn (hn.peers _ (zJ _)) (Am9 ‹_› h)⟩) hn.domains) F49 rfl rfl rfl rfl rfl ?_;((refine oO ?_))) | (refine Kx (Au5 n.ports (Ll n) 53 [Al n] [] rfl (λ i h=>⟨⟨_,_,F53⟩,Apt n i n.ports[i] hn (hn.tagged _ (zJ _))⟩) hn.ports) F52 rfl rfl rfl rfl rfl ?_;((refine oO ?_))) | (refine c0 (Au6 n.links (Xv n) 55 [Al n] [] rfl (λ i h=>⟨⟨_,_,F55⟩,Apu n i n.links[i]⟩) hn.links) F54 ?_;((refine oO ?_))) | (refine c0 (Ane n.statics (λ _=>T0 n) 57 [Al n] [] rfl (λ i h=>⟨⟨_,_,F57⟩,Ai7 n i n.statics[i] hn⟩) hn.statics) F56 ?_;((refine oO ?_))) | (refine c0 (Aqu n.floods (λ _=>Wa n) 59 [] [.ref 8 (Al n) 0] rfl (λ i h=>⟨⟨_,_,F59⟩,right1 n i n.floods[i]⟩) hn.floods) F58 ?_;((refine oO ?_))) | (refine Kx (Ay8 n.vrfs (λ _=>Azq n) 62 [] [.ref 8 (Al n) 0] rfl (λ i h=>⟨⟨_,_,F62⟩,right2 n i n.vrfs[i] (hn.imports _ (zJ _)) (hn.exports _ (zJ _))⟩) hn.vrfs) F61 rfl rfl rfl rfl rfl ?_;((refine oO ?_))) | (refine c0 (Ay9 n.irbs (Apv n) 65 [Al n] [] rfl (λ i h=>⟨⟨_,_,F65⟩,Aud n i n.irbs[i]⟩) hn.irbs) F64 ?_;((refine oO ?_)))))
 all_goals (refine zG Ab ?_)
 all_goals (clear hF;simp_all[Ac])
theorem Ayr {n:Net} (h:Ac n=true) {i:Nat} (hi:i<n.ports.length):Ll n i n.ports[i]=true:=by
 simp only[Ac,zH]at h
 exact allB_iff.1 h.1.1.1.1.1.2 i hi
theorem A1s {n:Net} (h:Ac n=true) {i:Nat} (hi:i<n.domains.length):Q2 n i n.domains[i]=true:=by
 simp only[Ac,zH]at h
 exact allB_iff.1 h.1.1.1.1.1.1.1.2 i hi
theorem Ams {n:Net} (h:Ac n=true):n.devices.length≤8∧n.ports.length≤40∧n.links.length≤20∧n.domains.length≤48∧n.irbs.length≤48:=by
 simp only[Ac,Aqb,zH,zQ]at h
 omega
theorem Amt {n:Net} (h:Ac n=true) {i:Nat} (hi:i<n.domains.length) :
  (0≤n.domains[i].dev∧n.domains[i].dev.toNat<n.devices.length)∧(1≤n.domains[i].vlan∧n.domains[i].vlan≤4094)∧(0≤n.domains[i].vni∧n.domains[i].vni≤16777215)∧(n.domains[i].irb=-1∨0≤n.domains[i].irb∧n.domains[i].irb.toNat<n.irbs.length):=by
 have:=A1s h hi
 simp only[Q2,An,zH,yO,zQ,yF]at this
 omega
end Go.Sy.YtiijbikecbjdaaaGreatDoor
namespace Go.Sy
def Ani (C:Cx) {β:Type} (I:β→Prop) (L:β→List (Nat × SV)) (O:β→Obs) (μ:β→Nat) (x:β) (a:Act) (w:World):Prop :=
 ∃ x':{y:β // I y},∃ κ,μ x'.1<μ x∧St C.F C.n (mkS (L x'.1) (O x'.1)) κ a w
theorem B6 {C:Cx} {k:List KI} {s:SS} {body:Code} {β:Type} (I:β→Prop) (L:β→List (Nat × SV)) (O:β→Obs) (μ:β→Nat) (x₀:β) (ρ:List (Nat × Nat)) (h0:I x₀) (hsub:Sub C s ρ (L x₀) (O x₀))
  (h:∀ x,I x→G C (.code body::.inv (Ani C I L O μ x)::k) (mkS (L x) (O x))):G C (.code (.loop body)::k) s :=
 Tv (α:={y:β // I y}) (λ x=>L x.1) (λ x=>O x.1) (λ x=>μ x.1) ⟨x₀,h0⟩ ρ hsub (λ x=>h x.1 x.2)
theorem Av {C:Cx} {k:List KI} {s:SS} {β:Type} {I:β→Prop} {L:β→List (Nat × SV)} {O:β→Obs} {μ:β→Nat} {x:β} (x':β) (ρ:List (Nat × Nat)) (h':I x') (hμ:μ x'<μ x) (hsub:Sub C s ρ (L x') (O x')) :
  G C (.inv (Ani C I L O μ x)::k) s:=λ _ _ _ hs=>⟨⟨x',h'⟩,_,hμ,hsub.st hs⟩
theorem Tu {C:Cx} {kk:List KI} {s:SS} (k d:Nat) {sz:Nat} {α:Type} {e:α→SV} {l:List α} (h:s.h k=.row sz e l) (hd:s.h d=.fresh) (hkd:k≠d)
  (hg:G C kk ⟨λ i=>frz k (.osl d) (s.σ i),upd (λ j=>bif Nat.beq j k then .non else Auj k (.osl d) (s.h j)) d (.row sz e l)⟩):G C kk s:=λ κ a w hs=>by
 have hob:=hs.obj k
 rw[h]at hob
 have hnew:κ d=.new:=by have:=hs.obj d;rwa [hd]at this
 have fin:∀ κ':Ka,(∀ j,j≠k→j≠d→κ' j=κ j)→Step (λ j=>j=k∨j=d) κ w κ' w→Inv κ' w→(∀ v,Rd κ w (.osl k) v→Rd κ' w (.osl d) v)→ObOK κ' w d (.row sz e l)→den C.P C.B kk .normal a w:=by
  intro κ' hne st inv hv ho
  refine hg κ' a w ⟨hs.defers,hs.size,inv,hs.ctx.step inv st,λ j=>Ajb st hv _ _ (hs.slot j),λ j=>?_⟩
  show ObOK κ' w j (upd (λ j=>bif Nat.beq j k then .non else Auj k (.osl d) (s.h j)) d (.row sz e l) j)
  by_cases hj:j=d
  ·subst hj;rw[Bt];exact ho
  ·rw[Ck _ _ hj]
   by_cases hj2:j=k
   ·subst hj2;rw[show Nat.beq j j=true from tA j];trivial
   ·rw[show Nat.beq j k=false from by cases hb:Nat.beq j k with | false=>rfl | true=>exact yB (yH hb) hj2]
    have hb:=ObOK.step st (λ e=>e.elim hj2 hj) _ (hs.obj j)
    have h0:=hs.obj j
    show ObOK κ' w j (Auj k (.osl d) (s.h j))
    cases hh:s.h j with
    | box m =>
     rw[hh]at h0 hb
     obtain ⟨b,cs,T,fr,e1,e2,e3,e4,e5⟩:=h0
     exact⟨b,cs,T,fr,(hne j hj2 hj).trans e1,e2,e3,e4,Jl st hv m cs e5⟩
    | tbox T m =>
     rw[hh]at h0 hb
     obtain ⟨b,cs,fr,e1,e2,e3,e4,e5⟩:=h0
     exact⟨b,cs,fr,(hne j hj2 hj).trans e1,e2,e3,e4,Jl st hv m cs e5⟩
    | fresh=>rw[hh]at hb;exact hb
    | non=>rw[hh]at hb;exact hb
    | row sz' e' l'=>rw[hh]at hb;exact hb
    | lit sz' svs=>rw[hh]at hb;exact hb
    | glob sz' x' g'=>rw[hh]at hb;exact hb
    | pin b' n' cap' sz' e' l'=>rw[hh]at hb;exact hb
    | dat v' sz' e' l'=>rw[hh]at hb;exact hb
    | rown sz' e' l' i' cl' =>
     rw[hh]at h0
     obtain ⟨b2,cap2,cs2,T2,fr2,f1,f2,f3,f4,f5,f6,f7,us2,v1,v2,v3,v4⟩:=h0
     refine⟨b2,cap2,cs2,T2,fr2,(hne j hj2 hj).trans f1,f2,f3,f4,f5,λ m y hm hy=>?_,f7,us2,v1,v2,Jl st hv cl' us2 v3,v4⟩
     obtain ⟨g0,u,g1,g2⟩:=f6 m y hm hy
     exact⟨g0,u,RdD.keep st.keeps _ _ g1,g2⟩
 rcases hob with ⟨h1,rfl⟩ | ⟨b,cap,cs,T,fr,e1,e2,e3,e4,e5,e6⟩
 ·have st:=I8 (Kd hs.inv (some k)) (by show Dt κ k .dead d=.new;rw[B4 _ _ (Ne.symm hkd)];exact hnew) (e:=.nil) (Grew.refl w) (λ b hb=>by cases hb)
  refine fin _ (λ j h1 h2=>by rw[B4 _ _ h2];exact B4 _ _ h1) (((Iy (some k)).weaken (λ j hj=>.inl (Option.some.inj hj).symm)).trans (st.1.weaken (λ j hj=>.inr hj))) st.2 (λ v hv=>?_) (.inl ⟨Aw _ _ _,E⟩)
  simp only[Rd,h1]at hv
  simp[Rd,Aw,hv]
 ·obtain ⟨st,inv⟩:=M0 (n':=l.length) (w':=w) hs.inv e1 hnew rfl rfl rfl rfl (λ _ _=>rfl)
  refine fin _ (λ j h1 h2=>by rw[B4 _ _ h2];exact B4 _ _ h1) st inv (λ v hv=>?_) (.inr ⟨b,cap,cs,T,fr,Aw _ _ _,e2,e3,e4,e5,λ i x hx=>?_⟩)
  ·simp only[Rd,e1]at hv
   simp[Rd,Aw,hv]
  ·obtain ⟨q1,u,q2,q3⟩:=e6 i x hx
   exact⟨q1,u,RdD.keep st.keeps _ _ q2,q3⟩
theorem Iw {C:Cx} {k:List KI} {s:SS} (d:Nat) {sz:Nat} {α:Type} (e:α→SV) (l:List α) {svs:List SV} (h:s.h d=.lit sz svs) (hl:l.map e=svs) (hg:G C k ⟨s.σ,upd s.h d (.row sz e l)⟩):G C k s:=λ κ a w hs=>by
 refine hg κ a w ⟨hs.defers,hs.size,hs.inv,hs.ctx,hs.slot,λ j=>?_⟩
 show ObOK κ w j (upd s.h d (.row sz e l) j)
 by_cases hj:j=d
 ·subst hj
  rw[Bt]
  have hob:=hs.obj j
  rw[h]at hob
  have hlen:l.length=svs.length:=by rw[← hl,xJ]
  obtain ⟨b,cap,cs,T,fr,e1,e2,e3,e4,e5,e6⟩:=hob
  exact .inr ⟨b,cap,cs,T,fr,by rw[hlen];exact e1,e2,e3,e4,by omega,λ i x hx=>by rw[hlen];exact e6 i x (M2 hl i x hx)⟩
 ·rw[Ck _ _ hj];exact hs.obj j
end Go.Sy
namespace Go.Sy.YtiijbikecbjdaaaGreatDoor
open Go.Proofs
theorem Axa (m:Nat) (h:0<m):Axc (-(m:Int))=(revDigs m++[45]).reverse:=by
 rw[Axc,zE q_]
 have:(-(m:Int)).natAbs=m:=by omega
 rw[this]
set_option maxRecDepth 20000 in
theorem Alk (m:Nat) (h0:0<m) (hb:m≤9223372036854775808):Sp 221 [Aa (-(m:Int))] (Ao (Alm (-(m:Int)))):=cT F221 Tryz.ntmps221 λ F hF=>by
 have hpos:=Sm m
 have hlen:=λ j=>Sn j m
 have hget:=λ j=>So j m
 have hsh:(revDigs m).length≤20:=Mn 19 m q_
 have w1:IntKind.u64.wrap (0-IntKind.u64.wrap (-(m:Int)))=m:=by rw[IntKind.wrap_u64,IntKind.wrap_u64];omega
 rw[Alm,Axa m h0]
 generalize revDigs m=D at *
 refine fW ?_
 refine⟨λ _=>?_,λ h=>yB (zT h) q_⟩
 refine B9 3 1000 1 Ah E E ?_
 refine fU ?_
 refine A9 D.length (λ j=>[(0,Aa (-(m:Int))),(3,.osl 1000),(4,Bf (m / 10 ^ j:Nat)),(5,Ab (decide (j<D.length)))]) (λ j=>[(1000,.row 1 Ah (D.take j))]) []
  ⟨⟨rfl,rfl,rfl,rfl,zG (λ z=>SV.val (.int .u64 z)) (by simpa using w1.symm),rfl,zG Ab (zR hpos),rfl,trivial⟩,⟨.inl rfl,rfl,trivial⟩,rfl,rfl⟩ ?_
 intro j hj
 refine fU ?_
 constructor<;>intro h
 ·have hlt:j<D.length:=zK h
  have hgj:=hget j hlt
  have hlj:=hlen j
  have e:m / 10 ^ (j+1)=m / 10 ^ j / 10:=by rw[tC,tW]
  have hq:m / 10 ^ j≤m:=Nat.div_le_self _ _
  rw[e]at hlj
  refine fU ?_
  refine⟨by decide,?_⟩
  refine fW ?_
  refine Af (Ae Γ.toTy 23 E E E E E (.row E) (.lit (l:=[D[j]]) E ?_) y_ ?_ ?_) E E ?_
  ·rw[hgj]
   simp only[xV,vY,Ah]
   congr 3
   generalize m / 10 ^ j=q at *
   rw[tI (wM _),IntKind.wrap_u64,IntKind.wrap_u8]
   simp
  ·simp;omega
  ·simp;omega
  refine fU ?_
  refine⟨by decide,?_⟩
  refine fW ?_
  refine A2 [(1000,23)] hlt ⟨⟨E,E,E,E,zG (λ z=>SV.val (.int .u64 z)) ?_,E,zG Ab ?_,E,Y⟩,⟨.inl (zG (Ob.row 1 Ah) (zW hlt)),E,Y⟩,E,E⟩
  ·rw[e,vP (wM _),IntKind.wrap_u64]
   generalize m / 10 ^ j=q at *
   omega
  ·rw[vP (wM _),IntKind.wrap_u64]
   generalize m / 10 ^ j=q at *
   refine decide_eq_decide.2 ?_
   omega
 ·have:j=D.length:=qB h
  subst this
  rw[yG]
  refine fU ?_
  refine⟨λ _=>?_,λ h=>yB (zT h) q_⟩
  refine fU ?_
  refine Af (Ae Γ.toTy 30 E E E E E (.row E) (.lit (e:=Ah) (l:=[45]) E E) y_ (by simp;omega) (by simp;omega)) E E ?_
  have hDl:(D++[45]).length=D.length+1:=by simp
  generalize D++[45]=D at *
  refine fU ?_
  refine iL ?_
  refine fW ?_
  refine A9 (D.length / 2) (λ j=>[(3,.osl 1000),(6,Aa j),(7,Aa (D.length-1-j:Nat))]) (λ j=>[(1000,.row 1 Ah (Q7 D j))]) [(1000,30)]
   ⟨⟨rfl,rfl,rfl,rfl,zG (λ z=>SV.val (.int .i64 z)) q_,rfl,trivial⟩,⟨.inl (zG (Ob.row 1 Ah) (Zh D)),rfl,trivial⟩,rfl,rfl⟩ ?_
  intro i hi
  have hul:=Dg D i
  refine fU ?_
  constructor<;>intro h2
  ·have hlt:2 * i+1<D.length:=by have:=zK h2;omega
   obtain ⟨u,hu⟩:∃ u,Q7 D i=u:=⟨_,rfl⟩
   obtain ⟨k,hk⟩:∃ k,D.length-1-i=k:=⟨_,rfl⟩
   rw[hu]at hul
   have hs:=Zi hu hlt hk q_ q_
   rw[hu,hk]
   refine fU ?_
   refine⟨by omega,by omega,?_⟩
   refine fW ?_
   refine⟨E,by omega,?_⟩
   refine fW ?_
   refine⟨by omega,by omega,?_⟩
   refine fW ?_
   refine⟨E,by omega,?_⟩
   refine fW ?_
   refine⟨by omega,by omega,?_⟩
   refine fW ?_
   refine⟨E,by omega,u[k],E,E,?_⟩
   refine fW ?_
   refine⟨by omega,by simp;omega,?_⟩
   refine fW ?_
   refine⟨E,by simp;omega,u[i],E,E,?_⟩
   refine fW ?_
   refine⟨z_,?_⟩
   refine fW ?_
   refine iL ?_
   refine fW ?_
   refine iL ?_
   refine fW ?_
   refine A2 [] q_ ⟨⟨E,E,E,E,zG (λ z=>SV.val (.int .i64 z)) q_,E,Y⟩,⟨.inl (zG (Ob.row 1 Ah) hs.symm),E,Y⟩,E,E⟩
  ·have h3:D.length≤2 * i+1:=by have:=zT h2;omega
   rw[Ac5 D i h3]
   refine fU ?_
   refine Af (Cd Γ.toTy (bs:=D.reverse) E E E E E E E (.row E)) E E ?_
   refine fU ?_
   exact dN
end Go.Sy.YtiijbikecbjdaaaGreatDoor
namespace Go.Sy.YtiijbikecbjdaaaGreatDoor
open Go.Proofs
attribute [local irreducible] Go.Sy.G Go.Sy.DR
set_option maxRecDepth 20000
set_option maxHeartbeats 4000000
def Ajz (n:Int):Prop:=-9223372036854775808≤n∧n<9223372036854775808
theorem Atw (n:Int) (h:Ajz n):Sp 221 [Aa n] (Ao (Alm n)):=by
 unfold Ajz at h
 by_cases h0:0≤n
 ·obtain ⟨m,rfl⟩:=xA h0
  exact Aw9 m q_
 ·obtain ⟨m,hmn⟩:∃ m:Nat,n=-(m:Int):=⟨n.natAbs,by omega⟩
  subst hmn
  exact Alk m q_ q_
def Lw (p:Nat→Bool) (j:Nat):List Int:=((List.range j).filter p).map Int.ofNat
theorem Aeg (p:Nat→Bool) (j:Nat):Lw p (j+1)=if p j=true then Lw p j++[(j:Int)] else Lw p j:=by
 rw[Lw,wV,List.filter_append,vI]
 split
 ·rename_i h
  rw[List.filter_cons_of_pos (by exact h),List.filter_nil];rfl
 ·rename_i h
  rw[List.filter_cons_of_neg (by exact h),List.filter_nil,vY,xK];rfl
theorem H2 (p:Nat→Bool) (j:Nat):(Lw p j).length≤j:=by
 have:=List.length_filter_le p (List.range j)
 simpa [Lw] using this
theorem Uf {p:Nat→Bool} {j:Nat} {x:Int}:x∈Lw p j↔0≤x∧x<j∧p x.toNat=true:=by
 simp only[Lw,yV,List.mem_filter,xM]
 constructor
 ·rintro ⟨i,h1,rfl⟩
  exact⟨wM i,by simp;omega,h1.2⟩
 ·rintro ⟨h1,h2,h3⟩
  exact⟨x.toNat,⟨by omega,h3⟩,xN h1⟩
def Vc (n:Net) (d:Domain) (i:Nat):Bool:=(nth n.ports i).dev == d.dev && D0 (nth n.ports i) d.vlan
def Bg (n:Net) (i:Int):List Int:=Lw (Vc n (nth n.domains i)) n.ports.length
def Cu (n:Net) (i:Int):List Int:=if (0≤i∧i<n.domains.length)∧Ac n=true then Bg n i else []
theorem Jf (n:Net) (hn:n.Fin) (i:Int):Ak (Cu n i):=by
 have:=hn.ports
 unfold Ak at this ⊢
 unfold Cu
 split
 ·have:=H2 (Vc n (nth n.domains i)) n.ports.length
  unfold Bg
  omega
 ·simp
theorem Mq (n:Net) (hn:n.Fin) (i:Int):Sp 74 [Al n,Aa i] (.sl 1 Aa (Cu n i)):=cT F74 Tryz.ntmps74 λ F hF=>by
 have hr:=Ax n hn
 have hpl:=J2 6 Ap n.domains i
 have hsp:=hn.ports
 unfold Ak at hsp
 conv=>whnf
 refine c0 hr F24 ?_
 cases hb:Ac n
 ·rw[Cu,zD (by simp[hb])]
  (refine oT ?_;refine bT ?_)
  refine Am 4 1 Aa E ?_
  refine oO ?_
  exact dN
 refine oF ?_
 refine c0 hpl F118 ?_
 by_cases hi:0≤i∧i<n.domains.length
 rotate_left
 ·have h0:An i n.domains.length=false:=by simp only[An,yU,zY];omega
  rw[Cu,zD (by simp[hb,hi]),h0]
  refine oT ?_
  refine Am 4 1 Aa E ?_
  refine oO ?_
  exact dN
 have h0:An i n.domains.length=true:=by simp only[An,zH,zQ];exact hi
 rw[Cu,zE ⟨hi,hb⟩,h0]
 have hk:i.toNat<n.domains.length:=by omega
 have hf:=Amt hb hk
 have e1:nth n.domains i=n.domains[i.toNat]:=Aj hk
 rw[Bg,e1]
 obtain ⟨d,hd⟩:∃ d,n.domains[i.toNat]=d:=⟨_,rfl⟩
 rw[hd]at hf ⊢
 refine A7 2 8 (Al n) E E E ?_
 refine oF ?_
 refine B9 5 1000 1 Aa E E ?_
 refine A9 n.ports.length (λ j=>[(1,Aa i),(2,.ref 8 (Al n) 0),(5,.osl 1000),(19,.sl 7 A3 n.ports),(20,Aa n.ports.length),(21,Aa j)]) (λ j=>[(1000,.row 1 Aa (Lw (Vc n d) j))]) []
  ⟨⟨rfl,rfl,rfl,rfl,rfl,rfl,rfl,rfl,rfl,rfl,rfl,rfl,trivial⟩,⟨.inl rfl,rfl,trivial⟩,rfl,rfl⟩ ?_
 intro j hj
 refine oO ?_
 constructor<;>intro h
 ·have hlt:j<n.ports.length:=by simpa using h
  have hsucc:=Aeg (Vc n d) j
  have hfl:=H2 (Vc n d) j
  have hin:Vc n d j=((n.ports[j]).dev == d.dev && D0 n.ports[j] d.vlan):=by
   rw[Vc,Aj (l:=n.ports) (i:=(j:Int)) (by simpa using hlt)];rfl
  rw[hin]at hsucc
  have e1:n.ports[(j:Int).toNat]'q_=n.ports[j]:=rfl
  have hms:=Xo n.ports[j] d.vlan (hn.tagged _ (zJ _))
  obtain ⟨p,hp⟩:∃ p,n.ports[j]=p:=⟨_,rfl⟩
  rw[hp]at e1 hsucc hms
  obtain ⟨u,hu⟩:∃ u,Lw (Vc n d) j=u:=⟨_,rfl⟩
  rw[hu]at hsucc hfl ⊢
  refine oO ?_
  refine⟨E,by omega,by omega,?_⟩
  rw[e1]
  conv=>whnf
  refine⟨E,hi.1,hk,?_⟩
  rw[hd]
  conv=>whnf
  constructor<;>intro h2
  ·have h3:∃ k:Nat,(k:Int)=i:=⟨i.toNat,by omega⟩
   rw[h2,zZ]at hsucc
   refine oD ?_
   refine⟨E,hi.1,hk,?_⟩
   rw[hd]
   conv=>whnf
   refine cD hms F119 ?_
   refine oD ?_
   refine kW ?_
   constructor<;>intro h4
   ·rw[zE h4]at hsucc
    refine oO ?_
    refine Af (Ae Γ.toTy 48 E E E E E (.row E) (.lit (e:=Aa) (l:=[(j:Int)]) E E) y_ (by simp;omega) (by simp;omega)) E E ?_
    refine oO ?_
    refine iW ?_
    exact A2 [(1000,48)] hlt ⟨⟨E,E,E,E,E,E,E,E,E,E,E,E,Y⟩,⟨.inl (zG (Ob.row 1 Aa) hsucc),E,Y⟩,E,E⟩
   ·rw[zD (by simp[h4])]at hsucc
    refine oO ?_
    refine iW ?_
    exact A2 [] hlt ⟨⟨E,E,E,E,E,E,E,E,E,E,E,E,Y⟩,⟨.inl (zG (Ob.row 1 Aa) hsucc),E,Y⟩,E,E⟩
  ·rw[zD (by simp[h2])]at hsucc
   refine oD ?_
   refine⟨z_,?_⟩
   ((conv=>whnf);refine aF ?_;refine rg ?_;conv=>whnf)
   refine iW ?_
   exact A2 [] hlt ⟨⟨E,E,E,E,E,E,E,E,E,E,E,E,Y⟩,⟨.inl (zG (Ob.row 1 Aa) hsucc),E,Y⟩,E,E⟩
 ·have:j=n.ports.length:=qB h
  subst this
  refine Ag 1000 E ?_
  refine oO ?_
  exact dN
theorem Aje (n:Net) (hn:n.Fin) (l:List Domain) (p:Domain→Bool) (f:FuncId) (first cap:List SV) (hc:(SV.clo (.func f) first cap).inn []=true) (hf:∀ x∈l,D9 Tryz.prog f (first++[Ap x]++cap) (Ab (p x))) (hl:Ak l) :
  Sp 183 [Al n,.sl 6 Ap l,.clo (.func f) first cap] (Aa (if Ac n=true then Co p l else -1)):=cT F183 Tryz.ntmps183 λ F hF=>by
 have hr:=Ax n hn
 have q:=Eh l p f first cap hc hf hl
 conv=>whnf
 refine c0 hr F24 ?_
 cases hb:Ac n
 ·rw[zD y_]
  refine oT ?_
  exact dN
 rw[zE rfl]
 refine oF ?_
 refine Kx q F178 E E (by simp only[By,hc,vZ];rfl) E E ?_
 refine oO ?_
 exact dN
theorem Ai0 (dev vlan:Int) (d:Domain):Sp 184 [Ap d,.ref 1 (Aa dev) 0,.ref 1 (Aa vlan) 0] (Ab (d.dev == dev && d.vlan == vlan)):=cT F184 Tryz.ntmps184 λ F hF=>by
 conv=>whnf
 (repeat' (first | (refine⟨λ h=>?_,λ h=>?_⟩<;>(repeat (first | simp only[yF]at h | simp only[zL]at h))<;>((refine oO ?_))) | (refine Aq rfl (.cons .tmp .nil) ?_ rfl)))
 all_goals (refine zG Ab ?_)
 all_goals simp_all
def De (n:Net) (dev vlan:Int):Int:=if Ac n=true then Jm n dev vlan else -1
theorem Jc (n:Net) (hn:n.Fin) (dev vlan:Int):Sp 129 [Al n,Aa dev,Aa vlan] (Aa (De n dev vlan)):=cT F129 Tryz.ntmps129 λ F hF=>by
 have q:=Aje n hn n.domains (λ d=>d.dev == dev && d.vlan == vlan) 184 [] [.ref 1 (Aa dev) 0,.ref 1 (Aa vlan) 0] rfl (λ d _=>⟨⟨_,_,F184⟩,Ai0 dev vlan d⟩) hn.domains
 conv=>whnf
 refine A7 4 1 (Aa dev) E E E ?_
 refine A7 5 1 (Aa vlan) E E E ?_
 refine c0 q F183 ?_
 refine oO ?_
 exact dN
def D3 (n:Net) (i:Int):Int :=
 if (0≤i∧i<n.ports.length)∧0≤(nth n.ports i).link∧Ac n=true then
  (if (nth n.links (nth n.ports i).link).a=i then (nth n.links (nth n.ports i).link).b else (nth n.links (nth n.ports i).link).a) else -1
theorem Km {n:Net} (h:Ac n=true) {i:Nat} (hi:i<n.ports.length) (hl:0≤n.ports[i].link) :
  n.ports[i].link.toNat<n.links.length∧((nth n.links n.ports[i].link).a=i∨(nth n.links n.ports[i].link).b=i):=by
 have:=Ayr h hi
 simp only[Ll,An,zH,yO,zQ,yF]at this
 rcases this.2 with h1 | h1
 ·omega
 ·exact⟨by omega,h1.2⟩
theorem Xs (n:Net) (hn:n.Fin) (i:Int):Sp 287 [Al n,Aa i] (Aa (D3 n i)):=cT F287 Tryz.ntmps287 λ F hF=>by
 have hr:=Ax n hn
 conv=>whnf
 constructor<;>intro h
 ·have h1:i<0:=zK h
  rw[D3,zD q_]
  (refine oT ?_;refine bT ?_;refine bT ?_)
  exact dN
 have h1:0≤i:=qB h
 refine oO ?_
 constructor<;>intro h
 ·have h2:n.ports.length≤i:=zK h
  rw[D3,zD q_]
  (refine oT ?_;refine bT ?_)
  exact dN
 have h2:i<n.ports.length:=qB h
 have hk:i.toNat<n.ports.length:=by omega
 have e1:nth n.ports i=n.ports[i.toNat]:=Aj hk
 have hlk:=λ (hb:Ac n=true)=>Km hb hk
 rw[D3,e1]
 obtain ⟨p,hp⟩:∃ p,n.ports[i.toNat]=p:=⟨_,rfl⟩
 rw[hp]at hlk ⊢
 refine oO ?_
 refine⟨E,h1,hk,?_⟩
 rw[hp]
 conv=>whnf
 constructor<;>intro h
 ·have h3:p.link<0:=zK h
  rw[zD q_]
  refine oT ?_
  exact dN
 have h3:0≤p.link:=qB h
 refine oO ?_
 refine c0 hr F24 ?_
 cases hb:Ac n
 ·rw[zD y_]
  refine oT ?_
  exact dN
 rw[zE ⟨⟨h1,h2⟩,h3,rfl⟩]
 have hq:=hlk hb h3
 have e2:nth n.links p.link=n.links[p.link.toNat]:=Aj hq.1
 rw[e2]
 obtain ⟨l,hl⟩:∃ l,n.links[p.link.toNat]'hq.1=l:=⟨_,rfl⟩
 rw[hl]
 refine oF ?_
 refine⟨E,h1,hk,?_⟩
 rw[hp]
 conv=>whnf
 refine⟨E,h3,hq.1,?_⟩
 rw[hl]
 conv=>whnf
 refine kW ?_
 constructor<;>intro h
 ·have h4:l.a=i:=by simpa using h
  rw[zE h4]
  refine oO ?_
  exact dN
 ·have h4:¬ l.a=i:=by simpa using h
  rw[zD h4]
  refine oO ?_
  exact dN
end Go.Sy.YtiijbikecbjdaaaGreatDoor
