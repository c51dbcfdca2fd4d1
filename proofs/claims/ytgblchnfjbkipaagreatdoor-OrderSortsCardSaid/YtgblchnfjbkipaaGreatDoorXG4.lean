/-
  Sy21 A4 R1 R2 A5 R3 R5 R6 A6 R7 R8 K0 E7 E8 E9 E10 E11 E12 E13 E14 E15 A7 E21 E29 I6 I11 I41 S0 I31 I7l I8l S3 I37 I15: parts of a proof, joined by program.
-/
import Derived.Test.YtgblchnfjbkipaaGreatDoorXG3
import Derived.ProofKit
import Derived.OpenShut
import Derived.Scope
import Derived.Laws.Bits64b
import Derived.Test.YtgblchnfjbkipaaGreatDoorXG1
namespace Go.Sy
open Go.ChangeShapes Go.WideShapes Go.ChangeAt Go.RowKit
def κ0:Ka:=⟨fun _=>.new,fun _=>False⟩
theorem inv0 (w:World):Inv κ0 w :=
 ⟨fun i j b h=>(by cases h),fun k b h=>(by cases h),fun k b h=>(by cases h),fun b h=>False.elim h⟩
theorem La {w w':World} {κ':Ka} (c:Ctx ⟨w,κ0,[]⟩ κ' w'):Below w.heap.size w w' :=
 ⟨c.os,c.tape,c.output,c.size,fun k hk=>c.old k hk (fun j h=>by cases h)⟩
section
variable {H:Type} {enc:TypeId × Value→H} {P:Program}
theorem Jf {W W':World} (hl:laidOutB P=true) (hb:Below W.heap.size W W'):∀ {ts:List TypeId} {vs:List Value} {ds:List (DataW H)} {ps:List MemPlace},(∀ t∈ts,P.readableRec t=true∧t<P.types.size) →
  (∀ x∈ps,x.block<W.heap.size)→DataW.TrodAll enc P W 0 (fun _=>true) true ts vs ds ps→DataW.TrodAll enc P W' 0 (fun b=>decide (b<W.heap.size)) true ts vs ds ps
 | [],_,_,_,_,_,h=>by
  obtain ⟨rfl,rfl,rfl⟩:=trodAll_nil h
  rfl
 | t::ts,_,_,_,ht,hp,h=>by
  obtain ⟨v,vs,d,ds,p,q,rfl,rfl,rfl,h1,h2⟩:=trodAll_cons h
  have:=ht t qd
  exact⟨p,q,Below.trod hl this.1 this.2 h1 hb (fun x hx=>hp x (by simp[hx])),Jf hl hb (fun t h=>ht t (by simp[h])) (fun x hx=>hp x (by simp[hx])) h2,q_⟩
theorem Zi {f:FuncId} {fn:Func} {s:ChangeSpec} {W:World} {args:Array Value} {ds gs:List (DataW H)} {before:List MemPlace} {tb:TypeId} {A:List SV} (hv:s.vars=[]) (hl:laidOutB P=true)
  (hW:DataW.Whole enc P fn.params.toList s.vars false W args.toList ds gs before) (hts:∀ t∈fn.params.toList,P.readableRec t=true∧t<P.types.size) (hrt:fn.resultTypes=#[tb]) (hbt:P.underlying tb=some .bool)
  (hfn:∀ gs:List (DataW H),gs=[]→s.fn H (ds++gs)={ results:=[.lit (.bool true)],args:=ds }) (hA:RdL κ0 W A args.toList) (hs:Sy.Spec P f A [] (Af true) []) :
  Calls P f args W fun e W'=>∃ v,e=.returned v∧s.post enc P fn false true false false W args v W':=by
 have hc:=hs κ0 W args.toList (inv0 W) (fun k hk=>absurd rfl hk) hA (fun p hp=>by cases hp)
 simp only[Array.toArray_toList]at hc
 refine hc.mono ?_
 rintro e W' ⟨v,κ',rfl,ctx,inv,hR,_⟩
 have hvv:v=.bool true:=by simpa [Af,Rd] using hR
 subst hvv
 have hb:=La ctx
 have hW':=hW
 obtain ⟨p,q,h1,h2,h3,h4,h5⟩:=hW
 have hgs:gs=[]∧q=[]:=by
  rw[hv]at h2
  exact trodVars_none h2
 obtain ⟨rfl,rfl⟩:=hgs
 rw[List.append_nil]at h3
 subst h3
 have hlt:∀ x∈before,x.block<W.heap.size:=fun x hx=>by simpa using hW'.lt x hx
 refine⟨_,rfl,ds,[],before,[],before,[],hW',?_,?_,?_,?_,fun h=>by cases h⟩
 ·rw[hfn [] rfl,hrt]
  exact trodAll_mk1 (shut_bool hbt true)
 ·rw[hfn [] rfl]
  exact Jf hl hb hts hlt h1
 ·rw[hv,hfn [] rfl]
  rfl
 ·exact hb.frame _
end
end Go.Sy
namespace Go.Sy
open Go.RowKit
theorem Spec.calls {P:Program} {f:FuncId} {A:List SV} {R:SV} (h:Sy.Spec P f A [] R []) {w:World} {vs:List Value} (hA:RdL κ0 w A vs) :
  Calls P f vs.toArray w fun e w'=>∃ v κ',e=.returned v∧Rd κ' w' R v∧Below w.heap.size w w':=by
 refine(h κ0 w vs (inv0 w) (fun k hk=>absurd rfl hk) hA (fun p hp=>by cases hp)).mono ?_
 rintro e w' ⟨v,κ',rfl,ctx,inv,hR,_⟩
 exact⟨v,κ',q_,hR,La ctx⟩
theorem Spec.calls_tup2 {P:Program} {f:FuncId} {A:List SV} {a b:Value} (h:Sy.Spec P f A [] (.tup [.val a,.val b]) []) {w:World} {vs:List Value} (hA:RdL κ0 w A vs) :
  Calls P f vs.toArray w fun e w'=>e=.returned (.tuple #[a,b])∧Below w.heap.size w w' :=
 (h.calls hA).mono fun e w' ⟨v,κ',he,hv,hb⟩=>by
  simp only[Rd,RdL]at hv
  obtain ⟨cs,rfl,_,_,rfl,rfl,_,_,rfl,rfl,rfl⟩:=hv
  exact⟨he,hb⟩
theorem Spec.of_calls2 {P:Program} {f:FuncId} {A:List SV} {H:Obs} {a b:Value}
  (h:∀ (κ:Ka) (w:World) (vs:List Value),Inv κ w→RdL κ w A vs→H.ok κ w→Calls P f vs.toArray w fun e w'=>e=.returned (.tuple #[a,b])∧Below w.heap.size w w'):Spec P f A H (.tup [.val a,.val b]) H:=by
 intro κ w vs hi _ hr ho
 refine(h κ w vs hi hr ho).mono fun e w' hw=>?_
 obtain ⟨he,hw⟩:=hw
 have g:Grew w w':=⟨hw.os,hw.tape,hw.output,hw.size,hw.block⟩
 have st:=Q8 hi g
 exact⟨.tuple #[a,b],κ,he,(Ctx.refl κ w).step st.2 st.1,st.2,by simp[Rd,RdL],fun p hp=>ObOK.step st.1 qd p.2 (ho p hp)⟩
theorem Qb {w w':World} (h:Below w.heap.size w w'):KeepsOthers w w':=⟨h.size,fun k o hk _=>(h.block k (Array.getElem?_eq_some_iff.1 hk).1).trans hk⟩
theorem Qm {A B:World} {row:Option Nat} {k:Nat} {v:Value} (h:A.cell? ⟨k,0,none⟩=some v) (hg:A.grownBy B row) (hr:row≠some k):B.cell? ⟨k,0,none⟩=some v∧B.frozen? ⟨k,0,none⟩=A.frozen? ⟨k,0,none⟩:=by
 obtain ⟨o,ho,_⟩:=cells_of_cell h
 obtain ⟨_,_,_,_,h5⟩:=hg
 have e:B.heap[k]? = A.heap[k]?:=h5 k (Array.getElem?_eq_some_iff.1 ho).1 (fun e=>hr e.symm)
 refine⟨(World.cell?_of_block e).trans h,?_⟩
 unfold World.frozen?
 rw[e]
def Var1 (W:World) (k:Nat) (v:Value):Prop:=W.cell? ⟨k,0,none⟩=some v∧W.frozen? ⟨k,0,none⟩=false
theorem Var1.at {W:World} {B:Nat} {v:Value} {t:TypeId} (h:W.heap[B]? = some (.cells #[v] t (0,0))):Var1 W B v:=by
 constructor<;>simp[World.cell?,World.frozen?,h]
theorem Var1.below {A B:World} {k:Nat} {v:Value} (h:Var1 A k v) (hb:Below A.heap.size A B):Var1 B k v:=by
 obtain ⟨o,ho,_⟩:=cells_of_cell h.1
 have e:B.heap[k]? = A.heap[k]?:=hb.block k (Array.getElem?_eq_some_iff.1 ho).1
 refine⟨(World.cell?_of_block e).trans h.1,?_⟩
 rw[← h.2]
 unfold World.frozen?
 rw[e]
theorem Var1.new (W:World) (v:Value) (t:TypeId) {k:Nat} (hk:k=W.heap.size):Var1 (W.alloc (.cells #[v] t)) k v:=by
 subst hk
 exact Var1.at (World.alloc_heap_new W _)
theorem Var1.grown {A B:World} {row:Option Nat} {k:Nat} {v:Value} (h:Var1 A k v) (hg:A.grownBy B row) (hr:row≠some k):Var1 B k v :=
 ⟨(Qm h.1 hg hr).1,(Qm h.1 hg hr).2.trans h.2⟩
theorem Var1.alloc {A:World} {k:Nat} {v:Value} (h:Var1 A k v) (o:Obj):Var1 (A.alloc o) k v:=h.grown (World.grownBy_alloc A o none) qd
theorem Var1.set {A:World} {k:Nat} {v:Value} (h:Var1 A k v) (u:Value):Var1 (A.setCell ⟨k,0,none⟩ u) k u :=
 ⟨World.cell?_setCell_same' _ _ _ (by rw[h.1];rfl),by rw[World.frozen?_setCell];exact h.2⟩
theorem Var1.other {A:World} {k b:Nat} {v:Value} (h:Var1 A k v) (hb:b≠k) (u:Value):Var1 (A.setCell ⟨b,0,none⟩ u) k v :=
 ⟨(World.cell?_setCell_other _ _ _ _ (by intro e;cases e;exact hb rfl)).trans h.1,by rw[World.frozen?_setCell];exact h.2⟩
end Go.Sy
namespace Go.Proofs
open Go.RowKit Go.Shelf Go.Sy Go.Sy.YtgblchnfjbkipaaGreatDoor
attribute [local go_sem] Oper.semAt_some
theorem Tryz.splitSeq_calls (s:ByteArray) (w:World):Calls Tryz.prog 240 #[.string s,.string ⟨#[46]⟩] w fun e w' =>
  e=.returned (.func (.func 346) #[] #[.pointer (some ⟨w.heap.size+1,0,none⟩),.pointer (some ⟨w.heap.size,0,none⟩),.pointer (some ⟨w.heap.size+2,0,none⟩)]) ∧
   w'=((w.alloc (.cells #[.string s] 9)).alloc (.cells #[.string ⟨#[46]⟩] 9)).alloc (.cells #[.int .i64 0] 3):=by
 have q:Calls Tryz.prog 293 #[.string s,.string ⟨#[46]⟩,.int .i64 0] w fun e w' =>
  e=.returned (.func (.func 346) #[] #[.pointer (some ⟨w.heap.size+1,0,none⟩),.pointer (some ⟨w.heap.size,0,none⟩),.pointer (some ⟨w.heap.size+2,0,none⟩)]) ∧
   w'=((w.alloc (.cells #[.string s] 9)).alloc (.cells #[.string ⟨#[46]⟩] 9)).alloc (.cells #[.int .i64 0] 3):=by
  refine(callsIn_wide (n:=3)).1 ?_
  refine callsIn_of_wp Tryz.func293 Go.Sy.q_ Go.Sy.z_ ?_ Go.Sy.q_
  simp only[Tryz.ntmps293,List.size_toArray,List.length_cons,List.length_nil,Nat.reduceAdd,Nat.reduceSub,Array.replicate_succ,Array.replicate_zero,List.push_toArray,List.append_toArray,List.nil_append,List.cons_append]
  gi_wp2
  go_ret
  exact⟨Go.Sy.q_,Go.Sy.q_⟩
 refine(callsIn_wide (n:=3)).1 ?_
 refine callsIn_of_wp Tryz.func240 Go.Sy.q_ Go.Sy.z_ ?_ Go.Sy.q_
 simp only[Tryz.ntmps240,List.size_toArray,List.length_cons,List.length_nil,Nat.reduceAdd,Nat.reduceSub,Array.replicate_succ,Array.replicate_zero,List.push_toArray,List.append_toArray,List.nil_append,List.cons_append]
 gi_wp2
 refine⟨Go.Sy.z_,?_⟩
 refine(callsIn_wide.2 q).mono ?_
 rintro e w' ⟨rfl,rfl⟩
 gi_wp2
 go_ret
 exact⟨Go.Sy.q_,Go.Sy.q_⟩
def Mw:List ByteArray→Int
 | []=>0
 | l=>l.foldl (fun a x=>bits .or .u32 (IntKind.u32.wrap (a * 2 ^ 8)) (IntKind.u32.wrap (smallT x 255).1)) 0
def Y8 (x:ByteArray):Bool:=(smallT x 255).2
def Bl (s:ByteArray):Int × Bool:=if (A5 46 s).length=4∧(A5 46 s).all Y8=true then (Mw (A5 46 s),true) else (0,false)
theorem J8 (l:List ByteArray) (x:ByteArray):Mw (l++[x])=bits .or .u32 (IntKind.u32.wrap (Mw l * 2 ^ 8)) (IntKind.u32.wrap (smallT x 255).1):=by
 cases l with
 | nil=>rfl
 | cons y l=>simp[Mw]
set_option maxRecDepth 100000 in
set_option maxHeartbeats 4000000 in
theorem Tryz.addrRead_calls (s:ByteArray) (hs:s.size<100000) (w:World):Calls Tryz.prog 187 #[.string s] w fun e w'=>e=.returned (.tuple #[.int .u32 (Bl s).1,.bool (Bl s).2])∧Below w.heap.size w w':=by
 refine(callsIn_wide (n:=5)).1 ?_
 refine callsIn_of_wp_marks Tryz.func187 Go.Sy.q_ Go.Sy.z_ ?_ Go.Sy.q_
 simp only[Tryz.ntmps187,List.size_toArray,List.length_cons,List.length_nil,Nat.reduceAdd,Nat.reduceSub,Array.replicate_succ,Array.replicate_zero,List.push_toArray,List.append_toArray,List.nil_append,List.cons_append]
 gi_wp2
 refine wpIn_wide.2 (wp_scope_straight ((wpIn_wide (n:=5)).1 ?_))
 gi_wp2
 refine wpIn_label ?_
 gi_wp2
 refine⟨Go.Sy.z_,?_⟩
 refine(callsIn_wide.2 (Tryz.splitSeq_calls s _)).mono ?_
 rintro e w' ⟨rfl,rfl⟩
 gi_wp2
 obtain ⟨W0,hW0⟩:∃ W0,((((w.alloc (.cells #[.int .u32 0] 24)).alloc (.cells #[.int .i64 0] 3)).alloc (.cells #[.string s] 9)).alloc (.cells #[.string ⟨#[46]⟩] 9)).alloc (.cells #[.int .i64 0] 3)=W0:=⟨_,rfl⟩
 have hsz:W0.heap.size=w.heap.size+5:=by rw[← hW0];simp
 have hB0:Below w.heap.size w W0:=by
  rw[← hW0]
  exact(((((Below.refl _ w).alloc (Nat.le_refl _) _).alloc Go.Sy.qd _).alloc (by simp;omega) _).alloc (by simp;omega) _).alloc (by simp;omega) _
 have ca:Var1 W0 w.heap.size (.int .u32 0):=by rw[← hW0];exact((((Var1.new _ _ _ rfl).alloc _).alloc _).alloc _).alloc _
 have ci:Var1 W0 (w.heap.size+1) (.int .i64 0):=by rw[← hW0];exact(((Var1.new (w.alloc _) _ _ Go.Sy.qd).alloc _).alloc _).alloc _
 have cs:Var1 W0 (w.heap.size+2) (.string s):=by rw[← hW0];exact((Var1.new ((w.alloc _).alloc _) _ _ Go.Sy.qd).alloc _).alloc _
 have cp:Var1 W0 (w.heap.size+3) (.string ⟨#[46]⟩):=by rw[← hW0];exact(Var1.new (((w.alloc _).alloc _).alloc _) _ _ Go.Sy.qd).alloc _
 have cv:Var1 W0 (w.heap.size+4) (.int .i64 0):=by rw[← hW0];exact Var1.new ((((w.alloc _).alloc _).alloc _).alloc _) _ _ Go.Sy.qd
 have cb:SeqBox W0 (w.heap.size+3) (w.heap.size+2) (w.heap.size+4) s:=⟨cp.1,cs.1,cv.1,cs.2⟩
 rw[hW0]
 clear hW0
 have hrow:∀ {k:Nat} {W:World} {row:Option Nat},k≤w.heap.size+1→(∀ r,row=some r→r=w.heap.size+2∨(W0.heap.size≤r∧∃ o:Obj,W.heap[r]? = some o∧o.isCells=false))→row≠some k:=fun hk hr e=>by
  rcases hr _ e with h | ⟨h,_⟩<;>omega
 have hge:∀ {W:World} {row:Option Nat},(∀ r,row=some r→r=w.heap.size+2∨(W0.heap.size≤r∧∃ o:Obj,W.heap[r]? = some o∧o.isCells=false))→∀ r,row=some r→w.heap.size≤r:=fun hr r e=>by
  rcases hr _ e with h | ⟨h,_⟩<;>omega
 refine I6 Go.Sy.q_ Go.Sy.j_ (gf:=346) (lb:=#[.pointer (some ⟨w.heap.size+3,0,none⟩),.pointer (some ⟨w.heap.size+2,0,none⟩),.pointer (some ⟨w.heap.size+4,0,none⟩)]) Go.Sy.q_ Go.Sy.z_ (enters_of Tryz.func346 Go.Sy.y_ Go.Sy.q_)
  (Tryz.split_stops s hs 4 Go.Sy.j_ (w.heap.size+3) (w.heap.size+2) (w.heap.size+4) ⟨by omega,by omega⟩ W0 cb Go.Sy.j_) (fun b hb=>by omega)
  (fun h k=>⟨k.1.trans h.1,k.2.1.trans h.2.1,k.2.2.trans h.2.2⟩)
  (fun W l o o' hl _ _ _=>⟨World.putObj_heap_other Go.Sy.j_,World.putObj_heap_other Go.Sy.j_,World.putObj_heap_other Go.Sy.j_⟩) (Below.refl _ _) (fun _=>rfl)
  (fun pre W=>Var1 W w.heap.size (.int .u32 (Mw pre))∧Var1 W (w.heap.size+1) (.int .i64 pre.length)∧(pre.length≤4∧pre.all Y8=true)∧Below w.heap.size w W∧w.heap.size+5≤W.heap.size)
  (fun c pre W=>c=.exit 0∧Var1 W (w.heap.size+1) (.int .i64 0)∧¬ (pre.length≤4∧pre.all Y8=true)∧Below w.heap.size w W)
  (fun pre A B row hs hg hr=>⟨hs.1.grown hg (hrow Go.Sy.j_ hr),hs.2.1.grown hg (hrow Go.Sy.j_ hr),hs.2.2.1,hs.2.2.2.1.grown hg hs.2.2.2.1.size (hge hr),Nat.le_trans hs.2.2.2.2 hg.size⟩)
  (fun c pre A B row hs hg hr=>⟨hs.1,hs.2.1.grown hg (hrow Go.Sy.j_ hr),hs.2.2.1,hs.2.2.2.grown hg hs.2.2.2.size (hge hr)⟩)
  ⟨ca,ci,⟨by simp,rfl⟩,hB0,by omega⟩
  (fun x=>{ tmps:=#[.string s,undef,.int .u32 0,.bool false,.pointer (some ⟨w.heap.size,0,none⟩),.pointer (some ⟨w.heap.size+1,0,none⟩),.string x,undef,undef,.string s,
   .func (.func 346) #[] #[.pointer (some ⟨w.heap.size+3,0,none⟩),.pointer (some ⟨w.heap.size+2,0,none⟩),.pointer (some ⟨w.heap.size+4,0,none⟩)],.string x,
   undef,undef,undef,undef,undef,undef,undef,undef,undef,undef,undef,undef,undef,undef,undef,undef,undef,undef,undef,undef,undef],defers:=[] }) ?assign ?body ?done ?stop
 case assign =>
  intro l x W K hK
  gi_wp2
  exact hK
 case body =>
  rintro l pre x W ⟨ha,hi,⟨hp1,hp2⟩,hB,hB5⟩ _
  have q:=(Qq x 255).calls_tup2 (w:=W) (vs:=[.string x,.int .i64 255]) (by simp only[RdL];exact⟨_,_,rfl,by simp[Rd,Ac],_,_,rfl,by simp[Rd,Aa],rfl⟩)
  have hsn:=J8 pre x
  have hal:((pre++[x]).all Y8)=Y8 x:=by rw[List.all_append,hp2];simp
  have hll:(pre++[x]).length=pre.length+1:=by simp
  have hox:Y8 x=(smallT x 255).2:=rfl
  generalize smallT x 255=sm at *
  obtain ⟨v,ok⟩:=sm
  dsimp only at hsn hox q
  gi_wp2
  refine⟨Go.Sy.z_,?_⟩
  refine(CallsIn.inRound l (callsIn_wide.2 q)).mono ?_
  rintro e w' ⟨rfl,hb⟩
  have ha':=ha.below hb
  have hi':=hi.below hb
  have hB':Below w.heap.size w w':=hB.trans (hb.mono hB.size)
  have hk1:=Qb hb
  have a1:=ha'.1
  have a2:=ha'.2
  have b1:=hi'.1
  have b2:=hi'.2
  have s1:∀ (u v:Value),Below w.heap.size w ((w'.setCell ⟨w.heap.size+1,0,none⟩ u).setCell ⟨w.heap.size+1,0,none⟩ v):=fun u v =>
   (hB'.setCell (p:=⟨w.heap.size+1,0,none⟩) (Nat.le_succ _) u).setCell (p:=⟨w.heap.size+1,0,none⟩) (Nat.le_succ _) v
  cases ok
  ·gi_wp2
   exact⟨hk1.trans ((KeepsOthers.setCell _ _ _).trans (KeepsOthers.setCell _ _ _)),rfl,(hi'.set _).set _,(fun e=>by rw[hal,hox]at e;cases e.2),s1 _ _⟩
  ·by_cases h4:pre.length+1≤4
   ·have hsn':Mw (pre++[x])=bits .or .u32 (Mw pre * 256 % 4294967296) (v % 4294967296):=by rw[hsn,IntKind.wrap_u32,IntKind.wrap_u32];rfl
    gi_wp2
    refine⟨hk1.trans ((KeepsOthers.setCell _ _ _).trans (KeepsOthers.setCell _ _ _)),⟨?_,?_,?_⟩,?_,?_,⟨by omega,by rw[hal,hox]⟩,?_,?_⟩
    ·rw[Below.heap_setCell _ _ _ _ Go.Sy.qd,Below.heap_setCell _ _ _ _ Go.Sy.qd]
     exact hb.block _ Go.Sy.j_
    ·rw[Below.heap_setCell _ _ _ _ Go.Sy.qd,Below.heap_setCell _ _ _ _ Go.Sy.qd]
     exact hb.block _ Go.Sy.j_
    ·rw[Below.heap_setCell _ _ _ _ Go.Sy.qd,Below.heap_setCell _ _ _ _ Go.Sy.qd]
     exact hb.block _ Go.Sy.j_
    ·rw[hsn']
     exact(ha'.other Go.Sy.qd _).set _
    ·rw[hll]
     exact(hi'.set _).other Go.Sy.qd _
    ·exact(hB'.setCell (p:=⟨w.heap.size+1,0,none⟩) (Nat.le_succ _) _).setCell (p:=⟨w.heap.size,0,none⟩) (Nat.le_refl _) _
    ·have:=hb.size
     simp
     omega
   ·gi_wp2
    exact⟨hk1.trans ((KeepsOthers.setCell _ _ _).trans (KeepsOthers.setCell _ _ _)),Go.Sy.q_,(hi'.set _).set _,fun e=>by omega,s1 _ _⟩
 case done =>
  rintro D xs W hD rfl ⟨ha,hi,⟨hp1,hp2⟩,hB,_⟩ hK
  have a1:=ha.1
  have a2:=ha.2
  have b1:=hi.1
  have b2:=hi.2
  by_cases h4:(A5 46 s).length=4
  ·have hr:Bl s=(Mw (A5 46 s),true):=by rw[Bl,if_pos ⟨h4,hp2⟩]
   gi_wp2
   refine⟨by simp,.inl ⟨_,_,Go.Sy.q_,run_takeDeferred hK,?_⟩⟩
   exact⟨_,results_tmp2 Go.Sy.q_ _ _ _,by rw[hr];rfl,hB.trans (belowK_b (w:=w) (Nat.le_refl _) W D _ _ Go.Sy.j_ hK Go.Sy.q_ Go.Sy.q_)⟩
  ·have hr:Bl s=(0,false):=by rw[Bl,if_neg (fun e=>h4 e.1)]
   gi_wp2
   refine⟨by simp,.inl ⟨_,_,Go.Sy.q_,run_takeDeferred hK,?_⟩⟩
   exact⟨_,results_tmp2 Go.Sy.q_ _ _ _,by rw[hr];rfl,hB.trans (belowK_b (w:=w) (Nat.le_refl _) W D _ _ Go.Sy.j_ hK Go.Sy.q_ Go.Sy.q_)⟩
 case stop =>
  rintro D c pre W hD hpre ⟨rfl,hi,hbad,hB⟩ hK
  have b1:=hi.1
  have b2:=hi.2
  have hr:Bl s=(0,false):=by
   rw[Bl,if_neg]
   intro e
   refine hbad ⟨by have:=hpre.length_le;omega,?_⟩
   rw[List.all_eq_true]at e ⊢
   exact fun x hx=>e.2 x (hpre.subset hx)
  gi_wp2
  refine⟨by simp,.inl ⟨_,_,Go.Sy.q_,run_takeDeferred hK,?_⟩⟩
  exact⟨_,results_tmp2 Go.Sy.q_ _ _ _,by rw[hr];rfl,hB.trans (belowK_b (w:=w) (Nat.le_refl _) W D _ _ Go.Sy.j_ hK Go.Sy.q_ Go.Sy.q_)⟩
end Go.Proofs
namespace Go.Sy.YtgblchnfjbkipaaGreatDoor
open Go.Proofs
theorem L0 (s:ByteArray) (hs:s.size<100000):Sy.Spec Tryz.prog 187 [Ac s] [] (.tup [Aw (Bl s).1,Af (Bl s).2]) [] :=
 Spec.of_calls2 fun κ w vs _ hr _=>by
  simp only[RdL]at hr
  obtain ⟨v,r,rfl,hv,rfl⟩:=hr
  simp only[Ac,Rd]at hv
  subst hv
  exact Tryz.addrRead_calls s hs w
end Go.Sy.YtgblchnfjbkipaaGreatDoor
namespace Go.Sy.YtgblchnfjbkipaaGreatDoor
open Go.Proofs
attribute [local irreducible] Go.Sy.G Go.Sy.DR
set_option maxRecDepth 100000
set_option maxHeartbeats 4000000
def be:Nat→Nat→List UInt8
 | 0,_=>[]
 | k+1,m=>UInt8.ofNat (m / 256 ^ k)::be k m
end Go.Sy.YtgblchnfjbkipaaGreatDoor
namespace Go.Sy.YtgblchnfjbkipaaGreatDoor
def Ip (a bits:Int):Int:=if 0≤bits∧bits≤32 then a-a % 2 ^ (32-bits).toNat else 0
end Go.Sy.YtgblchnfjbkipaaGreatDoor
namespace Go.Sy.YtgblchnfjbkipaaGreatDoor
open Go.Proofs
attribute [local irreducible] Go.Sy.G Go.Sy.DR
set_option maxRecDepth 100000
set_option maxHeartbeats 4000000
def Do (a bits:Int):SV:=.agg [Aw a,Aa bits]
theorem J9 (a bits:Int):Sy.Spec Tryz.prog 296 [Do a bits] [] (Af (decide (0≤bits∧bits≤32))) []:=cT F296 Tryz.ntmps296 fun F hF=>by
 conv=>whnf
 (repeat' (first | (refine⟨fun h=>?_,fun h=>?_⟩<;>(repeat (first | simp only[decide_eq_true_eq]at h | simp only[decide_eq_false_iff_not]at h))<;>((refine oO ?_))) | (refine Bn rfl (.cons .tmp .nil) ?_ rfl)))
 all_goals (refine congrArg Af ?_;clear hF;grind)
theorem S0 (a bits:Int) (h:0≤bits∧bits≤32):Sy.Spec Tryz.prog 297 [Do a bits] [] (Aw (2 ^ (32-bits).toNat-1)) []:=cT F297 Tryz.ntmps297 fun F hF=>by
 conv=>whnf
 refine iW ?_
 refine⟨by omega,?_⟩
 conv=>whnf
 refine Bn q_ (.cons .tmp .nil) ?_ q_
 refine congrArg (fun z=>SV.val (.int .u32 z)) ?_
 obtain ⟨k,hk,hk2⟩:∃ k:Nat,(32-bits).toNat=k∧k≤32:=⟨_,rfl,by omega⟩
 have h1:min (32-bits).toNat IntKind.u32.bits=k:=by show min (32-bits).toNat 32=k;omega
 rw[h1,hk,IntKind.wrap_u32,IntKind.wrap_u32]
 have h2:(2:Int) ^ k≤4294967296:=by
  have:=Nat.pow_le_pow_right (n:=2) qc hk2
  rw[show (2:Int) ^ k=((2 ^ k:Nat):Int) by rw[Int.natCast_pow];rfl]
  have e:(2:Nat) ^ 32=4294967296:=rfl
  rw[e]at this
  omega
 have h0:(1:Int)≤2 ^ k:=by
  have:=Nat.one_le_two_pow (n:=k)
  rw[show (2:Int) ^ k=((2 ^ k:Nat):Int) by rw[Int.natCast_pow];rfl]
  omega
 generalize (2:Int) ^ k=q at *
 omega
theorem X2 (a k:Nat) (ha:a<4294967296) (hk:k≤32):bits .andNot .u32 (a:Int) ((2 ^ k-1:Nat):Int)=((a-a % 2 ^ k:Nat):Int):=by
 have hp:=Nat.pow_le_pow_right (n:=2) qc hk
 have e32:(2:Nat) ^ 32=4294967296:=rfl
 rw[e32]at hp
 have h1:=Nat.one_le_two_pow (n:=k)
 have x1:(BitVec.ofInt 32 (a:Int)).toNat=a:=by rw[BitVec.ofInt_natCast,BitVec.toNat_ofNat];exact Nat.mod_eq_of_lt j_
 have x2:(BitVec.ofInt 32 ((2 ^ k-1:Nat):Int)).toNat=2 ^ k-1:=by rw[BitVec.ofInt_natCast,BitVec.toNat_ofNat];exact Nat.mod_eq_of_lt j_
 have key:(BitVec.ofInt 32 (a:Int) &&& ~~~ BitVec.ofInt 32 ((2 ^ k-1:Nat):Int)).toNat=a-a % 2 ^ k:=by
  have hd:a-a % 2 ^ k=2 ^ k * (a / 2 ^ k):=by have:=Nat.div_add_mod a (2 ^ k);omega
  rw[hd]
  refine Nat.eq_of_testBit_eq fun i=>?_
  rw[BitVec.testBit_toNat,BitVec.getLsbD_and,BitVec.getLsbD_not,← BitVec.testBit_toNat,← BitVec.testBit_toNat,x1,x2,Nat.testBit_two_pow_sub_one,Nat.testBit_two_pow_mul,Nat.testBit_div_two_pow]
  by_cases hi:i<k
  ·have:¬ i≥k:=by omega
   simp[hi,this]
  ·have h2:i≥k:=by omega
   have h3:i-k+k=i:=by omega
   by_cases h4:i<32
   ·simp[hi,h2,h4,h3]
   ·have h5:a.testBit i=false:=Nat.testBit_lt_two_pow (Nat.lt_of_lt_of_le (by rw[← e32]at ha;exact ha) (Nat.pow_le_pow_right qc j_))
    rw[h3,h5]
    simp
 show IntKind.u32.wrap (((BitVec.ofInt 32 (a:Int) &&& ~~~ BitVec.ofInt 32 ((2 ^ k-1:Nat):Int)).toNat:Nat):Int)=_
 rw[key,IntKind.wrap_u32]
 omega
theorem Qi (a k:Nat) (bits:Int) (h:0≤bits∧bits≤32) (hk:(32-bits).toNat=k):Ip a bits=((a-a % 2 ^ k:Nat):Int):=by
 rw[Ip,if_pos h,hk]
 have h1:=Nat.mod_le a (2 ^ k)
 rw[show (2:Int) ^ k=((2 ^ k:Nat):Int) by rw[Int.natCast_pow];rfl]
 omega
theorem X6 (a:Nat) (bits:Int) (ha:a<4294967296):Sy.Spec Tryz.prog 244 [Do a bits] [] (Aw (Ip a bits)) []:=cT F244 Tryz.ntmps244 fun F hF=>by
 have hr:=J9 a bits
 by_cases hb:0≤bits∧bits≤32
 ·have hrest:=S0 a bits hb
  rw[decide_eq_true hb]at hr
  obtain ⟨k,hk,hk2⟩:∃ k:Nat,(32-bits).toNat=k∧k≤32:=⟨_,rfl,by omega⟩
  have hn:=X2 a k ha hk2
  have hf:=Qi a k bits hb hk
  have h1:=Nat.one_le_two_pow (n:=k)
  have e2:(2:Int) ^ k-1=((2 ^ k-1:Nat):Int):=by
   rw[show (2:Int) ^ k=((2 ^ k:Nat):Int) by rw[Int.natCast_pow];rfl]
   omega
  rw[hk,e2]at hrest
  rw[hf,← hn]
  ((conv=>whnf);repeat((first|refine aF ?_|refine aT ?_);(first|refine rG Γ hm ?_|refine rD Γ hm y_ ?_);conv=>whnf))
  refine c0 hr F296 ?_
  ((first|refine rG Γ hm ?_|refine rD Γ hm y_ ?_);(conv=>whnf);repeat((first|refine aF ?_|refine aT ?_);(first|refine rG Γ hm ?_|refine rD Γ hm y_ ?_);conv=>whnf))
  first | refine cD hrest F297 ?_ | refine c0 hrest F297 ?_
  ((first|refine rG Γ hm ?_|refine rD Γ hm y_ ?_);(conv=>whnf);repeat((first|refine aF ?_|refine aT ?_);(first|refine rG Γ hm ?_|refine rD Γ hm y_ ?_);conv=>whnf))
  first | (refine⟨y_,?_⟩;((conv=>whnf);repeat((first|refine aF ?_|refine aT ?_);(first|refine rG Γ hm ?_|refine rD Γ hm y_ ?_);conv=>whnf))) | skip
  exact dN
 ·rw[decide_eq_false hb]at hr
  have hf:Ip a bits=0:=by rw[Ip,if_neg hb]
  rw[hf]
  ((conv=>whnf);repeat((first|refine aF ?_|refine aT ?_);(first|refine rG Γ hm ?_|refine rD Γ hm y_ ?_);conv=>whnf))
  refine c0 hr F296 ?_
  ((first|refine rG Γ hm ?_|refine rD Γ hm y_ ?_);(conv=>whnf);repeat((first|refine aF ?_|refine aT ?_);(first|refine rG Γ hm ?_|refine rD Γ hm y_ ?_);conv=>whnf))
  exact dN
def O9 (a bits:Int):Int:=if 0≤bits∧bits≤32 then Ip a bits+2 ^ (32-bits).toNat-1 else 0
theorem or_low (a k:Nat) (ha:a<4294967296) (hk:k≤32):bits .or .u32 (a:Int) ((2 ^ k-1:Nat):Int)=((a-a % 2 ^ k+(2 ^ k-1):Nat):Int):=by
 have hp:=Nat.pow_le_pow_right (n:=2) qc hk
 have e32:(2:Nat) ^ 32=4294967296:=rfl
 rw[e32]at hp
 have h1:=Nat.one_le_two_pow (n:=k)
 have x1:(BitVec.ofInt 32 (a:Int)).toNat=a:=by rw[BitVec.ofInt_natCast,BitVec.toNat_ofNat];exact Nat.mod_eq_of_lt j_
 have x2:(BitVec.ofInt 32 ((2 ^ k-1:Nat):Int)).toNat=2 ^ k-1:=by rw[BitVec.ofInt_natCast,BitVec.toNat_ofNat];exact Nat.mod_eq_of_lt j_
 have hd:a-a % 2 ^ k=2 ^ k * (a / 2 ^ k):=by have:=Nat.div_add_mod a (2 ^ k);omega
 have hsum:=Nat.two_pow_add_eq_or_of_lt (i:=k) (b:=2 ^ k-1) j_ (a / 2 ^ k)
 have key:(BitVec.ofInt 32 (a:Int) ||| BitVec.ofInt 32 ((2 ^ k-1:Nat):Int)).toNat=a-a % 2 ^ k+(2 ^ k-1):=by
  rw[hd,hsum]
  refine Nat.eq_of_testBit_eq fun i=>?_
  rw[BitVec.testBit_toNat,BitVec.getLsbD_or,← BitVec.testBit_toNat,← BitVec.testBit_toNat,x1,x2,Nat.testBit_or,Nat.testBit_two_pow_sub_one,Nat.testBit_two_pow_mul,Nat.testBit_div_two_pow]
  by_cases hi:i<k
  ·simp[hi]
  ·have h2:i≥k:=by omega
   have h3:i-k+k=i:=by omega
   simp[hi,h2,h3]
 show IntKind.u32.wrap (((BitVec.ofInt 32 (a:Int) ||| BitVec.ofInt 32 ((2 ^ k-1:Nat):Int)).toNat:Nat):Int)=_
 have hlt:(BitVec.ofInt 32 (a:Int) ||| BitVec.ofInt 32 ((2 ^ k-1:Nat):Int)).toNat<4294967296:=BitVec.isLt _
 rw[key]at hlt
 rw[key,IntKind.wrap_u32]
 omega
theorem Zj (a k:Nat) (bits:Int) (h:0≤bits∧bits≤32) (hk:(32-bits).toNat=k):O9 a bits=((a-a % 2 ^ k+(2 ^ k-1):Nat):Int):=by
 rw[O9,if_pos h,hk,Qi a k bits h hk]
 have h1:=Nat.one_le_two_pow (n:=k)
 rw[show (2:Int) ^ k=((2 ^ k:Nat):Int) by rw[Int.natCast_pow];rfl]
 omega
theorem Zw (a:Nat) (bits:Int) (ha:a<4294967296):Sy.Spec Tryz.prog 245 [Do a bits] [] (Aw (O9 a bits)) []:=cT F245 Tryz.ntmps245 fun F hF=>by
 have hr:=J9 a bits
 by_cases hb:0≤bits∧bits≤32
 ·have hrest:=S0 a bits hb
  rw[decide_eq_true hb]at hr
  obtain ⟨k,hk,hk2⟩:∃ k:Nat,(32-bits).toNat=k∧k≤32:=⟨_,rfl,by omega⟩
  have hn:=or_low a k ha hk2
  have hf:=Zj a k bits hb hk
  have h1:=Nat.one_le_two_pow (n:=k)
  have e2:(2:Int) ^ k-1=((2 ^ k-1:Nat):Int):=by
   rw[show (2:Int) ^ k=((2 ^ k:Nat):Int) by rw[Int.natCast_pow];rfl]
   omega
  rw[hk,e2]at hrest
  rw[hf,← hn]
  ((conv=>whnf);repeat((first|refine aF ?_|refine aT ?_);(first|refine rG Γ hm ?_|refine rD Γ hm y_ ?_);conv=>whnf))
  refine c0 hr F296 ?_
  ((first|refine rG Γ hm ?_|refine rD Γ hm y_ ?_);(conv=>whnf);repeat((first|refine aF ?_|refine aT ?_);(first|refine rG Γ hm ?_|refine rD Γ hm y_ ?_);conv=>whnf))
  first | refine cD hrest F297 ?_ | refine c0 hrest F297 ?_
  ((first|refine rG Γ hm ?_|refine rD Γ hm y_ ?_);(conv=>whnf);repeat((first|refine aF ?_|refine aT ?_);(first|refine rG Γ hm ?_|refine rD Γ hm y_ ?_);conv=>whnf))
  first | (refine⟨y_,?_⟩;((conv=>whnf);repeat((first|refine aF ?_|refine aT ?_);(first|refine rG Γ hm ?_|refine rD Γ hm y_ ?_);conv=>whnf))) | skip
  exact dN
 ·rw[decide_eq_false hb]at hr
  have hf:O9 a bits=0:=by rw[O9,if_neg hb]
  rw[hf]
  ((conv=>whnf);repeat((first|refine aF ?_|refine aT ?_);(first|refine rG Γ hm ?_|refine rD Γ hm y_ ?_);conv=>whnf))
  refine c0 hr F296 ?_
  ((first|refine rG Γ hm ?_|refine rD Γ hm y_ ?_);(conv=>whnf);repeat((first|refine aF ?_|refine aT ?_);(first|refine rG Γ hm ?_|refine rD Γ hm y_ ?_);conv=>whnf))
  exact dN
end Go.Sy.YtgblchnfjbkipaaGreatDoor
namespace Go.Sy.YtgblchnfjbkipaaGreatDoor
open Go.Proofs
def Tv (m:Nat):Bool:=decide (m / 1099511627776 % 2=1)
theorem Acf (m k:Nat):m &&& 2 ^ k=if m / 2 ^ k % 2=1 then 2 ^ k else 0:=by
 apply Nat.eq_of_testBit_eq
 intro i
 rw[Nat.testBit_and,Nat.testBit_two_pow]
 by_cases hi:k=i
 ·subst hi
  rw[decide_eq_true rfl,Bool.and_true,Nat.testBit_eq_decide_div_mod_eq]
  split
  ·rename_i h;rw[decide_eq_true h,Nat.testBit_two_pow_self]
  ·rename_i h;rw[decide_eq_false h,Nat.zero_testBit]
 ·rw[decide_eq_false hi,Bool.and_false]
  split
  ·rw[Nat.testBit_two_pow,decide_eq_false hi]
  ·rw[Nat.zero_testBit]
theorem Zl (m:Nat) (h:m<18446744073709551616):(bits .and .u64 (m:Int) 1099511627776 != 0)=Tv m:=by
 have e:=bits_and_u64_nat m 1099511627776 h qc
 rw[show ((1099511627776:Nat):Int)=1099511627776 from rfl]at e
 rw[e,show (1099511627776:Nat)=2 ^ 40 from rfl,Acf,Tv,show (1099511627776:Nat)=2 ^ 40 from rfl]
 split
 ·rename_i h;rw[decide_eq_true h];rfl
 ·rename_i h;rw[decide_eq_false h];rfl
end Go.Sy.YtgblchnfjbkipaaGreatDoor
namespace Go.Sy.YtgblchnfjbkipaaGreatDoor
open Go.Proofs
attribute [local irreducible] Go.Sy.G Go.Sy.DR
set_option maxRecDepth 20000
set_option maxHeartbeats 8000000
theorem Qr:∀ (n:Nat) (l:List UInt8),n<1000000000000000000→l.length+(revDigs n).length<1000000 →
  Sy.Spec Tryz.prog 300 [.osl 0,Aa n] [(0,.row 1 An l)] (.osl 1) [(0,.non),(1,.row 1 An (l++(revDigs n).reverse))]:=by
 intro n
 induction n using Nat.strongRecOn with
 | ind n ih =>
  intro l hn hl
  have hpos:=E1 n
  have hrev:=Ur n
  have hlr:(revDigs n).reverse.length=(revDigs n).length:=List.length_reverse
  refine Hc Γ hm 100 F300 Tryz.ntmps300 q_ fun F hF=>by
   ((conv=>whnf);repeat((first|refine aF ?_|refine aT ?_);(first|refine rG Γ hm ?_|refine rD Γ hm y_ ?_);conv=>whnf))
   refine⟨fun h=>?_,fun h=>?_⟩
   ·have h1:¬ n<10:=qA h
    rw[if_neg h1]at hrev
    have hlen:(revDigs (n / 10)).length+1=(revDigs n).length:=by
     rw[← hlr,hrev];simp
    have q:=ih (n / 10) j_ l j_ j_
    ((first|refine rG Γ hm ?_|refine rD Γ hm y_ ?_);(conv=>whnf);repeat((first|refine aF ?_|refine aT ?_);(first|refine rG Γ hm ?_|refine rD Γ hm y_ ?_);conv=>whnf))
    refine⟨by decide,?_⟩
    ((conv=>whnf);repeat((first|refine aF ?_|refine aT ?_);(first|refine rG Γ hm ?_|refine rD Γ hm y_ ?_);conv=>whnf))
    rw[tdiv10 n hn]
    refine Cd (Ad [(0,0),(1,1000)] q_ F300 q q_ ⟨q_,z_⟩ q_ ⟨.inl q_,.inr q_,z_⟩) q_ q_ ?_
    ((first|refine rG Γ hm ?_|refine rD Γ hm y_ ?_);(conv=>whnf);repeat((first|refine aF ?_|refine aT ?_);(first|refine rG Γ hm ?_|refine rD Γ hm y_ ?_);conv=>whnf))
    refine⟨by decide,?_⟩
    ((conv=>whnf);repeat((first|refine aF ?_|refine aT ?_);(first|refine rG Γ hm ?_|refine rD Γ hm y_ ?_);conv=>whnf))
    rw[Z4 n]
    refine iL ?_
    ((conv=>whnf);repeat((first|refine aF ?_|refine aT ?_);(first|refine rG Γ hm ?_|refine rD Γ hm y_ ?_);conv=>whnf))
    rw[dig8 n]
    refine Cd (Ag Γ.toTy 17 rfl rfl rfl rfl rfl (.row rfl) (.lit (e:=An) (l:=[UInt8.ofNat (48+n % 10)]) rfl rfl) (fun j hj=>by cases hj;decide) (by simp;omega) (by simp;omega)) rfl rfl ?_
    ((first|refine rG Γ hm ?_|refine rD Γ hm y_ ?_);(conv=>whnf);repeat((first|refine aF ?_|refine aT ?_);(first|refine rG Γ hm ?_|refine rD Γ hm y_ ?_);conv=>whnf))
    exact done q_ (.cons .tmp .nil) [(1,17)] [(0,.non),(1,.row 1 An (l++(revDigs n).reverse))] (fun _ h=>h) q_ q_ ⟨z_,⟨.inl q_,q_,.inl (by rw[hrev,← List.append_assoc];rfl),q_,z_⟩,q_,q_⟩
   ·have h1:n<10:=qB h
    rw[if_pos h1,List.nil_append]at hrev
    ((first|refine rG Γ hm ?_|refine rD Γ hm y_ ?_);(conv=>whnf);repeat((first|refine aF ?_|refine aT ?_);(first|refine rG Γ hm ?_|refine rD Γ hm y_ ?_);conv=>whnf))
    refine⟨by decide,?_⟩
    ((conv=>whnf);repeat((first|refine aF ?_|refine aT ?_);(first|refine rG Γ hm ?_|refine rD Γ hm y_ ?_);conv=>whnf))
    rw[Z4 n]
    refine iL ?_
    ((conv=>whnf);repeat((first|refine aF ?_|refine aT ?_);(first|refine rG Γ hm ?_|refine rD Γ hm y_ ?_);conv=>whnf))
    rw[dig8 n]
    refine Cd (Ag Γ.toTy 17 q_ q_ q_ q_ q_ (.row q_) (.lit (e:=An) (l:=[UInt8.ofNat (48+n % 10)]) q_ q_) qd (by simp;omega) (by simp;omega)) q_ q_ ?_
    ((first|refine rG Γ hm ?_|refine rD Γ hm y_ ?_);(conv=>whnf);repeat((first|refine aF ?_|refine aT ?_);(first|refine rG Γ hm ?_|refine rD Γ hm y_ ?_);conv=>whnf))
    exact done q_ (.cons .tmp .nil) [(1,17)] [(0,.non),(1,.row 1 An (l++(revDigs n).reverse))] (fun _ h=>h) q_ q_ ⟨z_,⟨.inl q_,q_,.inl (by rw[hrev];rfl),q_,z_⟩,q_,q_⟩
def octN (a i:Nat):Nat:=a / 256 ^ (3-i) % 256
def Jr (a:Nat):Nat→List UInt8
 | 0=>[]
 | j+1=>Jr a j++(if 0<j then [46] else [])++(revDigs (octN a j)).reverse
def C5 (a:Int):ByteArray:=mkT (Jr a.toNat 4)
theorem Mc (a i:Nat):(revDigs (octN a i)).length≤4:=B9 3 _ (by unfold octN;omega)
theorem Hw (a:Nat):∀ j,(Jr a j).length≤5 * j
 | 0=>by simp[Jr]
 | j+1=>by
  have:=Hw a j
  have h2:=Mc a j
  rw[Jr,List.length_append,List.length_append,List.length_reverse]
  split<;>simp<;>omega
theorem Y7 (a j:Nat) (ha:a<4294967296) (hj:j<4):IntKind.i64.wrap (IntKind.u8.wrap ((a:Int).fdiv (2 ^ (min (8 * (3-(j:Int))).toNat IntKind.u32.bits))))=((octN a j:Nat):Int):=by
 have h:(8 * (3-(j:Int))).toNat=8 * (3-j):=by omega
 have hb:min (8 * (3-j)) IntKind.u32.bits=8 * (3-j):=by show min _ 32=_;omega
 have hp:(2:Nat) ^ (8 * (3-j))=256 ^ (3-j):=by rw[Nat.pow_mul]
 rw[h,hb,show (2:Int) ^ (8 * (3-j))=((2 ^ (8 * (3-j)):Nat):Int) by rw[Int.natCast_pow];rfl,hp,Int.fdiv_eq_ediv_of_nonneg _ (Int.natCast_nonneg _),← Int.natCast_ediv,octN,IntKind.wrap_u8,IntKind.wrap_i64]
 have:a / 256 ^ (3-j)≤a:=Nat.div_le_self _ _
 omega
theorem Lz (a:Nat) (ha:a<4294967296):Sy.Spec Tryz.prog 251 [Aw a] [] (Ac (C5 a)) []:=cT F251 Tryz.ntmps251 fun F hF=>by
 ((conv=>whnf);repeat((first|refine aF ?_|refine aT ?_);(first|refine rG Γ hm ?_|refine rD Γ hm y_ ?_);conv=>whnf))
 refine Cz 3 1000 1 An q_ q_ ?_
 refine Dc 4 (fun j=>[(0,Aw a),(3,.osl 1000),(5,Aa j)]) (fun j=>[(1000,.row 1 An (Jr a j))]) []
  ⟨⟨rfl,rfl,rfl,rfl,rfl,rfl,trivial⟩,⟨.inl rfl,rfl,trivial⟩,rfl,rfl⟩ ?_
 intro j hj
 have hlu:=Hw a j
 have hsu:Jr a (j+1)=Jr a j++(if 0<j then [46] else [])++(revDigs (octN a j)).reverse:=rfl
 have hro:=Mc a j
 generalize hu:Jr a j=u at *
 ((first|refine rG Γ hm ?_|refine rD Γ hm y_ ?_);(conv=>whnf);repeat((first|refine aF ?_|refine aT ?_);(first|refine rG Γ hm ?_|refine rD Γ hm y_ ?_);conv=>whnf))
 refine⟨fun h=>?_,fun h=>?_⟩
 ·have hlt:j<4:=qA h
  have hsh:=Y7 a j ha hlt
  have hob:octN a j<1000000000000000000:=by unfold octN;omega
  ((first|refine rG Γ hm ?_|refine rD Γ hm y_ ?_);(conv=>whnf);repeat((first|refine aF ?_|refine aT ?_);(first|refine rG Γ hm ?_|refine rD Γ hm y_ ?_);conv=>whnf))
  refine⟨fun h=>?_,fun h=>?_⟩
  ·have h0:0<j:=qA h
   rw[if_pos h0]at hsu
   have q:=Qr (octN a j) (u++[46]) hob (by simp;omega)
   ((first|refine rG Γ hm ?_|refine rD Γ hm y_ ?_);(conv=>whnf);repeat((first|refine aF ?_|refine aT ?_);(first|refine rG Γ hm ?_|refine rD Γ hm y_ ?_);conv=>whnf))
   refine Cd (Ag Γ.toTy 12 q_ q_ q_ q_ q_ (.row q_) (.lit (e:=An) (l:=[46]) q_ q_) qc (by simp;omega) (by simp;omega)) q_ q_ ?_
   ((first|refine rG Γ hm ?_|refine rD Γ hm y_ ?_);(conv=>whnf);repeat((first|refine aF ?_|refine aT ?_);(first|refine rG Γ hm ?_|refine rD Γ hm y_ ?_);conv=>whnf))
   refine iL ?_
   ((conv=>whnf);repeat((first|refine aF ?_|refine aT ?_);(first|refine rG Γ hm ?_|refine rD Γ hm y_ ?_);conv=>whnf))
   refine iL ?_
   ((conv=>whnf);repeat((first|refine aF ?_|refine aT ?_);(first|refine rG Γ hm ?_|refine rD Γ hm y_ ?_);conv=>whnf))
   refine⟨by omega,?_⟩
   ((conv=>whnf);repeat((first|refine aF ?_|refine aT ?_);(first|refine rG Γ hm ?_|refine rD Γ hm y_ ?_);conv=>whnf))
   rw[hsh]
   refine Cd (Ad [(0,12),(1,1001)] q_ F300 q q_ ⟨q_,z_⟩ q_ ⟨.inl q_,.inr q_,z_⟩) q_ q_ ?_
   ((first|refine rG Γ hm ?_|refine rD Γ hm y_ ?_);(conv=>whnf);repeat((first|refine aF ?_|refine aT ?_);(first|refine rG Γ hm ?_|refine rD Γ hm y_ ?_);conv=>whnf))
   refine iL ?_
   ((conv=>whnf);repeat((first|refine aF ?_|refine aT ?_);(first|refine rG Γ hm ?_|refine rD Γ hm y_ ?_);conv=>whnf))
   exact Df [(1000,1001)] hlt ⟨⟨q_,q_,q_,q_,q_,q_,z_⟩,⟨.inl (congrArg (Ob.row 1 An) hsu),q_,z_⟩,q_,q_⟩
  ·have h0:¬ 0<j:=qB h
   rw[if_neg h0,List.append_nil]at hsu
   have q:=Qr (octN a j) u hob j_
   ((first|refine rG Γ hm ?_|refine rD Γ hm y_ ?_);(conv=>whnf);repeat((first|refine aF ?_|refine aT ?_);(first|refine rG Γ hm ?_|refine rD Γ hm y_ ?_);conv=>whnf))
   refine iL ?_
   ((conv=>whnf);repeat((first|refine aF ?_|refine aT ?_);(first|refine rG Γ hm ?_|refine rD Γ hm y_ ?_);conv=>whnf))
   refine iL ?_
   ((conv=>whnf);repeat((first|refine aF ?_|refine aT ?_);(first|refine rG Γ hm ?_|refine rD Γ hm y_ ?_);conv=>whnf))
   refine⟨by omega,?_⟩
   ((conv=>whnf);repeat((first|refine aF ?_|refine aT ?_);(first|refine rG Γ hm ?_|refine rD Γ hm y_ ?_);conv=>whnf))
   rw[hsh]
   refine Cd (Ad [(0,1000),(1,1001)] q_ F300 q q_ ⟨q_,z_⟩ q_ ⟨.inl q_,.inr q_,z_⟩) q_ q_ ?_
   ((first|refine rG Γ hm ?_|refine rD Γ hm y_ ?_);(conv=>whnf);repeat((first|refine aF ?_|refine aT ?_);(first|refine rG Γ hm ?_|refine rD Γ hm y_ ?_);conv=>whnf))
   refine iL ?_
   ((conv=>whnf);repeat((first|refine aF ?_|refine aT ?_);(first|refine rG Γ hm ?_|refine rD Γ hm y_ ?_);conv=>whnf))
   exact Df [(1000,1001)] hlt ⟨⟨q_,q_,q_,q_,q_,q_,z_⟩,⟨.inl (congrArg (Ob.row 1 An) hsu),q_,z_⟩,q_,q_⟩
 ·have:j=4:=qB h
  subst this
  subst hu
  ((first|refine rG Γ hm ?_|refine rD Γ hm y_ ?_);(conv=>whnf);repeat((first|refine aF ?_|refine aT ?_);(first|refine rG Γ hm ?_|refine rD Γ hm y_ ?_);conv=>whnf))
  refine Cd (Ci Γ.toTy (bs:=Jr a 4) q_ q_ q_ q_ q_ q_ q_ (.row q_)) q_ q_ ?_
  ((first|refine rG Γ hm ?_|refine rD Γ hm y_ ?_);(conv=>whnf);repeat((first|refine aF ?_|refine aT ?_);(first|refine rG Γ hm ?_|refine rD Γ hm y_ ?_);conv=>whnf))
  exact dN
end Go.Sy.YtgblchnfjbkipaaGreatDoor
namespace Go.Sy.YtgblchnfjbkipaaGreatDoor
open Go.Proofs
theorem C6 (a b:ByteArray):(a == b)=true↔a=b:=by
 cases a with
 | mk a =>
  cases b with
  | mk b =>
   show (a == b)=true↔_
   simp
instance:LawfulBEq ByteArray where
 eq_of_beq h:=(C6 _ _).1 h
 rfl:=(C6 _ _).2 rfl
def Aa2 (c:UInt8):Bool:=decide (97≤c.toNat) && decide (c.toNat≤122)
def Aco:List UInt8→Bool
 | []=>false
 | c::l=>Aa2 c && l.all fun c=>Aa2 c || Dy c
def Am (s:ByteArray):Bool:=Aco s.data.toList && decide (s.size≤12)
def Kv (s:ByteArray) (i:Nat):Bool:=decide (digI (Ak s (3 * i))≤15) && decide (digI (Ak s (3 * i+1))≤15) && (decide (5≤i) || decide ((Ak s (3 * i+2)).toNat=58))
def Ku (s:ByteArray):Nat→Int
 | 0=>0
 | i+1=>Ku s i * 256+digI (Ak s (3 * i)) * 16+digI (Ak s (3 * i+1))
def macR (s:ByteArray):Int × Bool:=if s.size=17∧(List.range 6).all (Kv s)=true then (Ku s 6,true) else (0,false)
def Hp (m:Int):Bool:=decide (m % 281474976710656 / 4294967296=512)
def statB (m:Int):Bool:=decide (m≤281474976710655) && !(Hp m) && !(Tv m.toNat)
def Cy (one:ByteArray→Int × Bool):List Int→List ByteArray→List Int × Bool
 | out,[]=>(out,true)
 | out,p::r=>if (one p).2=false∨out.length=16∨(∃ x,out.getLast? = some x∧(one p).1≤x) then ([],false) else Cy one (out++[(one p).1]) r
def C0 (one:ByteArray→Int × Bool) (s:ByteArray):List Int × Bool:=Cy one [] (A5 44 s)
def dash:ByteArray:=⟨#[45]⟩
def listR (most:Int) (s:ByteArray):List Int × Bool:=if s=dash then ([],true) else C0 (fun p=>numR p 1 most) s
def Ck (s:ByteArray):List Int × Bool:=C0 Bl s
def prefixR (s:ByteArray):(Int × Int) × Bool :=
 if (cutT 47 s).2.2=false∨(Bl (cutT 47 s).1).2=false∨(smallT (cutT 47 s).2.1 32).2=false then ((0,0),false) else (((Bl (cutT 47 s).1).1,(smallT (cutT 47 s).2.1 32).1),true)
def subnetB (a bits:Int):Bool:=decide (1≤bits) && decide (bits≤30) && decide (a≠Ip a bits) && decide (a≠O9 a bits)
def As:List (Bool × Int)→Int
 | []=>0
 | (b,e)::l=>if b=true then e else As l
def Ae (cur:Int) (b:Bool) (e:Int):Int:=if b=true∧cur=0 then e else cur
def kindL (s:ByteArray):Int :=
 if s=⟨#[100,101,118,105,99,101]⟩ then 1 else if s=⟨#[112,111,114,116]⟩ then 2 else if s=⟨#[108,105,110,107]⟩ then 3 else if s=⟨#[115,116,97,116,105,99]⟩ then 4
 else if s=⟨#[118,116,101,112]⟩ then 5 else if s=⟨#[118,110,105]⟩ then 6 else if s=⟨#[102,108,111,111,100]⟩ then 7 else if s=⟨#[118,114,102]⟩ then 8 else if s=⟨#[105,114,98]⟩ then 9 else 0
def accessT:ByteArray:=⟨#[97,99,99,101,115,115]⟩
def trunkT:ByteArray:=⟨#[116,114,117,110,107]⟩
def wdT (w:List ByteArray) (i:Nat):ByteArray:=(w[i]?).getD ⟨#[]⟩
def manyB (k:Int) (w:List ByteArray):Bool :=
 if k=0 then false
 else if k=2 then (if w.length<6 then false else if wdT w 4=accessT then decide (w.length=6) else if wdT w 4=trunkT then decide (w.length=7) else decide (w.length≤7))
 else if k=3∨k=4∨k=8∨k=9 then decide (w.length=5) else if k=5 then decide (w.length=3) else decide (w.length=4)
def membersB (vlan:Int) (tagged:List Int):Bool:=(decide (0<vlan) || !tagged.isEmpty) && !(tagged.contains vlan)
def lineZ:LineM:=⟨0,0,⟨#[]⟩,⟨#[]⟩,⟨#[]⟩,⟨#[]⟩,⟨#[]⟩,0,0,0,0,0,0,[],[],[],[]⟩
def Be (s:ByteArray):Int × Bool:=numR s 1 4094
def Js (s:ByteArray):Int × Bool:=numR s 1 16777215
def Cv (w:List ByteArray):Int × List Int × List (Bool × Int) :=
 if wdT w 4=accessT then ((Be (wdT w 5)).1,[],[(!(Be (wdT w 5)).2,21)])
 else if wdT w 4=trunkT then
  (if wdT w 5=dash then (0,(listR 4094 (wdT w 6)).1,[(!(listR 4094 (wdT w 6)).2,21)])
   else ((Be (wdT w 5)).1,(listR 4094 (wdT w 6)).1,[(!(Be (wdT w 5)).2,21),(!(listR 4094 (wdT w 6)).2,21)]))
 else (0,[],[])
def A0 (w:List ByteArray) (row:Int):LineM × List (Bool × Int) :=
 let n:=fun i=>(!(Am (wdT w i)),(20:Int))
 let k:=kindL (wdT w 0)
 if k=1 then ({ lineZ with row:=row,kind:=1,dev:=wdT w 1,num:=(numR (wdT w 2) 0 65535).1,mac:=(macR (wdT w 3)).1 },[n 1,(!(numR (wdT w 2) 0 65535).2,21),(!((macR (wdT w 3)).2 && statB (macR (wdT w 3)).1),21)])
 else if k=2 then ({ lineZ with row:=row,kind:=2,dev:=wdT w 1,port:=wdT w 2,cost:=(numR (wdT w 3) 1 65535).1,vlan:=(Cv w).1,tagged:=(Cv w).2.1 },
  [n 1,n 2,(!(numR (wdT w 3) 1 65535).2,21),(decide (wdT w 4≠accessT) && decide (wdT w 4≠trunkT),20)]++(Cv w).2.2++[(!(membersB (Cv w).1 (Cv w).2.1),21)])
 else if k=3 then ({ lineZ with row:=row,kind:=3,dev:=wdT w 1,port:=wdT w 2,peer:=wdT w 3,far:=wdT w 4 },[n 1,n 2,n 3,n 4])
 else if k=4 then ({ lineZ with row:=row,kind:=4,dev:=wdT w 1,vlan:=(Be (wdT w 2)).1,mac:=(macR (wdT w 3)).1,port:=wdT w 4 },[n 1,(!(Be (wdT w 2)).2,21),(!((macR (wdT w 3)).2 && statB (macR (wdT w 3)).1),21),n 4])
 else if k=5 then ({ lineZ with row:=row,kind:=5,dev:=wdT w 1,addr:=(Bl (wdT w 2)).1 },[n 1,(!((Bl (wdT w 2)).2 && decide ((Bl (wdT w 2)).1≠0)),21)])
 else if k=6 then ({ lineZ with row:=row,kind:=6,dev:=wdT w 1,vlan:=(Be (wdT w 2)).1,num:=(Js (wdT w 3)).1 },[n 1,(!(Be (wdT w 2)).2,21),(!(Js (wdT w 3)).2,21)])
 else if k=7 then ({ lineZ with row:=row,kind:=7,dev:=wdT w 1,num:=(Js (wdT w 2)).1,addrs:=(Ck (wdT w 3)).1 },[n 1,(!(Js (wdT w 2)).2,21),(!((Ck (wdT w 3)).2 && decide ((Ck (wdT w 3)).1.head? ≠ some 0)),21)])
 else if k=8 then ({ lineZ with row:=row,kind:=8,dev:=wdT w 1,name:=wdT w 2,imports:=(listR 65535 (wdT w 3)).1,exports:=(listR 65535 (wdT w 4)).1 },[n 1,n 2,(!(listR 65535 (wdT w 3)).2,21),(!(listR 65535 (wdT w 4)).2,21)])
 else ({ lineZ with row:=row,kind:=9,dev:=wdT w 1,vlan:=(Be (wdT w 2)).1,name:=wdT w 3,addr:=(prefixR (wdT w 4)).1.1,bits:=(prefixR (wdT w 4)).1.2 },
  [n 1,(!(Be (wdT w 2)).2,21),n 3,(!((prefixR (wdT w 4)).2 && subnetB (prefixR (wdT w 4)).1.1 (prefixR (wdT w 4)).1.2),21)])
def A3 (w:List ByteArray) (row:Int):LineM × Int :=
 if w=[]∨manyB (kindL (wdT w 0)) w=false then (lineZ,22) else if As (A0 w row).2≠0 then (lineZ,As (A0 w row).2) else ((A0 w row).1,0)
def C3 (cur:List UInt8):List ByteArray:=if cur=[] then [] else [mkT cur]
def Cb:List UInt8→List UInt8→List ByteArray
 | cur,[]=>C3 cur
 | cur,c::r=>if c=35 then C3 cur else if c=32∨c=9 then C3 cur++Cb [] r else Cb (cur++[c]) r
def Ub (c:UInt8):Bool:=decide (32<c.toNat) && decide (c.toNat≤126) && decide (c.toNat≠35)
def wordB (s:ByteArray):Bool:=decide (0<s.size) && decide (s.size≤40) && s.data.toList.all Ub
def wordsT (row:ByteArray):List ByteArray × Int:=if (Cb [] row.data.toList).all wordB=true then (Cb [] row.data.toList,0) else ([],20)
def Lc:Nat→List ByteArray→List LineM→List LineM × Int × Int
 | _,[],out=>(out,0,0)
 | i,r::rs,out =>
  if (wordsT r).2≠0 then ([],(i:Int)+1,(wordsT r).2) else if (wordsT r).1=[] then Lc (i+1) rs out
  else if (A3 (wordsT r).1 ((i:Int)+1)).2≠0 then ([],(i:Int)+1,(A3 (wordsT r).1 ((i:Int)+1)).2) else Lc (i+1) rs (out++[(A3 (wordsT r).1 ((i:Int)+1)).1])
def textT (b:List UInt8):List LineM × Int × Int:=if (rowsT b).2≠0 then ([],0,(rowsT b).2) else Lc 0 (rowsT b).1 []
def Qe (d:Nat):UInt8:=if d<10 then UInt8.ofNat (48+d) else UInt8.ofNat (87+d)
def byteN (m j:Nat):Nat:=m / 256 ^ (5-j) % 256
def Qx (m:Nat):Nat→List UInt8
 | 0=>[]
 | j+1=>Qx m j++(if 0<j then [58] else [])++[Qe (byteN m j / 16),Qe (byteN m j % 16)]
def Ig (m:Int):ByteArray:=mkT (Qx m.toNat 6)
def comma:ByteArray:=⟨#[44]⟩
def O6 (l:List Int):ByteArray:=D7 (l.map Ba) comma
def Hu (l:List Int):ByteArray:=D7 (l.map C5) comma
def Dd (l:List Int):ByteArray:=if l=[] then dash else O6 l
def D4 (a bits:Int):ByteArray:=if 0≤bits∧bits≤32 then mkT ((C5 a).data.toList++[47]++(revDigs bits.toNat).reverse) else ⟨#[]⟩
def Jv (l:LineM):List ByteArray :=
 if l.tagged=[] then [⟨#[112,111,114,116]⟩,l.dev,l.port,Ba l.cost,accessT,Ba l.vlan]
 else [⟨#[112,111,114,116]⟩,l.dev,l.port,Ba l.cost,trunkT,if l.vlan=0 then dash else Ba l.vlan,Dd l.tagged]
def Ay (l:LineM):List ByteArray :=
 if l.kind=1 then [⟨#[100,101,118,105,99,101]⟩,l.dev,Ba l.num,Ig l.mac]
 else if l.kind=2 then Jv l
 else if l.kind=3 then [⟨#[108,105,110,107]⟩,l.dev,l.port,l.peer,l.far]
 else if l.kind=4 then [⟨#[115,116,97,116,105,99]⟩,l.dev,Ba l.vlan,Ig l.mac,l.port]
 else if l.kind=5 then [⟨#[118,116,101,112]⟩,l.dev,C5 l.addr]
 else if l.kind=6 then [⟨#[118,110,105]⟩,l.dev,Ba l.vlan,Ba l.num]
 else if l.kind=7 then [⟨#[102,108,111,111,100]⟩,l.dev,Ba l.num,Hu l.addrs]
 else if l.kind=8 then [⟨#[118,114,102]⟩,l.dev,l.name,Dd l.imports,Dd l.exports]
 else if l.kind=9 then [⟨#[105,114,98]⟩,l.dev,Ba l.vlan,l.name,D4 l.addr l.bits]
 else []
def Aae (a b:LineM):Bool :=
 a.row == b.row && (a.kind == b.kind && (a.dev == b.dev && (a.port == b.port && (a.peer == b.peer && (a.far == b.far && (a.name == b.name && (a.mac == b.mac && (a.addr == b.addr && (a.bits == b.bits &&
 (a.vlan == b.vlan && (a.num == b.num && (a.cost == b.cost && (a.tagged == b.tagged && (a.imports == b.imports && (a.exports == b.exports && a.addrs == b.addrs)))))))))))))))
def A7 (n lo hi:Int):Bool:=decide (lo≤n) && decide (n≤hi)
abbrev Es (l:List Int) (hi:Int):Bool:=Acn l hi
def Hv (l:List Int):Bool:=(List.range l.length).all (fun i=>decide (l.getD i 0≠0) && (i == 0 || decide (l.getD (i-1) 0<l.getD i 0))) && (decide (0<l.length) && decide (l.length≤16))
def A1 (l:LineM):LineM × Bool :=
 let u:LineM:={ lineZ with row:=l.row,kind:=l.kind,dev:=l.dev }
 if l.kind=1 then ({ u with num:=l.num,mac:=l.mac },A7 l.num 0 65535 && statB l.mac)
 else if l.kind=2 then ({ u with port:=l.port,cost:=l.cost,vlan:=l.vlan,tagged:=l.tagged },Am l.port && (A7 l.cost 1 65535 && (A7 l.vlan 0 4094 && (Es l.tagged 4094 && membersB l.vlan l.tagged))))
 else if l.kind=3 then ({ u with port:=l.port,peer:=l.peer,far:=l.far },Am l.port && (Am l.peer && Am l.far))
 else if l.kind=4 then ({ u with vlan:=l.vlan,mac:=l.mac,port:=l.port },A7 l.vlan 1 4094 && (statB l.mac && Am l.port))
 else if l.kind=5 then ({ u with addr:=l.addr },decide (l.addr≠0))
 else if l.kind=6 then ({ u with vlan:=l.vlan,num:=l.num },A7 l.vlan 1 4094 && A7 l.num 1 16777215)
 else if l.kind=7 then ({ u with num:=l.num,addrs:=l.addrs },A7 l.num 1 16777215 && Hv l.addrs)
 else if l.kind=8 then ({ u with name:=l.name,imports:=l.imports,exports:=l.exports },Am l.name && (Es l.imports 65535 && Es l.exports 65535))
 else if l.kind=9 then ({ u with vlan:=l.vlan,name:=l.name,addr:=l.addr,bits:=l.bits },A7 l.vlan 1 4094 && (Am l.name && subnetB l.addr l.bits))
 else (u,false)
def Bo (l:LineM):Bool:=(A1 l).2 && (Am l.dev && Aae (A1 l).1 l)
def space:ByteArray:=⟨#[32]⟩
def Cw:List LineM→List UInt8→List UInt8 × Int
 | [],b=>(b,0)
 | x::l,b=>if Bo x=false then ([],2) else Cw l (b++(D7 (Ay x) space).data.toList++[10])
def plainT (l:List LineM):List UInt8 × Int :=
 if (Cw l []).2≠0 then ([],(Cw l []).2) else if 400<l.length∨20000<(Cw l []).1.length then ([],3) else ((Cw l []).1,0)
def orderT (b:List UInt8):List UInt8 × Int × Int :=
 if (textT b).2.2≠0 then ([],(textT b).2.1,(textT b).2.2) else ((plainT (A4 (textT b).1)).1,0,(plainT (A4 (textT b).1)).2)
theorem Iw (l:List LineM):(Ep l).length=l.length:=by simp[Ep]
theorem Jh (l:List LineM):(A4 l).length=l.length:=by rw[A4,Iw,Ce]
def Bv (l:List LineM):Bool:=(List.range (l.length-1)).all fun j=>!(Bm (l.getD (j+1) ⟨0,0,⟨#[]⟩,⟨#[]⟩,⟨#[]⟩,⟨#[]⟩,⟨#[]⟩,0,0,0,0,0,0,[],[],[],[]⟩) (l.getD j ⟨0,0,⟨#[]⟩,⟨#[]⟩,⟨#[]⟩,⟨#[]⟩,⟨#[]⟩,0,0,0,0,0,0,[],[],[],[]⟩))
theorem Ks {l:List LineM} (h:∀ j (hj:j+1<l.length),Bm l[j+1] l[j]=false):Bv l=true:=by
 unfold Bv
 rw[List.all_eq_true]
 intro j hj
 have hj:j+1<l.length:=by have:=List.mem_range.1 hj;omega
 rw[List.getD_eq_getElem?_getD,List.getD_eq_getElem?_getD,List.getElem?_eq_getElem hj,List.getElem?_eq_getElem (by omega:j<l.length)]
 simp[h j hj]
theorem Mf {l:List LineM} {j:Nat} (hj:j+1<l.length) (h:Bm l[j+1] l[j]=true):Bv l=false:=by
 unfold Bv
 rw[List.all_eq_false]
 refine⟨j,by rw[List.mem_range];omega,?_⟩
 rw[List.getD_eq_getElem?_getD,List.getD_eq_getElem?_getD,List.getElem?_eq_getElem hj,List.getElem?_eq_getElem (by omega:j<l.length)]
 simp[h]
def exA:List UInt8:=[112,111,114,116,32,97,32,112,32,49,32,97,99,99,101,115,115,32,49,48,10,100,101,118,105,99,101,32,97,32,49,32,48,48,58,48,48,58,48,48,58,48,48,58,48,48,58,48,49]
def exB:List UInt8:=[100,101,118,105,99,101,32,97,32,49,32,48,48,58,48,48,58,48,48,58,48,48,58,48,48,58,48,49,10,112,111,114,116,32,97,32,112,32,49,32,97,99,99,101,115,115,32,49,48,10]
set_option maxRecDepth 100000 in
theorem Aap:orderT exA=(exB,0,0):=by kernel_rfl
set_option maxRecDepth 100000 in
theorem Mg:(textT exA).1=[{ lineZ with row:=1,kind:=2,dev:=⟨#[97]⟩,port:=⟨#[112]⟩,cost:=1,vlan:=10 },{ lineZ with row:=2,kind:=1,dev:=⟨#[97]⟩,num:=1,mac:=1 }]:=by kernel_rfl
end Go.Sy.YtgblchnfjbkipaaGreatDoor
namespace Go.Sy.YtgblchnfjbkipaaGreatDoor
open Go.Proofs
attribute [local irreducible] Go.Sy.G Go.Sy.DR
structure Bx (Q:Prop):Prop where out:Q
theorem sE {α:Sort _} {a b:α} {K:Prop} (e:a=b) (h:K):a=b∧K:=⟨e,h⟩
theorem xE {α:Sort _} {a b:α} {K:a=b→Prop} (e:a=b) (h:K e):∃ e:a=b,K e:=⟨e,h⟩
theorem sL {a b:Int} {K:Prop} (e:a≤b) (h:K):a≤b∧K:=⟨e,h⟩
theorem xL {a b:Int} {K:a≤b→Prop} (e:a≤b) (h:K e):∃ e:a≤b,K e:=⟨e,h⟩
theorem sM {a b:Nat} {K:Prop} (e:a≤b) (h:K):a≤b∧K:=⟨e,h⟩
theorem sT {a b:Nat} {K:Prop} (e:a<b) (h:K):a<b∧K:=⟨e,h⟩
theorem xT {a b:Nat} {K:a<b→Prop} (e:a<b) (h:K e):∃ e:a<b,K e:=⟨e,h⟩
theorem sN {a b:Int} {K:Prop} (e:a≠b) (h:K):a≠b∧K:=⟨e,h⟩
theorem sI {a:Int} {K:Prop} (e:I64 a) (h:K):I64 a∧K:=⟨e,h⟩
theorem ct {p q:Prop} {b:Bool} (h:q) (e:b=true→False:=by
 intro _h
 first | exact absurd _h qc | exact Bool.false_ne_true (Eq.trans (Eq.symm (by with_reducible assumption)) _h) | (simp at _h;done) | (simp at _h;omega)):(b=true→p)∧(b=false→q):=⟨fun x=>(e x).elim,fun _=>h⟩
theorem cf {p q:Prop} {b:Bool} (h:p) (e:b=false→False:=by
 intro _h
 first | exact absurd _h qc | exact Bool.false_ne_true (Eq.trans (Eq.symm _h) (by with_reducible assumption)) | (simp at _h;done) | (simp at _h;omega)):(b=true→p)∧(b=false→q):=⟨fun _=>h,fun x=>(e x).elim⟩
theorem S {P Q:Prop} (h:Q) (e:Bx Q→P:=by
 intro hb
 first | refine rg ?_ | refine rd y_ ?_ | skip
 conv=>whnf
 repeat (first
  | ((first | refine aF ?_ | refine aT ?_ | refine ct ?_ | refine cf ?_);(first | refine rg ?_ | refine rd y_ ?_);(conv=>whnf))
  | ((first | refine⟨(by kernel_rfl:T4 _ _=true),?_⟩ | refine sI (by unfold I64;omega) ?_);(conv=>whnf)))
 exact hb.out):P:=e ⟨h⟩
theorem T {P Q:Prop} (h:Q) (e:Bx Q→P:=by
 intro hb
 refine S ?_
 repeat ((first | refine sE (by exact rfl) ?_ | refine sL (by first | omega | decide) ?_ | refine xL (by first | omega | decide) ?_ | refine sT (by first | omega | decide) ?_ | refine xT (by first | omega | decide) ?_ | refine sM (by first | omega | decide) ?_ | refine sN (by first | omega | decide) ?_ | refine xE (by exact rfl) ?_);refine S ?_)
 exact hb.out):P:=e ⟨h⟩
theorem D {P:Prop} (h:P:=by
 apply Bn
 ·exact q_
 ·(repeat (first | exact ResVs.nil | (apply ResVs.cons;(first | exact .tmp | exact .cell rfl rfl rfl rfl))))
 ·exact q_
 ·exact q_):P:=h
theorem U {P:Prop} (h:P:=by
 refine⟨?_,?_,q_,q_⟩
 ·repeat (first | exact trivial | exact rfl | refine⟨rfl,rfl,?_⟩)
 ·repeat (first | exact trivial | refine⟨.inl rfl,rfl,?_⟩ | refine⟨.inr rfl,rfl,?_⟩)):P:=h
theorem doneE {P:Program} {fn:Func} {F:Fr} {R:SV} {H':Obs} {Γ:Go.Sy.Ty P} {n:Nat} {bn:List Nat} {hbn:∀ k,F.k0 k≠.new→k∈bn} {k:List KI} {s:SS} {rs:List ResultVar} (hf:fn.results=rs.toArray) {xs:List SV} (hx:ResVs Γ.get s rs xs)
  (hR:R.ren (Aq [])=Q2 xs) (hRn:R.inn (Obs.keys H')=true) (hsub:Sub ⟨P,Γ,F,n,Je P fn F R H',bn,hbn⟩ s [] [] H'):G ⟨P,Γ,F,n,Je P fn F R H',bn,hbn⟩ (.code .ret::k) s:=done hf hx [] H' (fun _ h=>h) hR hRn hsub
theorem doneF {P:Program} {fn:Func} {F:Fr} {R:SV} {H':Obs} {Γ:Go.Sy.Ty P} {n:Nat} {bn:List Nat} {hbn:∀ k,F.k0 k≠.new→k∈bn} {s:SS} {rs:List ResultVar} (hf:fn.results=rs.toArray) {xs:List SV} (hx:ResVs Γ.get s rs xs)
  (hR:R.ren (Aq [])=Q2 xs) (hRn:R.inn (Obs.keys H')=true) (hsub:Sub ⟨P,Γ,F,n,Je P fn F R H',bn,hbn⟩ s [] [] H'):G ⟨P,Γ,F,n,Je P fn F R H',bn,hbn⟩ [] s:=Bj hf hx [] H' (fun _ h=>h) hR hRn hsub
theorem E0 {P:Prop} (h:P:=by
 first | apply doneE | apply doneF
 ·exact q_
 ·(repeat (first | exact ResVs.nil | (apply ResVs.cons;(first | exact .tmp | exact .cell rfl rfl rfl rfl))))
 ·exact q_
 ·exact q_
 ·exact U):P:=h
theorem W {P:Prop} (h:P:=by
 repeat (first | exact trivial | exact rfl | refine⟨rfl,?_⟩)):P:=h
theorem V {P:Prop} (h:P:=by
 repeat (first | exact trivial | refine⟨.inl rfl,?_⟩ | refine⟨.inr rfl,?_⟩)):P:=h
theorem C {P:Program} {f:FuncId} {fn:Func} {c:Code} {A:List SV} {R:SV} {Z Q:Prop} (hs:Sy.Spec P f A [] R []) (hf:Fun P f fn c) (h:Q) (e:Sy.Spec P f A [] R []→Fun P f fn c→Bx Q→Z:=by
 intro hs hf hb
 first | refine Acp hs hf rfl rfl rfl rfl rfl ?_ | refine Abp hs hf rfl rfl rfl y_ rfl ?_
 refine T ?_
 exact hb.out):Z:=e hs hf ⟨h⟩
theorem X {C:Cx} {k:List KI} {s:SS} {all:Array Oper} {o:Oper} {rest:List Oper} {V:Up} {Q:Prop} (hg:Good C.P o s V) (h:Q) (hd:Jq C.n o=true:=by exact rfl) (hw:Ca C.n all o s=some true:=by exact rfl) (e:Bx Q→G C (.ops all rest::k) (s.upd o.dst V):=by
 intro hb
 refine T ?_
 exact hb.out):G C (.ops all (o::rest)::k) s:=Cd hg hd hw (e ⟨h⟩)
theorem Xd {C:Cx} {k:List KI} {s:SS} {all:Array Oper} {done:List Stp} {o:Oper} {rest:List Oper} {V:Up} {Q:Prop} (hg:Good C.P o s V) (h:Q) (hi:all[done.length]? = some o:=by kernel_rfl) (hw:Ca C.n all o s=some true:=by exact rfl) (hn:(Di o || E6 o)=false:=by exact rfl) (e:Bx Q→DR C k all (done++[⟨done.length,o,V,true⟩]) rest (s.upd o.dst V):=by
 intro hb
 refine T ?_
 exact hb.out):DR C k all done (o::rest) s:=Ya hg hi hw (e ⟨h⟩) hn
theorem Xe {C:Cx} {k:List KI} {s:SS} {all:Array Oper} {done:List Stp} {o:Oper} {rest:List Oper} {V:Up} {Q:Prop} (hg:Good C.P o s V) (h:Q) (hk:KeepL s V.objs:=by exact W) (hi:all[done.length]? = some o:=by kernel_rfl) (hw:Ca C.n all o s=some true:=by exact rfl) (hn:(Di o || E6 o)=false:=by exact rfl) (e:Bx Q→DR C k all (done++[⟨done.length,o,⟨V.v,V.rd++V.ws,[]⟩,true⟩]) rest (s.upd o.dst ⟨V.v,V.rd++V.ws,[]⟩):=by
 intro hb
 refine T ?_
 exact hb.out):DR C k all done (o::rest) s:=stepD2 hg hk hi hw (e ⟨h⟩) hn
end Go.Sy.YtgblchnfjbkipaaGreatDoor
namespace Go.Sy.YtgblchnfjbkipaaGreatDoor
open Go.Proofs
attribute [local irreducible] Go.Sy.G Go.Sy.DR
set_option maxRecDepth 100000
set_option maxHeartbeats 4000000
theorem Em (a:ByteArray):Sy.Spec Tryz.prog 230 [Ac a] [] (Af false) []:=cT F230 Tryz.ntmps230 fun F hF=>by
 refine T ?_
 exact Bn q_ (.cons .tmp .nil) (congrArg Af qd) q_
theorem El (a:Int):Sy.Spec Tryz.prog 232 [Aw a] [] (Af false) []:=cT F232 Tryz.ntmps232 fun F hF=>by
 refine T ?_
 exact Bn q_ (.cons .tmp .nil) (congrArg Af qd) q_
theorem Ec (a b:ByteArray):Sy.Spec Tryz.prog 171 [Ac a,Ac b] [] (Aa (D2 a b)) []:=cT F171 Tryz.ntmps171 fun F hF=>by
 have l1:=Kw a.data.toList b.data.toList
 have l2:=Kw b.data.toList a.data.toList
 have han:=cmpB_ok.anti a b
 have han2:=cmpB_ok.anti b a
 have hv:=Abn (a:=a.data.toList) (b:=b.data.toList)
 have hc:Ao Jd a.data.toList b.data.toList=D2 a b:=rfl
 have hc2:Ao Jd b.data.toList a.data.toList=D2 b a:=rfl
 rw[hc]at l1 hv
 rw[hc2]at l2
 rw[← Lib.toList_data,← Lib.toList_data]at l1 l2 hv
 by_cases h1:D2 a b<0
 ·have f1:Op.bytesLess a.toList b.toList=true:=by rw[l1];exact decide_eq_true h1
  have hr:D2 a b=-1:=by rw[hv,if_pos f1]
  rw[hr]
  refine T ?_
  refine C (Em a) F230 ?_
  refine C (Em b) F230 ?_
  exact D
 ·have f1:Op.bytesLess a.toList b.toList=false:=by rw[l1];exact decide_eq_false h1
  rw[f1,if_neg qd]at hv
  by_cases h2:0<D2 a b
  ·have hne:(a == b)=false:=by
    cases hx:(a == b)
    ·rfl
    ·have e:=(C6 _ _).1 hx
     rw[e,if_pos rfl]at hv
     rw[e]at h2;omega
   have f2:(!(Op.bytesLess a.toList b.toList || a == b))=true:=by rw[f1,hne];rfl
   have hr:D2 a b=1:=by
    rw[hv]
    split
    ·rename_i e
     rw[if_pos e]at hv;omega
    ·rfl
   rw[hr]
   refine T ?_
   refine C (Em a) F230 ?_
   refine C (Em b) F230 ?_
   exact D
  ·have hr:D2 a b=0:=by omega
   have f2:(!(Op.bytesLess a.toList b.toList || a == b))=false:=by rw[(C6 _ _).2 (Zs hr)];simp
   rw[hr]
   refine T ?_
   refine C (Em a) F230 ?_
   refine C (Em b) F230 ?_
   exact D
theorem Mr (a b:Int):Sy.Spec Tryz.prog 173 [Aw a,Aw b] [] (Aa (Au a b)) []:=cT F173 Tryz.ntmps173 fun F hF=>by
 by_cases h1:a<b
 ·have hr:Au a b=-1:=by rw[Au,if_pos h1]
  have f1:decide (a<b)=true:=decide_eq_true h1
  rw[hr]
  refine T ?_
  refine C (El a) F232 ?_
  refine C (El b) F232 ?_
  exact D
 ·have f1:decide (a<b)=false:=decide_eq_false h1
  by_cases h2:a>b
  ·have hr:Au a b=1:=by rw[Au,if_neg h1,if_pos h2]
   have f2:decide (a>b)=true:=decide_eq_true h2
   rw[hr]
   refine T ?_
   refine C (El a) F232 ?_
   refine C (El b) F232 ?_
   exact D
  ·have hr:Au a b=0:=by rw[Au,if_neg h1,if_neg h2]
   have f2:decide (a>b)=false:=decide_eq_false h2
   rw[hr]
   refine T ?_
   refine C (El a) F232 ?_
   refine C (El b) F232 ?_
   exact D
theorem Ql (y:Int):Au y y=0:=by simp[Au]
theorem J7:∀ {j:Nat} {l m:List Int},j≤l.length→j≤m.length→l.take j=m.take j→Ao Au l m=Ao Au (l.drop j) (m.drop j)
 | 0,l,m,_,_,_=>by rw[List.drop_zero,List.drop_zero]
 | j+1,[],m,h,_,_=>by simp at h
 | j+1,x::l,[],_,h,_=>by simp at h
 | j+1,x::l,y::m,h1,h2,h=>by
  simp only[List.take_succ_cons,List.cons.injEq]at h
  rw[Ao,List.drop_succ_cons,List.drop_succ_cons,← J7 (by simpa using h1) (by simpa using h2) h.2,h.1,Ql]
  rfl
theorem Dn (l m:List Int) (hl:l.length≤1000000) (hm1:m.length≤1000000):Sy.Spec Tryz.prog 174 [.sl 1 Aa l,.sl 1 Aa m] [] (Aa (Ao Au l m)) []:=cT F174 Tryz.ntmps174 fun F hF=>by
 refine T ?_
 refine Bz l.length (fun j=>j≤m.length∧l.take j=m.take j) (fun j=>[(0,.sl 1 Aa l),(1,.sl 1 Aa m),(9,.sl 1 Aa l),(10,Aa l.length),(11,Aa j)]) (fun _=>[]) [] ⟨by simp,q_⟩ U ?_
 intro j hj hI
 have hsk:=J7 hj hI.1 hI.2
 refine T ?_
 refine⟨fun h=>?_,fun h=>?_⟩
 ·have hlt:j<l.length:=qA h
  have hlt0:((j:Nat):Int).toNat<l.length:=hlt
  clear h
  rw[List.drop_eq_getElem_cons hlt]at hsk
  by_cases hjm:j<m.length
  ·have hjm0:((j:Nat):Int).toNat<m.length:=hjm
   rw[List.drop_eq_getElem_cons hjm,Ao]at hsk
   have q:=Dk (l[((j:Nat):Int).toNat]'hlt0) (m[((j:Nat):Int).toNat]'hjm0)
   have hx:Au (l[((j:Nat):Int).toNat]'hlt0) (m[((j:Nat):Int).toNat]'hjm0)=Au l[j] m[j]:=rfl
   by_cases h0:Au l[j] m[j]=0
   ·have f0:(Au (l[((j:Nat):Int).toNat]'hlt0) (m[((j:Nat):Int).toNat]'hjm0) != 0)=false:=by rw[hx,h0];rfl
    refine T ?_
    refine C q F103 ?_
    refine B1 [] hI j_ ⟨hjm,?_⟩ U
    rw[List.take_succ_eq_append_getElem hlt,List.take_succ_eq_append_getElem hjm,hI.2,I3 h0]
   ·have f0:(Au (l[((j:Nat):Int).toNat]'hlt0) (m[((j:Nat):Int).toNat]'hjm0) != 0)=true:=by rw[hx,bne_iff_ne];exact h0
    rw[hsk,Bs,if_pos h0,← hx]
    refine T ?_
    refine C q F103 ?_
    exact D
  ·rw[List.drop_eq_nil_of_le (by omega:m.length≤j)]at hsk
   have hr:Ao Au l m=1:=hsk
   rw[hr]
   refine T ?_
   exact D
 ·have hje:j=l.length:=qB h
  subst hje
  clear h
  rw[List.drop_length]at hsk
  by_cases h1:l.length<m.length
  ·rw[List.drop_eq_getElem_cons h1]at hsk
   have hr:Ao Au l m=-1:=hsk
   rw[hr]
   refine T ?_
   exact D
  ·rw[List.drop_eq_nil_of_le j_]at hsk
   have hr:Ao Au l m=0:=hsk
   rw[hr]
   refine T ?_
   exact D
theorem Ki (l m:List Int) (hl:l.length≤1000000) (hm1:m.length≤1000000):Sy.Spec Tryz.prog 175 [.sl 1 Aw l,.sl 1 Aw m] [] (Aa (Ao Au l m)) []:=cT F175 Tryz.ntmps175 fun F hF=>by
 refine T ?_
 refine Bz l.length (fun j=>j≤m.length∧l.take j=m.take j) (fun j=>[(0,.sl 1 Aw l),(1,.sl 1 Aw m),(9,.sl 1 Aw l),(10,Aa l.length),(11,Aa j)]) (fun _=>[]) [] ⟨by simp,q_⟩ U ?_
 intro j hj hI
 have hsk:=J7 hj hI.1 hI.2
 refine T ?_
 refine⟨fun h=>?_,fun h=>?_⟩
 ·have hlt:j<l.length:=qA h
  have hlt0:((j:Nat):Int).toNat<l.length:=hlt
  clear h
  rw[List.drop_eq_getElem_cons hlt]at hsk
  by_cases hjm:j<m.length
  ·have hjm0:((j:Nat):Int).toNat<m.length:=hjm
   rw[List.drop_eq_getElem_cons hjm,Ao]at hsk
   have q:=Mr (l[((j:Nat):Int).toNat]'hlt0) (m[((j:Nat):Int).toNat]'hjm0)
   have hx:Au (l[((j:Nat):Int).toNat]'hlt0) (m[((j:Nat):Int).toNat]'hjm0)=Au l[j] m[j]:=rfl
   by_cases h0:Au l[j] m[j]=0
   ·have f0:(Au (l[((j:Nat):Int).toNat]'hlt0) (m[((j:Nat):Int).toNat]'hjm0) != 0)=false:=by rw[hx,h0];rfl
    refine T ?_
    refine C q F173 ?_
    refine B1 [] hI j_ ⟨hjm,?_⟩ U
    rw[List.take_succ_eq_append_getElem hlt,List.take_succ_eq_append_getElem hjm,hI.2,I3 h0]
   ·have f0:(Au (l[((j:Nat):Int).toNat]'hlt0) (m[((j:Nat):Int).toNat]'hjm0) != 0)=true:=by rw[hx,bne_iff_ne];exact h0
    rw[hsk,Bs,if_pos h0,← hx]
    refine T ?_
    refine C q F173 ?_
    exact D
  ·rw[List.drop_eq_nil_of_le (by omega:m.length≤j)]at hsk
   have hr:Ao Au l m=1:=hsk
   rw[hr]
   refine T ?_
   exact D
 ·have hje:j=l.length:=qB h
  subst hje
  clear h
  rw[List.drop_length]at hsk
  by_cases h1:l.length<m.length
  ·rw[List.drop_eq_getElem_cons h1]at hsk
   have hr:Ao Au l m=-1:=hsk
   rw[hr]
   refine T ?_
   exact D
  ·rw[List.drop_eq_nil_of_le j_]at hsk
   have hr:Ao Au l m=0:=hsk
   rw[hr]
   refine T ?_
   exact D
theorem Ot (k:Int):Sy.Spec Tryz.prog 104 [Aa k] [] (Aa (stepI k)) []:=cT F104 Tryz.ntmps104 fun F hF=>by
 have hs:=stepI.eq_1 k
 generalize stepI k=r at *
 by_cases c1:k=1
 ·rw[if_pos c1]at hs
  subst hs c1
  refine T ?_
  exact D
 rw[if_neg c1]at hs
 have b1:(k == 1)=false:=by simpa using c1
 by_cases c5:k=5
 ·rw[if_pos c5]at hs
  subst hs c5
  refine T ?_
  exact D
 rw[if_neg c5]at hs
 have b5:(k == 5)=false:=by simpa using c5
 by_cases c2:k=2
 ·rw[if_pos c2]at hs
  subst hs c2
  refine T ?_
  exact D
 rw[if_neg c2]at hs
 have b2:(k == 2)=false:=by simpa using c2
 by_cases c3:k=3
 ·rw[if_pos c3]at hs
  subst hs c3
  refine T ?_
  exact D
 rw[if_neg c3]at hs
 have b3:(k == 3)=false:=by simpa using c3
 by_cases c4:k=4
 ·rw[if_pos c4]at hs
  subst hs c4
  refine T ?_
  exact D
 rw[if_neg c4]at hs
 have b4:(k == 4)=false:=by simpa using c4
 by_cases c6:k=6
 ·rw[if_pos c6]at hs
  subst hs c6
  refine T ?_
  exact D
 rw[if_neg c6]at hs
 have b6:(k == 6)=false:=by simpa using c6
 by_cases c7:k=7
 ·rw[if_pos c7]at hs
  subst hs c7
  refine T ?_
  exact D
 rw[if_neg c7]at hs
 have b7:(k == 7)=false:=by simpa using c7
 by_cases c8:k=8
 ·rw[if_pos c8]at hs
  subst hs c8
  refine T ?_
  exact D
 rw[if_neg c8]at hs
 have b8:(k == 8)=false:=by simpa using c8
 by_cases c9:k=9
 ·rw[if_pos c9]at hs
  subst hs c9
  refine T ?_
  exact D
 rw[if_neg c9]at hs
 have b9:(k == 9)=false:=by simpa using c9
 subst hs
 refine T ?_
 exact D
theorem Uz (a b:LineM):Sy.Spec Tryz.prog 105 [Ab a,Ab b] [] (Aa (O3 a b)) []:=cT F105 Tryz.ntmps105 fun F hF=>by
 refine T ?_
 refine C (Ec a.dev b.dev) F171 ?_
 refine C (Ec a.port b.port) F171 ?_
 refine C (Ec a.peer b.peer) F171 ?_
 refine C (Ec a.far b.far) F171 ?_
 refine C (Ec a.name b.name) F171 ?_
 refine T6 [30] (orS [D2 a.dev b.dev,D2 a.port b.port,D2 a.peer b.peer,D2 a.far b.far,D2 a.name b.name] (by simp[Dx])) F102 q_ (.cons (.lit q_ q_ q_) .nil) q_ y_ q_ ?_
 refine T ?_
 exact D
theorem Qv (a b:LineM):Sy.Spec Tryz.prog 106 [Ab a,Ab b] [] (Aa (If a b)) []:=cT F106 Tryz.ntmps106 fun F hF=>by
 refine T ?_
 refine C (Dk a.vlan b.vlan) F103 ?_
 refine C (Dk a.num b.num) F103 ?_
 refine C (V3 a.mac b.mac) F172 ?_
 refine C (Mr a.addr b.addr) F173 ?_
 refine C (Dk a.bits b.bits) F103 ?_
 refine C (Dk a.cost b.cost) F103 ?_
 refine T6 [35] (orS [Au a.vlan b.vlan,Au a.num b.num,Au a.mac b.mac,Au a.addr b.addr,Au a.bits b.bits,Au a.cost b.cost] (by simp[Dx])) F102 q_ (.cons (.lit q_ q_ q_) .nil) q_ y_ q_ ?_
 refine T ?_
 exact D
structure LineFin (l:LineM):Prop where
 t:l.tagged.length≤100000
 i:l.imports.length≤100000
 e:l.exports.length≤100000
 a:l.addrs.length≤100000
theorem U0 (a b:LineM) (ha:LineFin a) (hb:LineFin b):Sy.Spec Tryz.prog 107 [Ab a,Ab b] [] (Aa (O5 a b)) []:=cT F107 Tryz.ntmps107 fun F hF=>by
 have ht:=ha.t;have hi:=ha.i;have he:=ha.e;have haa:=ha.a
 have ht2:=hb.t;have hi2:=hb.i;have he2:=hb.e;have haa2:=hb.a
 refine T ?_
 refine C (Dn a.tagged b.tagged j_ j_) F174 ?_
 refine C (Dn a.imports b.imports j_ j_) F174 ?_
 refine C (Dn a.exports b.exports j_ j_) F174 ?_
 refine C (Ki a.addrs b.addrs j_ j_) F175 ?_
 refine T6 [25] (orS [Ao Au a.tagged b.tagged,Ao Au a.imports b.imports,Ao Au a.exports b.exports,Ao Au a.addrs b.addrs] (by simp[Dx])) F102 q_ (.cons (.lit q_ q_ q_) .nil) q_ y_ q_ ?_
 refine T ?_
 exact D
theorem E4 (a b:LineM) (ha:LineFin a) (hb:LineFin b):Sy.Spec Tryz.prog 38 [Ab a,Ab b] [] (Aa (Ii a b)) []:=cT F38 Tryz.ntmps38 fun F hF=>by
 refine T ?_
 refine C (Ot a.kind) F104 ?_
 refine C (Ot b.kind) F104 ?_
 refine C (Dk (stepI a.kind) (stepI b.kind)) F103 ?_
 refine C (Uz a b) F105 ?_
 refine C (Qv a b) F106 ?_
 refine C (U0 a b ha hb) F107 ?_
 refine T6 [21] (orS [Au (stepI a.kind) (stepI b.kind),O3 a b,If a b,O5 a b] (by simp[Dx])) F102 q_ (.cons (.lit q_ q_ q_) .nil) q_ y_ q_ ?_
 refine T ?_
 exact D
theorem Ow (a b:LineM) (ha:LineFin a) (hb:LineFin b):Sy.Spec Tryz.prog 19 [Ab a,Ab b] [] (Af (Bm a b)) []:=cT F19 Tryz.ntmps19 fun F hF=>by
 refine T ?_
 refine C (E4 a b ha hb) F38 ?_
 exact D
theorem Uy (a b:LineM) (ha:LineFin a) (hb:LineFin b):Sy.Spec Tryz.prog 37 [Ab a,Ab b] [] (Aa (Ii a b)) []:=cT F37 Tryz.ntmps37 fun F hF=>by
 refine T ?_
 refine C (E4 a b ha hb) F38 ?_
 exact D
theorem Ju (D:List LineM) (a b n:Nat) (cmp:SV) (hc:cmp.inn [0]=true) (ha:a+n≤b) (hb:b+n≤D.length) (hl:D.length<1000000) :
  Sy.Spec Tryz.prog 287 [.osl 0,Aa a,Aa b,Aa n,cmp] [(0,.row 17 Ab D)] (.tup []) [(0,.row 17 Ab (Og n D a b))]:=cT F287 Tryz.ntmps287 fun F hF=>by
 rw[Z5]
 refine T ?_
 refine Dc n (fun j=>[(0,.osl 0),(1,Aa a),(2,Aa b),(3,Aa n),(10,Aa j)]) (fun j=>[(0,.row 17 Ab (swapP j D a b))]) [] U ?_
 intro j hj
 have hlen:=Q6 j D a b
 have hnx:=swapP.eq_2 D a b j
 refine T ?_
 refine⟨fun h=>?_,fun h=>?_⟩
 ·have hlt:j<n:=qA h
  generalize swapP j D a b=A at *
  have ea:((a:Int)+(j:Int)).toNat=a+j:=by omega
  have eb:((b:Int)+(j:Int)).toNat=b+j:=by omega
  have ha0:((a:Int)+(j:Int)).toNat<A.length:=by omega
  have hb0:((b:Int)+(j:Int)).toNat<A.length:=by omega
  rw[Z6 j_ j_]at hnx
  have hfin:swapP (j+1) D a b=(A.set ((a:Int)+(j:Int)).toNat (A[((b:Int)+(j:Int)).toNat]'hb0)).set ((b:Int)+(j:Int)).toNat (A[((a:Int)+(j:Int)).toNat]'ha0):=by
   simp only[ea,eb];exact hnx
  clear h hnx
  have hls:(A.set ((a:Int)+(j:Int)).toNat (A[((b:Int)+(j:Int)).toNat]'hb0)).length=A.length:=List.length_set
  have hbs:((b:Int)+(j:Int)).toNat<(A.set ((a:Int)+(j:Int)).toNat (A[((b:Int)+(j:Int)).toNat]'hb0)).length:=by rw[hls];exact hb0
  refine T ?_
  refine⟨A[((b:Int)+(j:Int)).toNat]'hb0,q_,q_,?_⟩
  refine T ?_
  refine⟨A[((a:Int)+(j:Int)).toNat]'ha0,q_,q_,?_⟩
  refine T ?_
  refine Df [] hlt ⟨⟨q_,q_,q_,q_,q_,q_,q_,q_,q_,q_,z_⟩,⟨.inl (congrArg (Ob.row 17 Ab) hfin),q_,z_⟩,q_,q_⟩
 ·have hjj:j=n:=qB h
  subst hjj
  refine T ?_
  exact Bj q_ .nil [] [(0,.row 17 Ab (swapP j D a b))] (fun _ h=>h) q_ q_ ⟨z_,⟨.inl q_,q_,z_⟩,q_,q_⟩
def Abw (Z:List LineM) (m:Nat) (x:List LineM × List LineM × List LineM × List LineM):Prop:=x.1++(x.2.2.1++(x.2.1++x.2.2.2))=Z∧x.1.length+x.2.1.length=m∧0<x.2.1.length∧0<x.2.2.1.length
theorem Ab0 (P U V B:List LineM) (f:FuncId) (first cap:List SV) (hc:(SV.clo (.func f) first cap).inn [0]=true) (hu:0<U.length) (hv:0<V.length) (hl:(P++(U++(V++B))).length<1000000) (m b:Nat) (hm1:m=P.length+U.length) (hb1:b=m+V.length) :
  Sy.Spec Tryz.prog 229 [.osl 0,Aa P.length,Aa m,Aa b,.clo (.func f) first cap] [(0,.row 17 Ab (P++(U++(V++B))))] (.tup []) [(0,.row 17 Ab (P++(V++(U++B))))]:=cT F229 Tryz.ntmps229 fun F hF=>by
 have h0:Abw (P++(V++(U++B))) m (P,U,V,B):=⟨rfl,hm1.symm,hu,hv⟩
 have htl:(P++(V++(U++B))).length<1000000:=by simp only[List.length_append]at hl ⊢;omega
 have hml:m+V.length<1000000:=by simp only[List.length_append]at hl;omega
 generalize P++(V++(U++B))=Z at *
 refine T ?_
 refine Az (Abw Z m) (fun x=>[(0,.osl 0),(2,Aa m),(4,.clo (.func f) first cap),(10,Aa x.2.1.length),(11,Aa x.2.2.1.length)]) (fun x=>[(0,.row 17 Ab (x.1++(x.2.1++(x.2.2.1++x.2.2.2))))]) (fun x=>x.2.1.length+x.2.2.1.length) (P,U,V,B) [] h0 ⟨⟨q_,q_,q_,q_,A2 _,hc,congrArg Aa (by dsimp only;omega),q_,congrArg Aa (by dsimp only;omega),q_,z_⟩,⟨.inl q_,q_,z_⟩,q_,q_⟩ ?_
 clear h0 hm1 hb1 hu hv hl hml
 intro x hx
 obtain ⟨P,U,V,B⟩:=x
 obtain ⟨hT,hm1,hu,hv⟩:=hx
 dsimp only at hT hm1 hu hv ⊢
 have hlt:P.length+V.length+U.length+B.length<1000000:=by rw[← hT]at htl;simp only[List.length_append]at htl;omega
 have hok:∀ a b n:Int,Bd [0] [.osl 0,Aa a,Aa b,Aa n,.clo (.func f) first cap]=true:=fun a b n=>by simp only[Bd,hc];rfl
 by_cases he:U.length=V.length
 ·have q:=Ju (P++(U++([]++(V++B)))) P.length (P.length+U.length+0) U.length (.clo (.func f) first cap) hc j_ (by simp only[List.length_append,List.length_nil];omega) (by simp only[List.length_append,List.length_nil];omega)
  have w:=Kd U V P [] B he
  rw[List.length_nil]at w
  rw[w]at q
  rw[List.nil_append,List.nil_append]at q
  rw[show ((P.length:Nat):Int)=(m:Int)-(U.length:Int) by omega,show ((P.length+U.length+0:Nat):Int)=(m:Int) by omega,hT]at q
  have hok:=hok ((m:Int)-(U.length:Int)) m U.length
  refine T ?_
  refine X (Ad [] q_ F287 q (Bf _) ⟨q_,z_⟩ (by simp only[Ct,Obs.keys,List.map_cons,List.map_nil,hok];rfl) ⟨.inl q_,z_⟩) ?_
  exact Bj q_ .nil [] [(0,.row 17 Ab Z)] (fun _ h=>h) q_ q_ ⟨z_,⟨.inl q_,q_,z_⟩,q_,q_⟩
 by_cases hgt:V.length<U.length
 ·obtain ⟨U1,U2,rfl,hu1⟩:∃ U1 U2,U=U1++U2∧U1.length=V.length:=⟨U.take V.length,U.drop V.length,(List.take_append_drop _ _).symm,by rw[List.length_take];omega⟩
  have hul:(U1++U2).length=U1.length+U2.length:=List.length_append
  have hu2:0<U2.length:=by omega
  have q:=Ju (P++(U1++(U2++(V++B)))) P.length (P.length+U1.length+U2.length) U1.length (.clo (.func f) first cap) hc j_ (by simp only[List.length_append];omega) (by simp only[List.length_append];omega)
  rw[Kd U1 V P U2 B hu1]at q
  rw[show ((P.length:Nat):Int)=(m:Int)-(((U1++U2).length:Nat):Int) by omega,show ((P.length+U1.length+U2.length:Nat):Int)=(m:Int) by omega,show ((U1.length:Nat):Int)=((V.length:Nat):Int) by omega]at q
  have hok:=hok ((m:Int)-(((U1++U2).length:Nat):Int)) m V.length
  rw[List.append_assoc]
  refine T ?_
  refine X (Ad [] q_ F287 q (Bf _) ⟨q_,z_⟩ (by simp only[Ct,Obs.keys,List.map_cons,List.map_nil,hok];rfl) ⟨.inl q_,z_⟩) ?_
  refine Al (P++V,U2,U1,B) [] ⟨by dsimp only;rw[← hT];simp,by dsimp only;rw[List.length_append];omega,by dsimp only;omega,by dsimp only;omega⟩ (by dsimp only;omega) ⟨⟨q_,q_,q_,q_,A2 _,hc,congrArg Aa (by dsimp only;omega),q_,congrArg Aa (by dsimp only;omega),q_,z_⟩,⟨.inl (congrArg (Ob.row 17 Ab) (by dsimp only;simp)),q_,z_⟩,q_,q_⟩
 ·obtain ⟨V1,V2,rfl,hv2⟩:∃ V1 V2,V=V1++V2∧V2.length=U.length:=⟨V.take (V.length-U.length),V.drop (V.length-U.length),(List.take_append_drop _ _).symm,by rw[List.length_drop];omega⟩
  have hvl:(V1++V2).length=V1.length+V2.length:=List.length_append
  have hv1:0<V1.length:=by omega
  have q:=Ju (P++(U++(V1++(V2++B)))) P.length (P.length+U.length+V1.length) U.length (.clo (.func f) first cap) hc j_ (by simp only[List.length_append];omega) (by simp only[List.length_append];omega)
  rw[Kd U V2 P V1 B hv2.symm]at q
  rw[show ((P.length:Nat):Int)=(m:Int)-(U.length:Int) by omega,show ((P.length+U.length+V1.length:Nat):Int)=(m:Int)+(((V1++V2).length:Nat):Int)-(U.length:Int) by omega]at q
  have hok:=hok ((m:Int)-(U.length:Int)) ((m:Int)+(((V1++V2).length:Nat):Int)-(U.length:Int)) U.length
  rw[List.append_assoc]
  refine T ?_
  refine X (Ad [] q_ F287 q (Bf _) ⟨q_,z_⟩ (by simp only[Ct,Obs.keys,List.map_cons,List.map_nil,hok];rfl) ⟨.inl q_,z_⟩) ?_
  refine Al (P,V2,V1,U++B) [] ⟨by dsimp only;rw[← hT];simp,by dsimp only;omega,by dsimp only;omega,by dsimp only;omega⟩ (by dsimp only;omega) ⟨⟨q_,q_,q_,q_,A2 _,hc,congrArg Aa (by dsimp only;omega),q_,congrArg Aa (by dsimp only;omega),q_,z_⟩,⟨.inl q_,q_,z_⟩,q_,q_⟩
def InsI (lt:LineM→LineM→Bool) (x:LineM) (out:List LineM) (q:List LineM × List LineM):Prop:=q.1++q.2=out∧∀ y∈q.2,lt x y=true
theorem Uk (A R:List LineM) (y x:LineM):((A++y::x::R).set (A.length+1) y).set A.length x=A++x::y::R:=by
 rw[List.set_append_right _ _ j_,List.set_append_right _ _ (Nat.le_refl _)]
 simp
theorem Vn (c:LineM→LineM→Int) (Q:LineM→Prop) (f:FuncId) (first cap:List SV) (hc:(SV.clo (.func f) first cap).inn []=true) (hf:∀ a b,Q a→Q b→M5 Tryz.prog f (first++[Ab a,Ab b]++cap) (Aa (c a b))) (P M B:List LineM) (hQ:∀ x∈M,Q x) (hl:(P++(M++B)).length<1000000) (a b:Nat) (ha:a=P.length) (hb:b=P.length+M.length) :
  Sy.Spec Tryz.prog 168 [.osl 0,Aa a,Aa b,.clo (.func f) first cap] [(0,.row 17 Ab (P++(M++B)))] (.tup []) [(0,.row 17 Ab (P++(At (fun x y=>decide (c x y<0)) M++B)))]:=cT F168 Tryz.ntmps168 fun F hF=>by
 have hin:∀ x y:LineM,Bd [] (first++[Ab x,Ab y]++cap)=true:=fun x y=>Oa hc rfl
 have hc':(SV.clo (.func f) first cap).inn [0]=true:=Db _ hc
 have hll:P.length+M.length+B.length<1000000:=by simp only[List.length_append]at hl;omega
 generalize hlt:(fun x y=>decide (c x y<0))=lt
 refine T ?_
 refine Dc (M.length-1) (fun j=>[(0,.osl 0),(1,Aa a),(2,Aa b),(3,.clo (.func f) first cap),(8,Aa ((a:Int)+1+(j:Int)))]) (fun j=>[(0,.row 17 Ab (P++(At lt (M.take (j+1))++(M.drop (j+1)++B))))]) [] ⟨⟨q_,q_,q_,q_,q_,q_,A2 _,hc',congrArg Aa j_,q_,z_⟩,⟨.inl (congrArg (Ob.row 17 Ab) ?_),q_,z_⟩,q_,q_⟩ ?_
 ·cases M with
  | nil=>simp[At,Bt]
  | cons x M=>simp[At,Bt,Ij,Hx]
 intro j hj
 refine T ?_
 refine⟨fun h=>?_,fun h=>?_⟩
 ·have hjm:j+1<M.length:=qA h
  have hdrop:M.drop (j+1)=M[j+1]::M.drop (j+1+1):=List.drop_eq_getElem_cons hjm
  have hsn:At lt (M.take (j+1+1))=Ij lt M[j+1] (At lt (M.take (j+1))):=by rw[List.take_succ_eq_append_getElem hjm,Hh]
  have hol:=Ce lt (M.take (j+1))
  rw[List.length_take]at hol
  have hQx:Q M[j+1]:=hQ _ (List.getElem_mem hjm)
  have hQo:∀ y∈At lt (M.take (j+1)),Q y:=fun y hy=>hQ y (List.mem_of_mem_take (Dh lt _ y hy))
  have hfin:P++(At lt (M.take (j+1+1))++(M.drop (j+1+1)++B))=P++(Ij lt M[j+1] (At lt (M.take (j+1)))++(M.drop (j+1+1)++B)):=by rw[hsn]
  have hrl:(M.drop (j+1+1)++B).length+(j+2)=M.length+B.length:=by rw[List.length_append,List.length_drop];omega
  rw[hdrop]
  generalize M[j+1]=x at *
  generalize At lt (M.take (j+1))=out at *
  rw[show ((x::M.drop (j+1+1))++B)=x::(M.drop (j+1+1)++B) from rfl]
  generalize hR:M.drop (j+1+1)++B=R at *
  have hol:out.length=j+1:=by omega
  clear h hsn hdrop
  refine T ?_
  refine Az (InsI lt x out) (fun q=>[(0,.osl 0),(1,Aa a),(2,Aa b),(3,.clo (.func f) first cap),(8,Aa ((a:Int)+1+(j:Int))),(9,Aa ((P.length+q.1.length:Nat):Int))]) (fun q=>[(0,.row 17 Ab ((P++q.1)++x::(q.2++R)))]) (fun q=>q.1.length) (out,[]) [] ⟨List.append_nil _,fun y hy=>(by cases hy)⟩ ⟨⟨rfl,rfl,rfl,rfl,rfl,rfl,A2 _,hc',rfl,rfl,congrArg Aa (by dsimp only;omega),rfl,trivial⟩,⟨.inl (congrArg (Ob.row 17 Ab) qd),rfl,trivial⟩,rfl,rfl⟩ ?_
  intro q hq
  obtain ⟨O1,O2⟩:=q
  obtain ⟨hq1,hq2⟩:=hq
  dsimp only at hq1 hq2 ⊢
  have hq3:O1.length+O2.length=j+1:=by rw[← hol,← hq1,List.length_append]
  have hrun:=Vo lt x O1 O2 hq2
  rw[hq1]at hrun
  rcases List.eq_nil_or_concat O1 with h1 | ⟨c1,y,h1⟩
  ·subst h1
   have hrun:=hrun (.inl rfl)
   refine T ?_
   refine Df [] j_ ⟨⟨q_,q_,q_,q_,q_,q_,A2 _,hc',congrArg Aa j_,q_,z_⟩,⟨.inl (congrArg (Ob.row 17 Ab) (by rw[hR,hfin,hrun];simp)),q_,z_⟩,q_,q_⟩
  subst h1
  have hrun:=fun h=>hrun (.inr ⟨c1,y,by simp,h⟩)
  have hQy:Q y:=hQo y (by rw[← hq1];simp)
  have hL:(P++c1.concat y)++x::(O2++R)=(P++c1)++y::x::(O2++R):=by simp
  have hk:P.length+(c1.concat y).length=(P++c1).length+1:=by simp;omega
  have hcl:(c1.concat y).length=c1.length+1:=by simp
  rw[hL,hk]
  have hAl:(P++c1).length=P.length+c1.length:=List.length_append
  have hWl:(O2++R).length=O2.length+R.length:=List.length_append
  have hLl:((P++c1)++y::x::(O2++R)).length=(P++c1).length+2+(O2++R).length:=by simp;omega
  have hset:=Uk (P++c1) (O2++R) y x
  have n1:((((P++c1).length+1:Nat):Int)).toNat=(P++c1).length+1:=by omega
  have n2:((((P++c1).length+1:Nat):Int)-1).toNat=(P++c1).length:=by omega
  have b1:((((P++c1).length+1:Nat):Int)).toNat<((P++c1)++y::x::(O2++R)).length:=by omega
  have b2:((((P++c1).length+1:Nat):Int)-1).toNat<((P++c1)++y::x::(O2++R)).length:=by omega
  have e1:((P++c1)++y::x::(O2++R))[((((P++c1).length+1:Nat):Int)).toNat]'b1=x:=by simp only[n1];rw[List.getElem_append_right j_];simp
  have e2:((P++c1)++y::x::(O2++R))[((((P++c1).length+1:Nat):Int)-1).toNat]'b2=y:=by simp only[n2];rw[List.getElem_append_right j_];simp
  generalize hLL:(P++c1)++y::x::(O2++R)=L at *
  have hset2:(L.set ((((P++c1).length+1:Nat):Int)).toNat (L[((((P++c1).length+1:Nat):Int)-1).toNat]'b2)).set ((((P++c1).length+1:Nat):Int)-1).toNat (L[((((P++c1).length+1:Nat):Int)).toNat]'b1)=(P++c1)++x::y::(O2++R):=by
   rw[e1,e2];simp only[n1,n2];exact hset
  have b3:((((P++c1).length+1:Nat):Int)-1).toNat<(L.set ((((P++c1).length+1:Nat):Int)).toNat (L[((((P++c1).length+1:Nat):Int)-1).toNat]'b2)).length:=by rw[List.length_set];exact b2
  have hcc:lt x y=decide (c (L[((((P++c1).length+1:Nat):Int)).toNat]'b1) (L[((((P++c1).length+1:Nat):Int)-1).toNat]'b2)<0):=by rw[e1,e2,← hlt]
  have q1:=hf (L[((((P++c1).length+1:Nat):Int)).toNat]'b1) (L[((((P++c1).length+1:Nat):Int)-1).toNat]'b2) (by rw[e1];exact hQx) (by rw[e2];exact hQy)
  refine T ?_
  refine Lx q1 q_ q_ q_ (by simp only[hin];rfl) y_ q_ ?_
  refine T ?_
  refine⟨fun h2=>?_,fun h2=>?_⟩
  ·rw[h2]at hcc
   refine T ?_
   refine⟨L[((((P++c1).length+1:Nat):Int)-1).toNat]'b2,q_,q_,?_⟩
   refine T ?_
   refine⟨L[((((P++c1).length+1:Nat):Int)).toNat]'b1,q_,q_,?_⟩
   refine T ?_
   refine Al (c1,y::O2) [] ⟨by dsimp only;rw[← hq1];simp,fun z hz=>by
    rcases List.mem_cons.1 hz with rfl | hz
    ·exact hcc
    ·exact hq2 z hz⟩ (by dsimp only;omega) ⟨⟨q_,q_,q_,q_,q_,q_,A2 _,hc',q_,q_,congrArg Aa (by dsimp only;omega),q_,z_⟩,⟨.inl (congrArg (Ob.row 17 Ab) (by rw[hset2];rfl)),q_,z_⟩,q_,q_⟩
  ·rw[h2]at hcc
   have hrun:=hrun hcc
   refine T ?_
   refine Df [] j_ ⟨⟨q_,q_,q_,q_,q_,q_,A2 _,hc',congrArg Aa j_,q_,z_⟩,⟨.inl (congrArg (Ob.row 17 Ab) (by rw[hR,hfin,hrun,← hLL];simp)),q_,z_⟩,q_,q_⟩
 ·have h:=of_decide_eq_false h
  have e:At lt (M.take (j+1))++(M.drop (j+1)++B)=At lt M++B:=by
   rw[List.take_of_length_le j_,List.drop_of_length_le j_,List.nil_append]
  rw[e]
  refine T ?_
  exact Bj q_ .nil [] [(0,.row 17 Ab (P++(At lt M++B)))] (fun _ h=>h) q_ q_ ⟨z_,⟨.inl q_,q_,z_⟩,q_,q_⟩
theorem Y4 (A W:List LineM) (x y:LineM):((A++x::y::W).set A.length y).set (A.length+1) x=A++y::x::W:=by
 rw[List.set_append_right _ _ (Nat.le_refl _),List.set_append_right _ _ j_]
 simp
theorem Hr (x y k:Nat) (hk:k=(x+y) / 2) (hs:x+y<1000000000):IntKind.i64.wrap ((IntKind.u64.wrap ((x:Int)+(y:Int))).fdiv (2 ^ min (Int.toNat 1) IntKind.u64.bits))=(k:Int):=by
 have e:((x:Int)+(y:Int))=((x+y:Nat):Int):=by omega
 have w:IntKind.u64.wrap ((x+y:Nat):Int)=((x+y:Nat):Int):=by rw[IntKind.wrap_u64];omega
 rw[e,w]
 show IntKind.i64.wrap ((((x+y:Nat):Int)).fdiv 2)=_
 rw[Int.fdiv_eq_ediv_of_nonneg _ qc,IntKind.wrap_i64]
 omega
abbrev Eu (x y:Int):Int:=IntKind.i64.wrap ((IntKind.u64.wrap (x+y)).fdiv (2 ^ min (Int.toNat 1) IntKind.u64.bits))
theorem Yn {α:Type} {D:List α} {z:Int} {k:Nat} (hz:z=(k:Int)) (h:z.toNat<D.length) (h2:(k:Int).toNat<D.length):D[z.toNat]'h=D[(k:Int).toNat]'h2:=by subst hz;rfl
def OneL (lt:LineM→LineM→Bool) (x:LineM) (R:List LineM) (q:Nat × Nat):Prop:=q.1≤q.2∧q.2≤R.length∧(q.1=0∨∃ h:q.1-1<R.length,lt R[q.1-1] x=true)∧(q.2=R.length∨∃ h:q.2<R.length,lt R[q.2] x=false)
theorem Yw (c:LineM→LineM→Int) (Q:LineM→Prop) (f:FuncId) (first cap:List SV) (hc:(SV.clo (.func f) first cap).inn []=true) (hf:∀ a b,Q a→Q b→M5 Tryz.prog f (first++[Ab a,Ab b]++cap) (Aa (c a b)))
  (lt:LineM→LineM→Bool) (hlt:(fun x y=>decide (c x y<0))=lt) (ho:Ordy lt) (P R B:List LineM) (x:LineM) (hQx:Q x) (hQ:∀ y∈R,Q y) (hR:Srt lt R) (hl:(P++x::(R++B)).length<1000000) (a m b:Nat) (ha:a=P.length) (hm1:m=a+1) (hb1:b=m+R.length) :
  Sy.Spec Tryz.prog 169 [.osl 0,Aa a,Aa m,Aa b,.clo (.func f) first cap] [(0,.row 17 Ab (P++x::(R++B)))] (.tup []) [(0,.row 17 Ab (P++(Ar lt [x] R++B)))]:=cT F169 Tryz.ntmps169 fun F hF=>by
 have hin:∀ x y:LineM,Bd [] (first++[Ab x,Ab y]++cap)=true:=fun x y=>Oa hc rfl
 have hc':(SV.clo (.func f) first cap).inn [0]=true:=Db _ hc
 have hll:P.length+1+R.length+B.length<1000000:=by simp only[List.length_append,List.length_cons]at hl;omega
 obtain ⟨D,hD⟩:∃ D,P++x::(R++B)=D:=⟨_,rfl⟩
 have hdl:D.length=P.length+1+R.length+B.length:=by rw[← hD];simp;omega
 have ex:∀ h:((a:Nat):Int).toNat<D.length,D[((a:Nat):Int).toNat]'h=x:=fun h=>by
  subst hD;subst ha
  simp only[Int.toNat_natCast]
  rw[List.getElem_append_right (Nat.le_refl _)]
  simp
 have er:∀ (k:Nat) (hk:k<R.length) (h:((m+k:Nat):Int).toNat<D.length),D[((m+k:Nat):Int).toNat]'h=R[k]:=fun k hk h=>by
  subst hD;subst hm1;subst ha
  simp only[Int.toNat_natCast]
  rw[List.getElem_append_right j_]
  simp only[show P.length+1+k-P.length=k+1 by omega,List.getElem_cons_succ]
  rw[List.getElem_append_left hk]
 rw[hD]
 refine T ?_
 refine Az (OneL lt x R) (fun q=>[(0,.osl 0),(1,Aa a),(4,.clo (.func f) first cap),(10,Aa ((m+q.1:Nat):Int)),(11,Aa ((m+q.2:Nat):Int))]) (fun _=>[(0,.row 17 Ab D)]) (fun q=>q.2-q.1) (0,R.length) [] ⟨Nat.zero_le _,Nat.le_refl _,.inl q_,.inl q_⟩ ⟨⟨q_,q_,q_,q_,A2 _,hc',q_,q_,congrArg Aa (by dsimp only;omega),q_,z_⟩,⟨.inl q_,q_,z_⟩,q_,q_⟩ ?_
 rintro ⟨s,r⟩ ⟨h1,h2,h3,h4⟩
 dsimp only at h1 h2 h3 h4 ⊢
 refine T ?_
 refine⟨fun h=>?_,fun h=>?_⟩
 ·have hsr:s<r:=qA h
  clear h
  obtain ⟨k,hk⟩:∃ k,k=(s+r) / 2:=⟨_,rfl⟩
  have hhs:=Hr (m+s) (m+r) (m+k) j_ j_
  have b0:((m+k:Nat):Int).toNat<D.length:=by omega
  have b1:(Eu ((m+s:Nat):Int) ((m+r:Nat):Int)).toNat<D.length:=by show (IntKind.i64.wrap _).toNat<_;rw[hhs];exact b0
  have b2:((a:Nat):Int).toNat<D.length:=by omega
  have hkr:k<R.length:=by omega
  have ez:D[(Eu ((m+s:Nat):Int) ((m+r:Nat):Int)).toNat]'b1=R[k]:=(Yn hhs b1 b0).trans (er k hkr b0)
  have hcc:lt R[k] x=decide (c (D[(Eu ((m+s:Nat):Int) ((m+r:Nat):Int)).toNat]'b1) (D[((a:Nat):Int).toNat]'b2)<0):=by rw[ez,ex b2,← hlt]
  have q1:=hf (D[(Eu ((m+s:Nat):Int) ((m+r:Nat):Int)).toNat]'b1) (D[((a:Nat):Int).toNat]'b2) (by rw[ez];exact hQ _ (List.getElem_mem _)) (by rw[ex b2];exact hQx)
  refine T ?_
  refine Lx q1 q_ q_ q_ (by simp only[hin];rfl) y_ q_ ?_
  refine T ?_
  refine⟨fun h=>?_,fun h=>?_⟩
  ·rw[h]at hcc
   refine T ?_
   refine Al (k+1,r) [] ⟨by dsimp only;omega,h2,.inr ⟨by dsimp only;omega,hcc⟩,h4⟩ (by dsimp only;omega) ⟨⟨q_,q_,q_,q_,A2 _,hc',congrArg Aa (by dsimp only;omega),q_,q_,q_,z_⟩,⟨.inl q_,q_,z_⟩,q_,q_⟩
  ·rw[h]at hcc
   refine T ?_
   refine Al (s,k) [] ⟨by dsimp only;omega,by dsimp only;omega,h3,.inr ⟨hkr,hcc⟩⟩ (by dsimp only;omega) ⟨⟨q_,q_,q_,q_,A2 _,hc',q_,q_,congrArg Aa (by dsimp only;omega),q_,z_⟩,⟨.inl q_,q_,z_⟩,q_,q_⟩
 ·have hsr:s=r:=qB h
  subst hsr
  have hmg:=Vg ho x hR s h2 h3 h4
  rw[hmg]
  clear h hmg
  refine T ?_
  refine Dc s (fun i=>[(0,.osl 0),(10,Aa ((m+s:Nat):Int)),(13,Aa ((a+i:Nat):Int))]) (fun i=>[(0,.row 17 Ab ((P++R.take i)++x::(R.drop i++B)))]) [] ⟨⟨q_,q_,q_,q_,congrArg Aa j_,q_,z_⟩,⟨.inl (congrArg (Ob.row 17 Ab) (by rw[← hD];simp)),q_,z_⟩,q_,q_⟩ ?_
  intro i hi
  refine T ?_
  refine⟨fun h=>?_,fun h=>?_⟩
  ·have his:i<s:=qA h
   have hir:i<R.length:=by omega
   have hdr:R.drop i++B=R[i]::(R.drop (i+1)++B):=by rw[List.drop_eq_getElem_cons hir];rfl
   have htk:R.take (i+1)=R.take i++[R[i]]:=List.take_succ_eq_append_getElem hir
   have hAl:(P++R.take i).length=a+i:=by rw[List.length_append,List.length_take];omega
   have hsp:=Y4 (P++R.take i) (R.drop (i+1)++B) x R[i]
   have hfin:(P++R.take (i+1))++x::(R.drop (i+1)++B)=(P++R.take i)++R[i]::x::(R.drop (i+1)++B):=by rw[htk,← List.append_assoc P,List.append_assoc (P++R.take i)];rfl
   generalize R[i]=y at *
   rw[hdr]
   have hEl:((P++R.take i)++x::y::(R.drop (i+1)++B)).length=D.length:=by simp;omega
   have n1:(((a+i:Nat):Int)).toNat=(P++R.take i).length:=by omega
   have n2:(((a+i:Nat):Int)+1).toNat=(P++R.take i).length+1:=by omega
   have g1:∀ h,((P++R.take i)++x::y::(R.drop (i+1)++B))[(((a+i:Nat):Int)).toNat]'h=x:=fun h=>by simp only[n1];rw[List.getElem_append_right (Nat.le_refl _)];simp
   have g2:∀ h,((P++R.take i)++x::y::(R.drop (i+1)++B))[(((a+i:Nat):Int)+1).toNat]'h=y:=fun h=>by simp only[n2];rw[List.getElem_append_right j_];simp
   generalize hE:(P++R.take i)++x::y::(R.drop (i+1)++B)=E at *
   have c1:(((a+i:Nat):Int)).toNat<E.length:=by omega
   have c2:(((a+i:Nat):Int)+1).toNat<E.length:=by omega
   have c3:(((a+i:Nat):Int)+1).toNat<(E.set (((a+i:Nat):Int)).toNat (E[(((a+i:Nat):Int)+1).toNat]'c2)).length:=by rw[List.length_set];exact c2
   have hset:(E.set (((a+i:Nat):Int)).toNat (E[(((a+i:Nat):Int)+1).toNat]'c2)).set (((a+i:Nat):Int)+1).toNat (E[(((a+i:Nat):Int)).toNat]'c1)=(P++R.take i)++y::x::(R.drop (i+1)++B):=by
    rw[g1 c1,g2 c2];simp only[n1,n2];exact hsp
   clear h
   refine T ?_
   refine⟨E[(((a+i:Nat):Int)+1).toNat]'c2,q_,q_,?_⟩
   refine T ?_
   refine⟨E[(((a+i:Nat):Int)).toNat]'c1,q_,q_,?_⟩
   refine T ?_
   refine Df [] his ⟨⟨q_,q_,q_,q_,congrArg Aa j_,q_,z_⟩,⟨.inl (congrArg (Ob.row 17 Ab) (by rw[hset,hfin])),q_,z_⟩,q_,q_⟩
  ·have his:i=s:=qB h
   subst his
   rw[show P++((R.take i++x::R.drop i)++B)=(P++R.take i)++x::(R.drop i++B) by simp]
   refine T ?_
   exact E0
def OneR (lt:LineM→LineM→Bool) (y:LineM) (L:List LineM) (q:Nat × Nat):Prop:=q.1≤q.2∧q.2≤L.length∧(q.1=0∨∃ h:q.1-1<L.length,lt y L[q.1-1]=false)∧(q.2=L.length∨∃ h:q.2<L.length,lt y L[q.2]=true)
theorem Yv (c:LineM→LineM→Int) (Q:LineM→Prop) (f:FuncId) (first cap:List SV) (hc:(SV.clo (.func f) first cap).inn []=true) (hf:∀ a b,Q a→Q b→M5 Tryz.prog f (first++[Ab a,Ab b]++cap) (Aa (c a b)))
  (lt:LineM→LineM→Bool) (hlt:(fun x y=>decide (c x y<0))=lt) (ho:Ordy lt) (P L B:List LineM) (y:LineM) (hQx:Q y) (hQ:∀ x∈L,Q x) (hL:Srt lt L) (h2:2≤L.length) (hl:(P++(L++y::B)).length<1000000) (a m b:Nat) (ha:a=P.length) (hm1:m=a+L.length) (hb1:b=m+1) :
  Sy.Spec Tryz.prog 169 [.osl 0,Aa a,Aa m,Aa b,.clo (.func f) first cap] [(0,.row 17 Ab (P++(L++y::B)))] (.tup []) [(0,.row 17 Ab (P++(Ar lt L [y]++B)))]:=cT F169 Tryz.ntmps169 fun F hF=>by
 have hin:∀ x y:LineM,Bd [] (first++[Ab x,Ab y]++cap)=true:=fun x y=>Oa hc rfl
 have hc':(SV.clo (.func f) first cap).inn [0]=true:=Db _ hc
 have hll:P.length+1+L.length+B.length<1000000:=by simp only[List.length_append,List.length_cons]at hl;omega
 obtain ⟨D,hD⟩:∃ D,P++(L++y::B)=D:=⟨_,rfl⟩
 have hdl:D.length=P.length+1+L.length+B.length:=by rw[← hD];simp;omega
 have ey:∀ h:((m:Nat):Int).toNat<D.length,D[((m:Nat):Int).toNat]'h=y:=fun h=>by
  subst hD;subst hm1;subst ha
  simp only[Int.toNat_natCast]
  rw[List.getElem_append_right j_]
  simp only[Nat.add_sub_cancel_left]
  rw[List.getElem_append_right (Nat.le_refl _)]
  simp
 have el:∀ (k:Nat) (hk:k<L.length) (h:((a+k:Nat):Int).toNat<D.length),D[((a+k:Nat):Int).toNat]'h=L[k]:=fun k hk h=>by
  subst hD;subst hm1;subst ha
  simp only[Int.toNat_natCast]
  rw[List.getElem_append_right j_]
  simp only[Nat.add_sub_cancel_left]
  rw[List.getElem_append_left hk]
 rw[hD]
 refine T ?_
 refine Az (OneR lt y L) (fun q=>[(0,.osl 0),(2,Aa m),(4,.clo (.func f) first cap),(14,Aa ((a+q.1:Nat):Int)),(15,Aa ((a+q.2:Nat):Int))]) (fun _=>[(0,.row 17 Ab D)]) (fun q=>q.2-q.1) (0,L.length) [] ⟨Nat.zero_le _,Nat.le_refl _,.inl q_,.inl q_⟩ ⟨⟨q_,q_,q_,q_,A2 _,hc',q_,q_,congrArg Aa (by dsimp only;omega),q_,z_⟩,⟨.inl q_,q_,z_⟩,q_,q_⟩ ?_
 rintro ⟨s,r⟩ ⟨h1,h3,h4,h5⟩
 dsimp only at h1 h3 h4 h5 ⊢
 refine T ?_
 refine⟨fun h=>?_,fun h=>?_⟩
 ·have hsr:s<r:=qA h
  clear h
  obtain ⟨k,hk⟩:∃ k,k=(s+r) / 2:=⟨_,rfl⟩
  have hhs:=Hr (a+s) (a+r) (a+k) j_ j_
  have b0:((a+k:Nat):Int).toNat<D.length:=by omega
  have b1:(Eu ((a+s:Nat):Int) ((a+r:Nat):Int)).toNat<D.length:=by show (IntKind.i64.wrap _).toNat<_;rw[hhs];exact b0
  have b2:((m:Nat):Int).toNat<D.length:=by omega
  have hkr:k<L.length:=by omega
  have ez:D[(Eu ((a+s:Nat):Int) ((a+r:Nat):Int)).toNat]'b1=L[k]:=(Yn hhs b1 b0).trans (el k hkr b0)
  have hcc:lt y L[k]=decide (c (D[((m:Nat):Int).toNat]'b2) (D[(Eu ((a+s:Nat):Int) ((a+r:Nat):Int)).toNat]'b1)<0):=by rw[ez,ey b2,← hlt]
  have q1:=hf (D[((m:Nat):Int).toNat]'b2) (D[(Eu ((a+s:Nat):Int) ((a+r:Nat):Int)).toNat]'b1) (by rw[ey b2];exact hQx) (by rw[ez];exact hQ _ (List.getElem_mem _))
  refine T ?_
  refine Lx q1 q_ q_ q_ (by simp only[hin];rfl) y_ q_ ?_
  cases hcv:lt y L[k]
  ·rw[hcv]at hcc
   refine T ?_
   refine⟨fun _=>?_,fun h=>?_⟩
   ·refine T ?_
    refine Al (k+1,r) [] ⟨by dsimp only;omega,h3,.inr ⟨by dsimp only;omega,hcv⟩,h5⟩ (by dsimp only;omega) ⟨⟨q_,q_,q_,q_,A2 _,hc',congrArg Aa (by dsimp only;omega),q_,q_,q_,z_⟩,⟨.inl q_,q_,z_⟩,q_,q_⟩
   ·rw[← hcc]at h;cases h
  ·rw[hcv]at hcc
   refine T ?_
   refine⟨fun h=>?_,fun _=>?_⟩
   ·rw[← hcc]at h;cases h
   ·refine T ?_
    refine Al (s,k) [] ⟨by dsimp only;omega,by dsimp only;omega,h4,.inr ⟨hkr,hcv⟩⟩ (by dsimp only;omega) ⟨⟨q_,q_,q_,q_,A2 _,hc',q_,q_,congrArg Aa (by dsimp only;omega),q_,z_⟩,⟨.inl q_,q_,z_⟩,q_,q_⟩
 ·have hsr:s=r:=qB h
  subst hsr
  have hmg:=Vf ho y hL s h3 h4 h5
  rw[hmg]
  clear h hmg
  refine T ?_
  refine Dc (L.length-s) (fun i=>[(0,.osl 0),(14,Aa ((a+s:Nat):Int)),(17,Aa ((m-i:Nat):Int))]) (fun i=>[(0,.row 17 Ab ((P++L.take (L.length-i))++y::(L.drop (L.length-i)++B)))]) [] ⟨⟨q_,q_,q_,q_,congrArg Aa j_,q_,z_⟩,⟨.inl (congrArg (Ob.row 17 Ab) (by rw[← hD];simp)),q_,z_⟩,q_,q_⟩ ?_
  intro i hi
  refine T ?_
  refine⟨fun h=>?_,fun h=>?_⟩
  ·have his:i<L.length-s:=qA h
   obtain ⟨j,hj⟩:∃ j,L.length-i=j+1:=⟨L.length-i-1,by omega⟩
   have hj2:L.length-(i+1)=j:=by omega
   have hjr:j<L.length:=by omega
   rw[hj]
   have htk:L.take (j+1)=L.take j++[L[j]]:=List.take_succ_eq_append_getElem hjr
   have hdr:L.drop j++B=L[j]::(L.drop (j+1)++B):=by rw[List.drop_eq_getElem_cons hjr];rfl
   have hAl:(P++L.take j).length=a+j:=by rw[List.length_append,List.length_take];omega
   have hsp:=Uk (P++L.take j) (L.drop (j+1)++B) L[j] y
   have hst:(P++L.take (j+1))++y::(L.drop (j+1)++B)=(P++L.take j)++L[j]::y::(L.drop (j+1)++B):=by rw[htk,← List.append_assoc P,List.append_assoc (P++L.take j)];rfl
   rw[hst]
   generalize L[j]=z at *
   have hEl:((P++L.take j)++z::y::(L.drop (j+1)++B)).length=D.length:=by simp;omega
   have n1:(((m-i:Nat):Int)).toNat=(P++L.take j).length+1:=by omega
   have n2:(((m-i:Nat):Int)-1).toNat=(P++L.take j).length:=by omega
   have g1:∀ h,((P++L.take j)++z::y::(L.drop (j+1)++B))[(((m-i:Nat):Int)).toNat]'h=y:=fun h=>by simp only[n1];rw[List.getElem_append_right j_];simp
   have g2:∀ h,((P++L.take j)++z::y::(L.drop (j+1)++B))[(((m-i:Nat):Int)-1).toNat]'h=z:=fun h=>by simp only[n2];rw[List.getElem_append_right (Nat.le_refl _)];simp
   generalize hE:(P++L.take j)++z::y::(L.drop (j+1)++B)=E at *
   have c1:(((m-i:Nat):Int)).toNat<E.length:=by omega
   have c2:(((m-i:Nat):Int)-1).toNat<E.length:=by omega
   have c3:(((m-i:Nat):Int)-1).toNat<(E.set (((m-i:Nat):Int)).toNat (E[(((m-i:Nat):Int)-1).toNat]'c2)).length:=by rw[List.length_set];exact c2
   have hset:(E.set (((m-i:Nat):Int)).toNat (E[(((m-i:Nat):Int)-1).toNat]'c2)).set (((m-i:Nat):Int)-1).toNat (E[(((m-i:Nat):Int)).toNat]'c1)=(P++L.take j)++y::z::(L.drop (j+1)++B):=by
    rw[g1 c1,g2 c2];simp only[n1,n2];exact hsp
   clear h
   refine T ?_
   refine⟨E[(((m-i:Nat):Int)-1).toNat]'c2,q_,q_,?_⟩
   refine T ?_
   refine⟨E[(((m-i:Nat):Int)).toNat]'c1,q_,q_,?_⟩
   refine T ?_
   refine Df [] his ⟨⟨q_,q_,q_,q_,congrArg Aa j_,q_,z_⟩,⟨.inl (congrArg (Ob.row 17 Ab) (by rw[hset,hj2,hdr])),q_,z_⟩,q_,q_⟩
  ·have his:L.length-i=s:=qB h
   rw[his]
   rw[show P++((L.take s++y::L.drop s)++B)=(P++L.take s)++y::(L.drop s++B) by simp]
   refine T ?_
   exact E0
def CutA (lt:LineM→LineM→Bool) (L R:List LineM) (d i:Nat):Prop:=i=0∨R.length≤d-i∨∃ (hi:i-1<L.length) (hj:d-i<R.length),0<i∧lt R[d-i] L[i-1]=false
def CutB (lt:LineM→LineM→Bool) (L R:List LineM) (d i:Nat):Prop:=L.length≤i∨d-i=0∨∃ (hi:i<L.length) (hj:d-i-1<R.length),0<d-i∧lt R[d-i-1] L[i]=true
structure CutI (lt:LineM→LineM→Bool) (L R:List LineM) (d:Nat) (q:Nat × Nat):Prop where
 le:q.1≤q.2
 l:q.2≤L.length
 d2:q.2≤d
 r:d≤q.1+R.length
 h1:CutA lt L R d q.1
 h2:CutB lt L R d q.2
theorem Q5 (c:LineM→LineM→Int) (Q:LineM→Prop) (f:FuncId) (first cap:List SV) (hc:(SV.clo (.func f) first cap).inn []=true) (hf:∀ a b,Q a→Q b→M5 Tryz.prog f (first++[Ab a,Ab b]++cap) (Aa (c a b)))
  (lt:LineM→LineM→Bool) (hlt:(fun x y=>decide (c x y<0))=lt) (ho:Ordy lt):∀ (N:Nat) (P L R B:List LineM),L.length+R.length≤N→(∀ x∈L,Q x)→(∀ x∈R,Q x)→Srt lt L→Srt lt R→0<L.length→0<R.length→(P++(L++(R++B))).length<1000000 →
  ∀ a m b:Nat,a=P.length→m=a+L.length→b=m+R.length →
  Sy.Spec Tryz.prog 169 [.osl 0,Aa a,Aa m,Aa b,.clo (.func f) first cap] [(0,.row 17 Ab (P++(L++(R++B))))] (.tup []) [(0,.row 17 Ab (P++(Ar lt L R++B)))]:=by
 have hin:∀ x y:LineM,Bd [] (first++[Ab x,Ab y]++cap)=true:=fun x y=>Oa hc rfl
 have hc':(SV.clo (.func f) first cap).inn [0]=true:=Db _ hc
 have hok:∀ a b n:Int,Bd [0] [.osl 0,Aa a,Aa b,Aa n,.clo (.func f) first cap]=true:=fun a b n=>by simp only[Bd,hc'];rfl
 intro N
 induction N with
 | zero=>intro P L R B h _ _ _ _ h1;omega
 | succ N ih =>
  intro P L R B hN hQL hQR hL hR hL0 hR0 hl a m b ha hm1 hb1
  have hll:P.length+L.length+R.length+B.length<1000000:=by simp only[List.length_append]at hl;omega
  by_cases hl1:L.length=1
  ·obtain ⟨x,rfl⟩:=List.length_eq_one_iff.1 hl1
   exact Yw c Q f first cap hc hf lt hlt ho P R B x (hQL x qd) hQR hR hl a m b ha hm1 hb1
  by_cases hr1:R.length=1
  ·obtain ⟨y,rfl⟩:=List.length_eq_one_iff.1 hr1
   exact Yv c Q f first cap hc hf lt hlt ho P L B y (hQR y qd) hQL hL j_ hl a m b ha hm1 hb1
  obtain ⟨mid,hmid⟩:∃ mid,mid=(a+b) / 2:=⟨_,rfl⟩
  have hhm:=Hr a b mid hmid j_
  obtain ⟨d,hd⟩:∃ d,mid=a+d:=⟨mid-a,by omega⟩
  obtain ⟨D,hD⟩:∃ D,P++(L++(R++B))=D:=⟨_,rfl⟩
  have hdl:D.length=P.length+L.length+R.length+B.length:=by rw[← hD];simp;omega
  have el:∀ (k:Nat) (hk:k<L.length) (z:Int) (hz:z=((a+k:Nat):Int)) (h:z.toNat<D.length),D[z.toNat]'h=L[k]:=fun k hk z hz h=>by
   subst hD;subst hm1;subst ha;subst hz
   simp only[Int.toNat_natCast]
   rw[List.getElem_append_right j_]
   simp only[Nat.add_sub_cancel_left]
   rw[List.getElem_append_left hk]
  have er:∀ (k:Nat) (hk:k<R.length) (z:Int) (hz:z=((m+k:Nat):Int)) (h:z.toNat<D.length),D[z.toNat]'h=R[k]:=fun k hk z hz h=>by
   subst hD;subst hm1;subst ha;subst hz
   simp only[Int.toNat_natCast]
   rw[List.getElem_append_right j_]
   simp only[show P.length+L.length+k-P.length=L.length+k by omega]
   rw[List.getElem_append_right j_]
   simp only[Nat.add_sub_cancel_left]
   rw[List.getElem_append_left hk]
  rw[hD]
  have hfin:∀ i,CutI lt L R d (i,i)→Ar lt L R=Ar lt (L.take i) (R.take (d-i))++Ar lt (L.drop i) (R.drop (d-i)):=fun i hi=>by
   refine Lq ho hL hR i (d-i) ?_ ?_
   ·exact hi.h1
   ·exact hi.h2
  have htarget:P++(Ar lt L R++B)=P++(Ar lt L R++B):=rfl
  refine Hc Γ hm 100 F169 Tryz.ntmps169 q_ fun F hF=>by
   refine T ?_
   by_cases hc1:mid<m
   rotate_left
   refine⟨fun h=>absurd (of_decide_eq_true h) j_,fun h=>?_⟩
   clear h
   refine T ?_
   refine Az (CutI lt L R d) (fun q=>[(0,.osl 0),(1,Aa a),(2,Aa m),(3,Aa b),(4,.clo (.func f) first cap),(18,Aa (mid:Nat)),(19,Aa ((mid+m:Nat):Int)),(20,Aa ((a+q.1:Nat):Int)),(21,Aa ((a+q.2:Nat):Int)),(22,Aa ((mid+m-1:Nat):Int))]) (fun _=>[(0,.row 17 Ab D)]) (fun q=>q.2-q.1) (0,L.length) [] ⟨Nat.zero_le _,Nat.le_refl _,by dsimp only;omega,by dsimp only;omega,.inl q_,.inl (Nat.le_refl _)⟩
    ⟨⟨rfl,rfl,rfl,rfl,rfl,rfl,rfl,rfl,A2 _,hc',congrArg Aa j_,rfl,congrArg Aa j_,rfl,rfl,rfl,congrArg Aa (by dsimp only;omega),rfl,congrArg Aa j_,rfl,trivial⟩,⟨.inl rfl,rfl,trivial⟩,rfl,rfl⟩ ?_
   rotate_left
   refine⟨fun h=>?_,fun h=>absurd (of_decide_eq_false h) j_⟩
   clear h
   refine T ?_
   refine Az (CutI lt L R d) (fun q=>[(0,.osl 0),(1,Aa a),(2,Aa m),(3,Aa b),(4,.clo (.func f) first cap),(18,Aa (mid:Nat)),(19,Aa ((mid+m:Nat):Int)),(20,Aa ((a+q.1:Nat):Int)),(21,Aa ((a+q.2:Nat):Int)),(22,Aa ((mid+m-1:Nat):Int))]) (fun _=>[(0,.row 17 Ab D)]) (fun q=>q.2-q.1) (d-R.length,d) [] ⟨Nat.sub_le _ _,by dsimp only;omega,Nat.le_refl _,by dsimp only;omega,(by show _∨_;dsimp only;omega),.inr (.inl (Nat.sub_self _))⟩
    ⟨⟨rfl,rfl,rfl,rfl,rfl,rfl,rfl,rfl,A2 _,hc',congrArg Aa j_,rfl,congrArg Aa j_,rfl,congrArg Aa (by dsimp only;omega),rfl,congrArg Aa (by dsimp only;omega),rfl,congrArg Aa j_,rfl,trivial⟩,⟨.inl rfl,rfl,trivial⟩,rfl,rfl⟩ ?_
   all_goals
    rintro ⟨i,r⟩ hq
    have hfi:=hfin i
    obtain ⟨g1,g2,g3,g4,g5,g6⟩:=hq
    dsimp only at g1 g2 g3 g4 g5 g6 ⊢
    refine T ?_
    refine⟨fun h=>?_,fun h=>?_⟩
    ·have hsr:i<r:=qA h
     clear h hfi
     obtain ⟨k,hk⟩:∃ k,k=(i+r) / 2:=⟨_,rfl⟩
     have hhs:=Hr (a+i) (a+r) (a+k) j_ j_
     obtain ⟨j,hj⟩:∃ j,d=k+j+1:=⟨d-k-1,by omega⟩
     have hkl:k<L.length:=by omega
     have hkr:j<R.length:=by omega
     have hzr:((mid+m-1:Nat):Int)-Eu ((a+i:Nat):Int) ((a+r:Nat):Int)=((m+j:Nat):Int):=by show _-IntKind.i64.wrap _=_;rw[hhs];omega
     have b1:(((mid+m-1:Nat):Int)-Eu ((a+i:Nat):Int) ((a+r:Nat):Int)).toNat<D.length:=by rw[hzr];omega
     have b2:(Eu ((a+i:Nat):Int) ((a+r:Nat):Int)).toNat<D.length:=by show (IntKind.i64.wrap _).toNat<_;rw[hhs];omega
     have e1:=er j hkr _ hzr b1
     have e2:=el k hkl _ hhs b2
     have hcc:lt R[j] L[k]=decide (c (D[(((mid+m-1:Nat):Int)-Eu ((a+i:Nat):Int) ((a+r:Nat):Int)).toNat]'b1) (D[(Eu ((a+i:Nat):Int) ((a+r:Nat):Int)).toNat]'b2)<0):=by rw[e1,e2,← hlt]
     have q1:=hf (D[(((mid+m-1:Nat):Int)-Eu ((a+i:Nat):Int) ((a+r:Nat):Int)).toNat]'b1) (D[(Eu ((a+i:Nat):Int) ((a+r:Nat):Int)).toNat]'b2) (by rw[e1];exact hQR _ (List.getElem_mem _)) (by rw[e2];exact hQL _ (List.getElem_mem _))
     refine T ?_
     refine Lx q1 q_ q_ q_ (by simp only[hin];rfl) y_ q_ ?_
     cases hcv:lt R[j] L[k]
     ·rw[hcv]at hcc
      refine T ?_
      refine⟨fun _=>?_,fun h=>?_⟩
      ·refine T ?_
       refine Al (k+1,r) [] ⟨by dsimp only;omega,g2,g3,by dsimp only;omega,.inr (.inr ⟨by dsimp only;omega,by dsimp only;omega,Nat.succ_pos _,by
        have e:d-(k+1)=j:=by omega
        simp only[e,Nat.add_sub_cancel]
        exact hcv⟩),g6⟩ (by dsimp only;omega) ⟨⟨q_,q_,q_,q_,q_,q_,q_,q_,A2 _,hc',q_,q_,q_,q_,congrArg Aa (by dsimp only;omega),q_,q_,q_,q_,q_,z_⟩,⟨.inl q_,q_,z_⟩,q_,q_⟩
      ·rw[← hcc]at h;cases h
     ·rw[hcv]at hcc
      refine T ?_
      refine⟨fun h=>?_,fun _=>?_⟩
      ·rw[← hcc]at h;cases h
      ·refine T ?_
       refine Al (i,k) [] ⟨by dsimp only;omega,by dsimp only;omega,by dsimp only;omega,g4,g5,.inr (.inr ⟨hkl,by dsimp only;omega,by dsimp only;omega,by
        have e:d-k-1=j:=by omega
        simp only[e]
        exact hcv⟩)⟩ (by dsimp only;omega) ⟨⟨q_,q_,q_,q_,q_,q_,q_,q_,A2 _,hc',q_,q_,q_,q_,q_,q_,congrArg Aa (by dsimp only;omega),q_,q_,q_,z_⟩,⟨.inl q_,q_,z_⟩,q_,q_⟩
    ·have hsr:i=r:=qB h
     subst hsr
     clear h er el
     have hcut:=hfi ⟨g1,g2,g3,g4,g5,g6⟩
     clear hfi
     have hLL:=List.take_append_drop i L
     have hRR:=List.take_append_drop (d-i) R
     have k1:(L.take i).length=i:=by rw[List.length_take];omega
     have k2:(L.drop i).length=L.length-i:=List.length_drop
     have k3:(R.take (d-i)).length=d-i:=by rw[List.length_take];omega
     have k4:(R.drop (d-i)).length=R.length-(d-i):=List.length_drop
     have m1:∀ x∈L.take i,Q x:=fun x hx=>hQL x (List.mem_of_mem_take hx)
     have m2:∀ x∈L.drop i,Q x:=fun x hx=>hQL x (List.mem_of_mem_drop hx)
     have m3:∀ x∈R.take (d-i),Q x:=fun x hx=>hQR x (List.mem_of_mem_take hx)
     have m4:∀ x∈R.drop (d-i),Q x:=fun x hx=>hQR x (List.mem_of_mem_drop hx)
     have s1:Srt lt (L.take i):=hL.sublist (List.take_sublist _ _)
     have s2:Srt lt (L.drop i):=hL.sublist (List.drop_sublist _ _)
     have s3:Srt lt (R.take (d-i)):=hR.sublist (List.take_sublist _ _)
     have s4:Srt lt (R.drop (d-i)):=hR.sublist (List.drop_sublist _ _)
     have hY0:P++(L.take i++(L.drop i++(R.take (d-i)++(R.drop (d-i)++B))))=D:=by
      rw[← hD,← List.append_assoc (L.take i),hLL,← List.append_assoc (R.take (d-i)),hRR]
     clear hD hLL hRR
     rw[hcut,List.append_assoc (Ar lt (L.take i) (R.take (d-i)))]
     clear hcut
     generalize L.take i=L1 at *
     generalize L.drop i=L2 at *
     generalize R.take (d-i)=R1 at *
     generalize R.drop (d-i)=R2 at *
     clear g5 g6 hdl hl1 hr1 hhm
     have hsz:P.length+L1.length+R1.length+L2.length+R2.length+B.length<1000000:=by omega
     obtain ⟨j,hj⟩:∃ j,d=i+j:=⟨d-i,by omega⟩
     have hLi:L1.length+L2.length=L.length:=by omega
     have hRi:R1.length+R2.length=R.length:=by omega
     have k1:L1.length=i:=k1
     have k3:R1.length=j:=by omega
     have hdN:d≤N:=by omega
     have hdN2:L.length+R.length≤N+d:=by omega
     clear k2 k4 g1 g2 g3 g4 hc1 hmid hL0 hR0 hll hl
     have hkk:=hok
     by_cases hrot:0<L2.length∧0<R1.length
     rotate_left
     have hY:P++(L1++(R1++(L2++(R2++B))))=D:=by
      rw[← hY0]
      rcases Nat.eq_zero_or_pos L2.length with h | h
      ·rw[List.eq_nil_of_length_eq_zero h];simp
      ·rw[List.eq_nil_of_length_eq_zero (show R1.length=0 by omega)];simp
     obtain ⟨cur,rfl⟩:∃ cur,cur=D:=⟨D,rfl⟩
     clear hY0
     by_cases hl2:L2.length=0
     clear hrot
     refine T ?_
     rotate_left
     have hl3:R1.length=0:=by omega
     clear hrot
     refine T ?_
     rotate_left
     have q:=Ab0 (P++L1) L2 R1 (R2++B) f first cap hc' hrot.1 hrot.2 (by simp only[List.length_append];omega) m (m+j) (by simp only[List.length_append];omega) j_
     rw[show (P++L1).length=a+i by simp only[List.length_append];omega,show ((m+j:Nat):Int)=((mid+m:Nat):Int)-((a+i:Nat):Int) by omega]at q
     simp only[List.append_assoc]at q
     rw[hY0]at q
     obtain ⟨cur,hY⟩:∃ cur,P++(L1++(R1++(L2++(R2++B))))=cur:=⟨_,rfl⟩
     rw[hY]at q
     have hok:=hkk ((a+i:Nat):Int) m (((mid+m:Nat):Int)-((a+i:Nat):Int))
     clear hY0
     refine T ?_
     refine X (Ad [] q_ F229 q (Bf _) ⟨q_,z_⟩ (by simp only[Ct,Obs.keys,List.map_cons,List.map_nil,hok];rfl) ⟨.inl q_,z_⟩) ?_
     all_goals
      by_cases hc2:0<L1.length∧0<R1.length
      rotate_left
      have hY2:P++(Ar lt L1 R1++(L2++(R2++B)))=cur:=by
       rw[← hY]
       rcases Nat.eq_zero_or_pos L1.length with h | h
       ·rw[List.eq_nil_of_length_eq_zero h,Bb];rfl
       ·rw[List.eq_nil_of_length_eq_zero (show R1.length=0 by omega),By];rfl
      obtain ⟨cur2,rfl⟩:∃ cur2,cur2=cur:=⟨cur,rfl⟩
      clear hY
      by_cases hc3:L1.length=0
      clear hc2
      refine T ?_
      rotate_left
      have hc4:R1.length=0:=by omega
      clear hc2
      refine T ?_
      rotate_left
      first
      | (exfalso;omega)
      | (have q:=ih P L1 R1 (L2++(R2++B)) j_ m1 m3 s1 s3 hc2.1 hc2.2 (by simp only[List.length_append];omega) a (a+i) mid ha j_ j_
         rw[hY]at q
         obtain ⟨cur2,hY2⟩:∃ cur2,P++(Ar lt L1 R1++(L2++(R2++B)))=cur2:=⟨_,rfl⟩
         rw[hY2]at q
         have hok:=hkk (a:Int) ((a+i:Nat):Int) mid
         clear hY
         refine T ?_
         refine X (Ad [] q_ F169 q (Bf _) ⟨q_,z_⟩ (by simp only[Ct,Obs.keys,List.map_cons,List.map_nil,hok];rfl) ⟨.inl q_,z_⟩) ?_)
     all_goals
      by_cases hc5:0<L2.length∧0<R2.length
      rotate_left
      have hY3:P++(Ar lt L1 R1++(Ar lt L2 R2++B))=cur2:=by
       rw[← hY2]
       rcases Nat.eq_zero_or_pos L2.length with h | h
       ·rw[List.eq_nil_of_length_eq_zero h,Bb];rfl
       ·rw[List.eq_nil_of_length_eq_zero (show R2.length=0 by omega),By];rfl
      by_cases hc6:L2.length=0
      clear hc5
      refine T ?_
      exact Bj q_ .nil [] [(0,.row 17 Ab (P++(Ar lt L1 R1++(Ar lt L2 R2++B))))] (fun _ h=>h) q_ q_ ⟨z_,⟨.inl (congrArg (Ob.row 17 Ab) hY3),q_,z_⟩,q_,q_⟩
      have hc7:R2.length=0:=by omega
      clear hc5
      refine T ?_
      exact Bj q_ .nil [] [(0,.row 17 Ab (P++(Ar lt L1 R1++(Ar lt L2 R2++B))))] (fun _ h=>h) q_ q_ ⟨z_,⟨.inl (congrArg (Ob.row 17 Ab) hY3),q_,z_⟩,q_,q_⟩
      first
      | (exfalso;omega)
      | (have hml:=Er lt L1 R1
         have q:=ih (P++Ar lt L1 R1) L2 R2 B j_ m2 m4 s2 s4 hc5.1 hc5.2 (by simp only[List.length_append];omega) mid (m+j) b (by simp only[List.length_append];omega) j_ j_
         rw[show ((m+j:Nat):Int)=((mid+m:Nat):Int)-((a+i:Nat):Int) by omega]at q
         simp only[List.append_assoc]at q
         rw[hY2]at q
         have hok:=hkk (mid:Int) (((mid+m:Nat):Int)-((a+i:Nat):Int)) b
         refine T ?_
         refine X (Ad [] q_ F169 q (Bf _) ⟨q_,z_⟩ (by simp only[Ct,Obs.keys,List.map_cons,List.map_nil,hok];rfl) ⟨.inl q_,z_⟩) ?_
         exact E0)
def Acm (lt:LineM→LineM→Bool) (s:Nat) (M Y:List LineM):Prop:=Y.length≤M.length∧bs lt s M=Y++bs lt s (M.drop Y.length)
def StbI (M:List LineM) (s:Nat):Prop:=20≤s∧s<2 * M.length+21
theorem W5 (c:LineM→LineM→Int) (Q:LineM→Prop) (f:FuncId) (first cap:List SV) (hc:(SV.clo (.func f) first cap).inn []=true) (hf:∀ a b,Q a→Q b→M5 Tryz.prog f (first++[Ab a,Ab b]++cap) (Aa (c a b)))
  (lt:LineM→LineM→Bool) (hlt:(fun x y=>decide (c x y<0))=lt) (ho:Ordy lt) (M:List LineM) (hQ:∀ x∈M,Q x) (hl:M.length<100000) :
  Sy.Spec Tryz.prog 101 [.osl 0,Aa M.length,.clo (.func f) first cap] [(0,.row 17 Ab M)] (.tup []) [(0,.row 17 Ab (At lt M))]:=cT F101 Tryz.ntmps101 fun F hF=>by
 have hc':(SV.clo (.func f) first cap).inn [0]=true:=Db _ hc
 have hok3:∀ a b:Int,Bd [0] [.osl 0,Aa a,Aa b,.clo (.func f) first cap]=true:=fun a b=>by simp only[Bd,hc'];rfl
 have hok4:∀ a b n:Int,Bd [0] [.osl 0,Aa a,Aa b,Aa n,.clo (.func f) first cap]=true:=fun a b n=>by simp only[Bd,hc'];rfl
 refine T ?_
 refine Az (Acm lt 20 M) (fun Y=>[(0,.osl 0),(1,Aa M.length),(2,.clo (.func f) first cap),(6,Aa 20),(7,Aa Y.length),(8,Aa ((Y.length+20:Nat):Int))]) (fun Y=>[(0,.row 17 Ab (Y++M.drop Y.length))]) (fun Y=>M.length-Y.length) [] [] ⟨Nat.zero_le _,q_⟩ ⟨⟨q_,q_,q_,q_,A2 _,hc',q_,q_,q_,q_,q_,q_,z_⟩,⟨.inl q_,q_,z_⟩,q_,q_⟩ ?_
 intro Y hY
 obtain ⟨hY1,hY2⟩:=hY
 have hdl:(M.drop Y.length).length=M.length-Y.length:=List.length_drop
 refine T ?_
 refine⟨fun h=>?_,fun h=>?_⟩
 ·have hlt2:Y.length+20≤M.length:=qA h
  have hbm:=K9 lt (l:=M.drop Y.length) (s:=20) qc j_
  have hsp:=List.take_append_drop 20 (M.drop Y.length)
  have htl:((M.drop Y.length).take 20).length=20:=by rw[List.length_take];omega
  have q:=Vn c Q f first cap hc hf Y ((M.drop Y.length).take 20) ((M.drop Y.length).drop 20) (fun x hx=>hQ x (List.mem_of_mem_drop (List.mem_of_mem_take hx))) (by rw[hsp,List.length_append];omega) Y.length (Y.length+20) rfl (by rw[htl])
  rw[hsp,hlt]at q
  have hok:=hok3 Y.length ((Y.length+20:Nat):Int)
  have hsl:=Ce lt ((M.drop Y.length).take 20)
  rw[List.drop_drop]at hbm q
  rw[htl]at hsl
  generalize At lt ((M.drop Y.length).take 20)=Z at *
  have hYS:(Y++Z).length=Y.length+20:=by rw[List.length_append];omega
  have hI:Acm lt 20 M (Y++Z):=⟨by omega,by rw[hY2,hbm,hYS,List.append_assoc]⟩
  clear h hbm hsp htl hY2
  refine T ?_
  refine X (Ad [] q_ F168 q (Bf _) ⟨q_,z_⟩ (by simp only[Ct,Obs.keys,List.map_cons,List.map_nil,hok];rfl) ⟨.inl q_,z_⟩) ?_
  refine Al (Y++Z) [] hI j_ ⟨⟨q_,q_,q_,q_,A2 _,hc',q_,q_,congrArg Aa j_,q_,congrArg Aa j_,q_,z_⟩,⟨.inl (congrArg (Ob.row 17 Ab) (by rw[hYS,List.append_assoc])),q_,z_⟩,q_,q_⟩
 ·have hlt2:¬ Y.length+20≤M.length:=qB h
  have hbf:=Ir lt (l:=M.drop Y.length) (s:=20) j_
  have q:=Vn c Q f first cap hc hf Y (M.drop Y.length) [] (fun x hx=>hQ x (List.mem_of_mem_drop hx)) (by rw[List.append_nil,List.length_append];omega) Y.length M.length rfl j_
  rw[List.append_nil,List.append_nil,hlt,← hbf,← hY2]at q
  have hok:=hok3 Y.length M.length
  clear h hbf hY2
  refine T ?_
  refine X (Ad [] q_ F168 q (Bf _) ⟨q_,z_⟩ (by simp only[Ct,Obs.keys,List.map_cons,List.map_nil,hok];rfl) ⟨.inl q_,z_⟩) ?_
  clear q hok hdl hY1 hlt2
  refine Az (StbI M) (fun s=>[(0,.osl 0),(1,Aa M.length),(2,.clo (.func f) first cap),(6,Aa (s:Nat))]) (fun s=>[(0,.row 17 Ab (bs lt s M))]) (fun s=>2 * M.length+21-s) 20 [] ⟨by omega,by omega⟩ ⟨⟨q_,q_,q_,q_,A2 _,hc',q_,q_,z_⟩,⟨.inl q_,q_,z_⟩,q_,q_⟩ ?_
  rintro s ⟨hs1,hs2⟩
  refine T ?_
  refine⟨fun h=>?_,fun h=>?_⟩
  rotate_left
  ·rw[← Ir lt (l:=M) (s:=s) (qB h)]
   refine T ?_
   exact Bj q_ .nil [] [(0,.row 17 Ab (bs lt s M))] (fun _ h=>h) q_ q_ ⟨z_,⟨.inl q_,q_,z_⟩,q_,q_⟩
  have hsm:s<M.length:=qA h
  clear h
  refine T ?_
  refine Az (Acm lt (2 * s) M) (fun Y=>[(0,.osl 0),(1,Aa M.length),(2,.clo (.func f) first cap),(6,Aa (s:Nat)),(7,Aa Y.length),(8,Aa ((Y.length+2 * s:Nat):Int))]) (fun Y=>[(0,.row 17 Ab (Y++bs lt s (M.drop Y.length)))]) (fun Y=>M.length-Y.length) [] [] ⟨Nat.zero_le _,q_⟩ ⟨⟨q_,q_,q_,q_,A2 _,hc',q_,q_,q_,q_,congrArg Aa (by simp only[List.length_nil];omega),q_,z_⟩,⟨.inl q_,q_,z_⟩,q_,q_⟩ ?_
  intro Y hY
  obtain ⟨hY1,hY2⟩:=hY
  have hdl:(M.drop Y.length).length=M.length-Y.length:=List.length_drop
  refine T ?_
  refine⟨fun h=>?_,fun h=>?_⟩
  ·have hlt2:Y.length+2 * s≤M.length:=qA h
   obtain ⟨hb1,hb2⟩:=bs_two ho (l:=M.drop Y.length) (s:=s) j_ j_
   have l1:=Ce lt ((M.drop Y.length).take s)
   have l2:=Ce lt (((M.drop Y.length).drop s).take s)
   have l3:=bs_len lt s _ ((M.drop Y.length).drop (2 * s)) rfl
   have t1:((M.drop Y.length).take s).length=s:=by rw[List.length_take];omega
   have t2:(((M.drop Y.length).drop s).take s).length=s:=by rw[List.length_take,List.length_drop];omega
   have t3:((M.drop Y.length).drop (2 * s)).length=M.length-Y.length-2 * s:=by rw[List.length_drop];omega
   have w1:=Ek ho ((M.drop Y.length).take s)
   have w2:=Ek ho (((M.drop Y.length).drop s).take s)
   have v1:∀ x∈At lt ((M.drop Y.length).take s),Q x:=fun x hx=>hQ x (List.mem_of_mem_drop (List.mem_of_mem_take (Dh lt _ x hx)))
   have v2:∀ x∈At lt (((M.drop Y.length).drop s).take s),Q x:=fun x hx=>hQ x (List.mem_of_mem_drop (List.mem_of_mem_drop (List.mem_of_mem_take (Dh lt _ x hx))))
   have hdd:(M.drop Y.length).drop (2 * s)=M.drop (Y.length+2 * s):=List.drop_drop ..
   rw[hdd]at hb1 hb2 l3 t3
   clear hdd
   rw[hb2]at hY2
   rw[hb1]
   generalize At lt ((M.drop Y.length).take s)=L at *
   generalize At lt (((M.drop Y.length).drop s).take s)=R at *
   have hml:=Er lt L R
   have q:=Q5 c Q f first cap hc hf lt hlt ho _ Y L R (bs lt s (M.drop (Y.length+2 * s))) (Nat.le_refl _) v1 v2 w1 w2 j_ j_ (by simp only[List.length_append];omega) Y.length (Y.length+s) (Y.length+2 * s) rfl j_ j_
   rw[show ((Y.length+s:Nat):Int)=(Y.length:Int)+(s:Int) by omega]at q
   have hok:=hok4 Y.length ((Y.length:Int)+(s:Int)) ((Y.length+2 * s:Nat):Int)
   have hYS:(Y++Ar lt L R).length=Y.length+2 * s:=by rw[List.length_append];omega
   have hI:Acm lt (2 * s) M (Y++Ar lt L R):=⟨by omega,by rw[hY2,hYS,List.append_assoc]⟩
   clear h hb1 hb2 hY2 w1 w2 v1 v2
   refine T ?_
   refine X (Ad [] q_ F169 q (Bf _) ⟨q_,z_⟩ (by simp only[Ct,Obs.keys,List.map_cons,List.map_nil,hok];rfl) ⟨.inl q_,z_⟩) ?_
   refine Al (Y++Ar lt L R) [] hI j_ ⟨⟨q_,q_,q_,q_,A2 _,hc',q_,q_,congrArg Aa j_,q_,congrArg Aa j_,q_,z_⟩,⟨.inl (congrArg (Ob.row 17 Ab) (by rw[hYS,List.append_assoc])),q_,z_⟩,q_,q_⟩
  ·have hlt2:¬ Y.length+2 * s≤M.length:=qB h
   clear h
   by_cases hm2:Y.length+s<M.length
   rotate_left
   ·have e1:=Ir lt (l:=M.drop Y.length) (s:=s) j_
    have e2:=Ir lt (l:=M.drop Y.length) (s:=2 * s) j_
    rw[e2,← e1]at hY2
    refine T ?_
    refine Al (2 * s) [] ⟨by omega,by omega⟩ j_ ⟨⟨q_,q_,q_,q_,A2 _,hc',congrArg Aa j_,q_,z_⟩,⟨.inl (congrArg (Ob.row 17 Ab) hY2),q_,z_⟩,q_,q_⟩
   obtain ⟨hb1,hb2⟩:=Ace ho (l:=M.drop Y.length) (s:=s) j_ j_ j_
   have l1:=Ce lt ((M.drop Y.length).take s)
   have l2:=Ce lt ((M.drop Y.length).drop s)
   have t1:((M.drop Y.length).take s).length=s:=by rw[List.length_take];omega
   have t2:((M.drop Y.length).drop s).length=M.length-Y.length-s:=by rw[List.length_drop];omega
   have w1:=Ek ho ((M.drop Y.length).take s)
   have w2:=Ek ho ((M.drop Y.length).drop s)
   have v1:∀ x∈At lt ((M.drop Y.length).take s),Q x:=fun x hx=>hQ x (List.mem_of_mem_drop (List.mem_of_mem_take (Dh lt _ x hx)))
   have v2:∀ x∈At lt ((M.drop Y.length).drop s),Q x:=fun x hx=>hQ x (List.mem_of_mem_drop (List.mem_of_mem_drop (Dh lt _ x hx)))
   rw[hb2]at hY2
   rw[hb1]
   generalize At lt ((M.drop Y.length).take s)=L at *
   generalize At lt ((M.drop Y.length).drop s)=R at *
   have hml:=Er lt L R
   have q:=Q5 c Q f first cap hc hf lt hlt ho _ Y L R [] (Nat.le_refl _) v1 v2 w1 w2 j_ j_ (by simp only[List.length_append,List.length_nil];omega) Y.length (Y.length+s) M.length rfl j_ j_
   rw[show ((Y.length+s:Nat):Int)=(Y.length:Int)+(s:Int) by omega,List.append_nil,List.append_nil,← hY2]at q
   have hok:=hok4 Y.length ((Y.length:Int)+(s:Int)) M.length
   clear hb1 hb2 hY2 w1 w2 v1 v2
   refine T ?_
   refine X (Ad [] q_ F169 q (Bf _) ⟨q_,z_⟩ (by simp only[Ct,Obs.keys,List.map_cons,List.map_nil,hok];rfl) ⟨.inl q_,z_⟩) ?_
   refine Al (2 * s) [] ⟨by omega,by omega⟩ j_ ⟨⟨q_,q_,q_,q_,A2 _,hc',congrArg Aa j_,q_,z_⟩,⟨.inl q_,q_,z_⟩,q_,q_⟩
theorem Aab (c:LineM→LineM→Int) (Q:LineM→Prop) (f:FuncId) (first cap:List SV) (hc:(SV.clo (.func f) first cap).inn []=true) (hf:∀ a b,Q a→Q b→M5 Tryz.prog f (first++[Ab a,Ab b]++cap) (Aa (c a b)))
  (lt:LineM→LineM→Bool) (hlt:(fun x y=>decide (c x y<0))=lt) (ho:Ordy lt) (M:List LineM) (hQ:∀ x∈M,Q x) (hl:M.length<100000) :
  Sy.Spec Tryz.prog 36 [.osl 0,.clo (.func f) first cap] [(0,.row 17 Ab M)] (.tup []) [(0,.row 17 Ab (At lt M))]:=cT F36 Tryz.ntmps36 fun F hF=>by
 have hc':(SV.clo (.func f) first cap).inn [0]=true:=Db _ hc
 have hok:Bd [0] [.osl 0,Aa M.length,.clo (.func f) first cap]=true:=by simp only[Bd,hc'];rfl
 have q:=W5 c Q f first cap hc hf lt hlt ho M hQ hl
 refine T ?_
 refine X (Ad [] q_ F101 q (Bf _) ⟨q_,z_⟩ (by simp only[Ct,Obs.keys,List.map_cons,List.map_nil,hok];rfl) ⟨.inl q_,z_⟩) ?_
 exact Bj q_ .nil [] [(0,.row 17 Ab (At lt M))] (fun _ h=>h) q_ q_ ⟨z_,⟨.inl q_,q_,z_⟩,q_,q_⟩
theorem Lw (l:List Int) (hl:l.length<2147483648):Sy.Spec Tryz.prog 99 [.sl 1 Aa l] [] (.sl 1 Aa l) []:=cT F99 Tryz.ntmps99 fun F hF=>by
 conv=>whnf
 refine X9 q_ (.inl q_) q_ q_ q_ .sl q_ q_ ?_
 intro b hb
 cases b
 ·refine oF ?_
  refine Cd (Ag Γ.toTy 7 q_ q_ q_ q_ q_ (.lit (e:=Aa) (l:=[]) q_ q_) .sl qd (by simp;omega) (by simp;omega)) q_ q_ ?_
  refine A6 7 q_ ?_
  refine oO ?_
  exact dN
 ·have h0:l=[]:=List.eq_nil_of_length_eq_zero (hb rfl)
  subst h0
  refine oT ?_
  refine B0 2 1 Aa q_ ?_
  exact dN
theorem Zt (l:List Int) (hl:l.length<2147483648):Sy.Spec Tryz.prog 100 [.sl 1 Aw l] [] (.sl 1 Aw l) []:=cT F100 Tryz.ntmps100 fun F hF=>by
 conv=>whnf
 refine X9 q_ (.inl q_) q_ q_ q_ .sl q_ q_ ?_
 intro b hb
 cases b
 ·refine oF ?_
  refine Cd (Ag Γ.toTy 7 q_ q_ q_ q_ q_ (.lit (e:=Aw) (l:=[]) q_ q_) .sl qd (by simp;omega) (by simp;omega)) q_ q_ ?_
  refine A6 7 q_ ?_
  refine oO ?_
  exact dN
 ·have h0:l=[]:=List.eq_nil_of_length_eq_zero (hb rfl)
  subst h0
  refine oT ?_
  refine B0 2 1 Aw q_ ?_
  exact dN
theorem Y1 (l:LineM) (h:LineFin l):Sy.Spec Tryz.prog 35 [Ab l] [] (Ab l) []:=cT F35 Tryz.ntmps35 fun F hF=>by
 have ht:=h.t;have hi:=h.i;have he:=h.e;have ha:=h.a
 refine T ?_
 refine C (Lw l.tagged j_) F99 ?_
 refine C (Lw l.imports j_) F99 ?_
 refine C (Lw l.exports j_) F99 ?_
 refine C (Zt l.addrs j_) F100 ?_
 exact D
theorem Sl (M:List LineM) (h:∀ x∈M,LineFin x) (hl:M.length<1000000):Sy.Spec Tryz.prog 39 [.sl 17 Ab M,.clo (.func 38) [] []] [] (Af (Bv M)) []:=cT F39 Tryz.ntmps39 fun F hF=>by
 refine T ?_
 refine Az (fun i:Int=>-1≤i∧i+1≤M.length∧∀ j (hj:j+1<M.length),i≤j→Bm M[j+1] M[j]=false) (fun i=>[(0,.sl 17 Ab M),(1,.clo (.func 38) [] []),(5,Aa i)]) (fun _=>[]) (fun i=>(i+1).toNat) ((M.length:Int)-1) [] ⟨by omega,by omega,fun j hj h1=>by omega⟩ U ?_
 rintro i ⟨h1,h2,h3⟩
 refine T ?_
 refine⟨fun h4=>?_,fun h4=>?_⟩
 ·have hi:0<i:=by have:=of_decide_eq_true h4;omega
  clear h4
  have b1:i.toNat<M.length:=by omega
  have b2:(i-1).toNat<M.length:=by omega
  have g1:0≤i:=by omega
  have g2:0≤i-1:=by omega
  have q:=E4 (M[i.toNat]'b1) (M[(i-1).toNat]'b2) (h _ (List.getElem_mem _)) (h _ (List.getElem_mem _))
  have hB:Bm (M[i.toNat]'b1) (M[(i-1).toNat]'b2)=decide (Ii (M[i.toNat]'b1) (M[(i-1).toNat]'b2)<0):=rfl
  have hk:i.toNat=(i-1).toNat+1:=by omega
  cases hd:decide (Ii (M[i.toNat]'b1) (M[(i-1).toNat]'b2)<0) with
  | true =>
   rw[hd]at hB
   have hO:Bv M=false:=Mf (j:=(i-1).toNat) j_ (by simp only[hk]at hB;exact hB)
   rw[hO]
   clear hB h3
   generalize Ii (M[i.toNat]'b1) (M[(i-1).toNat]'b2)=z at *
   refine T ?_
   refine Lx ⟨⟨_,_,F38⟩,q⟩ q_ q_ q_ q_ y_ q_ ?_
   refine T ?_
   exact D
  | false =>
   rw[hd]at hB
   generalize hz:Ii (M[i.toNat]'b1) (M[(i-1).toNat]'b2)=z at *
   refine T ?_
   refine Lx ⟨⟨_,_,F38⟩,q⟩ q_ q_ q_ q_ y_ q_ ?_
   refine T ?_
   refine Al (i-1) [] ⟨by omega,by omega,fun j hj h9=>?_⟩ j_ U
   by_cases hji:i≤j
   ·exact h3 j hj hji
   ·have hj2:j=(i-1).toNat:=by omega
    subst hj2
    simp only[hk]at hB;exact hB
 ·have hi:i≤0:=by have:=of_decide_eq_false h4;omega
  have hO:Bv M=true:=Ks fun j hj=>h3 j hj j_
  rw[hO]
  clear h4 h3
  refine T ?_
  exact D
theorem Aao (M:List LineM) (h:∀ x∈M,LineFin x) (hl:M.length<1000000):Sy.Spec Tryz.prog 17 [.sl 17 Ab M] [] (Af (Bv M)) []:=cT F17 Tryz.ntmps17 fun F hF=>by
 have q:=Sl M h hl
 generalize Bv M=r at *
 refine T ?_
 refine C q F39 ?_
 exact D
theorem Y3 {s:ByteArray} (h:s.size=0):s=⟨#[]⟩:=by
 have h2:s.data.toList.length=0:=h
 exact K5 (List.eq_nil_of_length_eq_zero h2)
theorem Ze (s:ByteArray) (hs:s.size≤1000000):Sy.Spec Tryz.prog 178 [Ac s] [] (Af (wordB s)) []:=cT F178 Tryz.ntmps178 fun F hF=>by
 have hsz:s.data.toList.length=s.size:=rfl
 have hw:=wordB.eq_1 s
 obtain ⟨r,hr⟩:∃ r,wordB s=r:=⟨_,rfl⟩
 rw[hr]at hw ⊢
 refine T ?_
 refine Bz s.size (fun j=>M4 (fun _ c=>Ub c) s.data.toList j) (fun j=>[(0,Ac s),(5,Aa s.size),(6,Aa j)]) (fun _=>[]) [] (Ej _ _) U ?_
 intro j hj hI
 refine T ?_
 refine⟨fun h=>?_,fun h=>?_⟩
 ·have hlt:j<s.data.toList.length:=qA h
  have hb:Ak s j=s.data.toList[j]:=I4 hlt
  have hno:=fun h=>@all_at' _ Ub s.data.toList j hlt h
  have hnx:=fun h=>Dz (p:=fun _ c=>Ub c) hI hlt h
  rw[← hb]at hno hnx
  clear h
  have hx:Ub (Ak s j)=(decide (32<(Ak s j).toNat) && decide ((Ak s j).toNat≤126) && decide ((Ak s j).toNat≠35)):=rfl
  by_cases h1:32<(Ak s j).toNat
  ·by_cases h2:(Ak s j).toNat≤126
   ·by_cases h3:(Ak s j).toNat=35
    ·rw[hno (by rw[hx];simp[h3]),Bool.and_false]at hw
     subst hw
     refine T ?_
     exact D
    ·refine T ?_
     exact B1 [] hI j_ (hnx (by rw[hx];simp[h1,h2,h3])) U
   ·rw[hno (by rw[hx];simp[h2]),Bool.and_false]at hw
    subst hw
    refine T ?_
    exact D
  ·rw[hno (by rw[hx];simp[h1]),Bool.and_false]at hw
   subst hw
   refine T ?_
   exact D
 ·have hje:j=s.size:=qB h
  subst hje
  rw[Ly hI (Nat.le_refl _),Bool.and_true]at hw
  clear h
  by_cases h0:s.size=0
  ·have hs:=Y3 h0
   have he:(s == (⟨#[]⟩:ByteArray))=true:=(C6 _ _).2 hs
   have hw:r=false:=by rw[hw,h0];rfl
   have he2:(!(s == (⟨#[]⟩:ByteArray)))=false:=by rw[he];rfl
   subst hw
   refine T ?_
   exact D
  ·have he:(s == (⟨#[]⟩:ByteArray))=false:=by
    cases he:(s == (⟨#[]⟩:ByteArray))
    ·rfl
    ·exact absurd (by rw[(C6 _ _).1 he];rfl) h0
   have he2:(!(s == (⟨#[]⟩:ByteArray)))=true:=by rw[he];rfl
   by_cases h4:s.size≤40
   ·have hw:r=true:=by rw[hw];simp[h4];omega
    subst hw
    refine T ?_
    refine Bn q_ (.cons .tmp .nil) (congrArg Af ?_) q_
    exact(decide_eq_true j_).symm
   ·have hw:r=false:=by rw[hw];simp[h4]
    subst hw
    refine T ?_
    refine Bn q_ (.cons .tmp .nil) (congrArg Af ?_) q_
    exact(decide_eq_false j_).symm
abbrev strO (row:ByteArray) (f:Nat) (l:List ByteArray):Obs:=[(1,.box [Aa f]),(2,.box [.osl 3]),(3,.row 1 Ac l),(4,.box [Ac row])]
abbrev strN (row:ByteArray) (f:Nat) (l:List ByteArray):Obs:=[(1,.box [Aa f]),(2,.box [.osl 5]),(3,.non),(5,.row 1 Ac l),(4,.box [Ac row])]
theorem Z8 (row:ByteArray) (f i:Nat) (l:List ByteArray) (hfi:f≤i) (hi:i≤row.size) (hs:row.size≤1000000) (hl:l.length≤1000000) :
  Sy.Spec Tryz.prog 234 [Aa i,.ptr 1 0,.ptr 2 0,.ptr 4 0] (strO row f l) (.tup []) (strN row (i+1) (l++C3 ((row.data.toList.take i).drop f))):=cT F234 Tryz.ntmps234 fun F hF=>by
 have hsz:row.data.toList.length=row.size:=rfl
 have hx:row.extract f i=mkT ((row.data.toList.take i).drop f):=by rw[← B5,Dr]
 refine T ?_
 refine⟨fun h=>?_,fun h=>?_⟩
 ·have h1:f<i:=qA h
  have hne:(row.data.toList.take i).drop f≠[]:=fun e=>by
   have:=congrArg List.length e
   rw[List.length_drop,List.length_take]at this
   simp at this;omega
  rw[C3,if_neg hne,← hx]
  refine T ?_
  refine⟨⟨by omega,by omega,by omega⟩,?_⟩
  refine T ?_
  refine Xd (Ag Γ.toTy 14 q_ q_ q_ q_ q_ (.row q_) (.lit (e:=Ac) (l:=[row.extract f i]) q_ q_) qd (by simp;omega) (by simp;omega)) ?_
  refine T ?_
  exact Bj q_ .nil [(5,14)] (strN row (i+1) (l++[row.extract f i])) (fun _ h=>h) q_ q_ U
 ·have h1:¬ f<i:=qB h
  have he:(row.data.toList.take i).drop f=[]:=List.drop_eq_nil_of_le (by rw[List.length_take];omega)
  rw[he,C3,if_pos rfl,List.append_nil]
  refine Abt 3 1000 q_ q_ qc ?_
  refine T ?_
  exact Bj q_ .nil [(5,1000)] (strN row (i+1) l) (fun _ h=>h) q_ q_ U
theorem Wg (row:ByteArray) (hs:row.size≤100000):Sy.Spec Tryz.prog 177 [Ac row] [] (.sl 1 Ac (Cb [] row.data.toList)) []:=cT F177 Tryz.ntmps177 fun F hF=>by
 have hsz:row.data.toList.length=row.size:=rfl
 refine T ?_
 refine Wc 3 0 1000 1 Ac q_ q_ q_ q_ ?_
 refine T ?_
 refine Az (fun x:List ByteArray × Nat × Nat=>Cb [] row.data.toList=x.1++Cb ((row.data.toList.take x.2.2).drop x.2.1) (row.data.toList.drop x.2.2)∧x.2.1≤x.2.2∧x.2.2≤row.size∧x.1.length≤x.2.2)
  (fun x=>[(1,.ptr 1 0),(3,.ptr 3 0),(5,.clo (.func 234) [] [.ptr 4 0,.ptr 3 0,.ptr 1 0]),(6,Aa x.2.2)]) (fun x=>[(1,.box [Ac row]),(3,.box [.osl 1000]),(4,.box [Aa x.2.1]),(1000,.row 1 Ac x.1)]) (fun x=>row.size-x.2.2) ([],0,0) [] ⟨rfl,by simp,by simp,by simp⟩ U ?_
 rintro ⟨l,f,i⟩ ⟨hI,hfi,his,hlen⟩
 dsimp only at hI hfi his hlen ⊢
 have q:=fun i hfi hi=>Z8 row f i l hfi hi j_ j_
 refine T ?_
 refine⟨fun h=>?_,fun h=>?_⟩
 ·have hlt:i<row.size:=qA h
  have hlt':i<row.data.toList.length:=hlt
  have hb:Ak row i=row.data.toList[i]:=I4 hlt'
  have hdr:row.data.toList.drop i=row.data.toList[i]::row.data.toList.drop (i+1):=List.drop_eq_getElem_cons hlt'
  have htk:(row.data.toList.take (i+1)).drop f=(row.data.toList.take i).drop f++[row.data.toList[i]]:=by
   rw[List.take_succ_eq_append_getElem hlt',List.drop_append_of_le_length (by rw[List.length_take];omega)]
  rw[← hb]at hdr htk
  have q:=q i hfi j_
  clear h
  rw[hdr,Cb]at hI
  have hlf:(l++C3 ((row.data.toList.take i).drop f)).length≤i+1:=by
   rw[C3];split<;>simp<;>omega
  have e0:(row.data.toList.take (i+1)).drop (i+1)=[]:=List.drop_eq_nil_of_le (by rw[List.length_take];omega)
  have h35:Ak row i=35↔(Ak row i).toNat=35:=⟨fun e=>by rw[e];rfl,fun e=>UInt8.toNat_inj.1 e⟩
  have h32:Ak row i=32↔(Ak row i).toNat=32:=⟨fun e=>by rw[e];rfl,fun e=>UInt8.toNat_inj.1 e⟩
  have h9:Ak row i=9↔(Ak row i).toNat=9:=⟨fun e=>by rw[e];rfl,fun e=>UInt8.toNat_inj.1 e⟩
  by_cases c1:(Ak row i).toNat=35
  ·rw[if_pos (h35.2 c1)]at hI
   rw[hI]
   refine T ?_
   refine X (Ai [(1,4),(2,3),(3,1000),(4,1),(5,900)] (Aj q_ q_ F234) q q_ W q_ V) ?_
   refine A6 900 q_ ?_
   refine T ?_
   exact D
  ·rw[if_neg (fun e=>c1 (h35.1 e))]at hI
   by_cases c2:(Ak row i).toNat=32∨(Ak row i).toNat=9
   ·rw[if_pos (c2.elim (fun e=>.inl (h32.2 e)) (fun e=>.inr (h9.2 e)))]at hI
    by_cases c3:(Ak row i).toNat=32
    ·refine T ?_
     refine X (Ai [(1,4),(2,3),(3,1000),(4,1),(5,900)] (Aj q_ q_ F234) q q_ W q_ V) ?_
     refine Al (l++C3 ((row.data.toList.take i).drop f),i+1,i+1) [(1000,900)] ⟨?_,Nat.le_refl _,hlt,hlf⟩ (by dsimp only;omega) U
     dsimp only
     rw[hI,List.append_assoc,e0]
    ·refine T ?_
     refine X (Ai [(1,4),(2,3),(3,1000),(4,1),(5,900)] (Aj q_ q_ F234) q q_ W q_ V) ?_
     refine Al (l++C3 ((row.data.toList.take i).drop f),i+1,i+1) [(1000,900)] ⟨?_,Nat.le_refl _,hlt,hlf⟩ (by dsimp only;omega) U
     dsimp only
     rw[hI,List.append_assoc,e0]
   ·simp only[not_or]at c2
    rw[if_neg (by rw[h32,h9];omega)]at hI
    refine T ?_
    refine Al (l,f,i+1) [] ⟨?_,by dsimp only;omega,hlt,by dsimp only;omega⟩ (by dsimp only;omega) U
    dsimp only
    rw[hI,htk]
 ·have hie:i=row.size:=qB h
  subst hie
  have q:=q row.size hfi j_
  have hdl:row.data.toList.drop row.size=[]:=by rw[← hsz,List.drop_length]
  rw[hdl,Cb]at hI
  rw[hI]
  clear h
  refine T ?_
  refine X (Ai [(1,4),(2,3),(3,1000),(4,1),(5,900)] (Aj q_ q_ F234) q q_ W q_ V) ?_
  refine A6 900 q_ ?_
  refine T ?_
  exact D
theorem Ey:∀ (l cur:List UInt8),(Cb cur l).length≤l.length+1
 | [],cur=>by rw[Cb,C3];split<;>simp
 | c::l,cur=>by
  rw[Cb]
  have h1:=Ey l []
  have h2:=Ey l (cur++[c])
  have h3:(C3 cur).length≤1:=by rw[C3];split<;>simp
  split
  ·simp;omega
  ·split
   ·simp;omega
   ·simp;omega
theorem Hd:∀ (l cur:List UInt8),∀ s∈Cb cur l,s.size≤cur.length+l.length
 | [],cur,s,hs=>by
  rw[Cb,C3]at hs
  split at hs
  ·cases hs
  ·simp at hs;rw[hs,Bw];simp
 | c::l,cur,s,hs=>by
  have h3:∀ s∈C3 cur,s.size≤cur.length:=fun s hs=>by
   rw[C3]at hs
   split at hs
   ·cases hs
   ·simp at hs;rw[hs,Bw];exact Nat.le_refl _
  rw[Cb]at hs
  split at hs
  ·have:=h3 s hs;omega
  ·split at hs
   ·rcases List.mem_append.1 hs with hs | hs
    ·have:=h3 s hs;omega
    ·have:=Hd l [] s hs
     simp at this ⊢;omega
   ·have:=Hd l (cur++[c]) s hs
    simp at this ⊢;omega
theorem Xo (row:ByteArray) (hs:row.size≤100000):Sy.Spec Tryz.prog 110 [Ac row] [] (.tup [.sl 1 Ac (wordsT row).1,Aa (wordsT row).2]) []:=cT F110 Tryz.ntmps110 fun F hF=>by
 have q:=Wg row hs
 have hres:=wordsT.eq_1 row
 have hlen:=Ey row.data.toList []
 have hsz:=Hd row.data.toList []
 have hrs:row.data.toList.length=row.size:=rfl
 generalize wordsT row=res at *
 generalize Cb [] row.data.toList=l at *
 refine T ?_
 refine C q F177 ?_
 refine Bz l.length (fun j=>M4 (fun _ s=>wordB s) l j) (fun j=>[(4,.sl 1 Ac l),(9,.sl 1 Ac l),(10,Aa l.length),(11,Aa j)]) (fun _=>[]) [] (Ej _ _) U ?_
 intro j hj hI
 refine T ?_
 refine⟨fun h=>?_,fun h=>?_⟩
 ·have hlt:j<l.length:=qA h
  have hlt0:((j:Nat):Int).toNat<l.length:=hlt
  have hno:=fun h=>@all_at' _ wordB l j hlt h
  have hnx:=fun h=>Dz (p:=fun _ s=>wordB s) hI hlt h
  have hsj:=hsz l[j] (List.getElem_mem hlt)
  clear h
  refine T ?_
  refine C (Ze (l[((j:Nat):Int).toNat]'hlt0) (by rw[show l[((j:Nat):Int).toNat]'hlt0=l[j] from q_];simp at hsj;omega)) F178 ?_
  refine⟨fun h=>?_,fun h=>?_⟩
  ·have hf:wordB l[j]=false:=by simpa using h
   rw[if_neg (by rw[hno hf];simp)]at hres
   subst hres
   refine T ?_
   refine B0 2 1 Ac q_ ?_
   refine T ?_
   exact D
  ·have ht:wordB l[j]=true:=by simpa using h
   refine T ?_
   exact B1 [] hI j_ (hnx ht) U
 ·have hje:j=l.length:=qB h
  subst hje
  rw[if_pos (Ly hI (Nat.le_refl _))]at hres
  subst hres
  refine T ?_
  exact D
end Go.Sy.YtgblchnfjbkipaaGreatDoor
