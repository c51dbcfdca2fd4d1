/-
  M15 A1 A3 A4 R1 R2 A5 R3 R5 R6 A6 R7 R8 K0 E7 E8 E9 E10 E11 E12 E13 E14 E15 A7 E21 E29 I6 I11 I41 S0 I31 I7l I8l S3 I37: parts of a proof, joined by program.
-/
import Derived.Test.YtgblchnfjbkipaaGreatDoorXF3
import Derived.RangeFuncNested
import Derived.RangeFuncCalls
import Derived.RangeFuncLeaves
import Derived.Shelf.Abstract
import Derived.Shelf.RegionOpen
import Derived.WalkKit
import Derived.OwnWalkIn
import Derived.TacticsInMore
import Derived.LoopNIn
import Derived.LoopIn
import Derived.Test.YtgblchnfjbkipaaGreatDoorProg
import Derived.Scope
import Derived.Laws.Bits64b
import Derived.Test.YtgblchnfjbkipaaGreatDoorXF2
namespace Go.Sy.YtgblchnfjbkipaaGreatDoor
open Go.Proofs
attribute [local irreducible] Go.Sy.G Go.Sy.DR
set_option maxRecDepth 100000
set_option maxHeartbeats 4000000
def Dc (d:UInt8):List UInt8→List UInt8→List ByteArray
 | cur,[]=>[mkT cur]
 | cur,c::r=>if c=d then mkT cur::Dc d [] r else Dc d (cur++[c]) r
theorem Hj (d:UInt8):∀ (l cur:List UInt8),d∉l→Dc d cur l=[mkT (cur++l)]
 | [],cur,_=>by rw[Dc,List.append_nil]
 | c::l,cur,h=>by
  simp only[List.mem_cons,not_or]at h
  rw[Dc,if_neg (Ne.symm h.1),Hj d l _ h.2]
  simp
theorem Hi (d:UInt8):∀ (l cur:List UInt8),d∈l→Dc d cur l=mkT (cur++l.take (Ea d l))::Dc d [] (l.drop (Ea d l+1))
 | [],cur,h=>by simp at h
 | c::l,cur,h=>by
  by_cases hc:c=d
  ·subst hc
   rw[Dc,if_pos rfl,Ea]
   simp[Lib.indexByte]
  ·have h2:d∈l:=by
    simp only[List.mem_cons]at h
    exact h.resolve_left (Ne.symm hc)
   have h3:=(Dn h2).1
   have e:Ea d (c::l)=Ea d l+1:=by
    have e1:Lib.indexByte (c::l) d=Lib.indexByte l d+1:=by
     rw[Lib.indexByte.eq_def]
     dsimp only
     rw[if_neg (by simpa using hc),if_neg (by simp;omega)]
    rw[Ea,Ea,e1]
    omega
   rw[Dc,if_neg hc,Hi d l _ h2,e]
   simp
theorem If (d:UInt8) (l:List UInt8):∀ j,A5 d l (j+1)=A5 d (l.drop (Ea d l+1)) j
 | 0=>rfl
 | j+1=>by
  rw[A5,If d l j]
  rfl
theorem Qx (d:UInt8):∀ (k:Nat) (l:List UInt8),l.length≤k→A3 d (mkT l)=Dc d [] l
 | 0,l,h=>by
  rw[List.length_eq_zero_iff.1 (by omega:l.length=0)]
  simp[A3,Dc,A5,mkT]
 | k+1,l,h=>by
  by_cases hd:d∈l
  ·have h1:=Hx hd
   have h2:=(Dn hd).2
   have h3:(l.drop (Ea d l+1)).length≤k:=by rw[List.length_drop];omega
   rw[Hi d l [] hd,← Qx d k _ h3]
   simp only[A3,Dv]
   rw[← h1,List.range_succ_eq_map,List.map_cons,List.map_map,List.cons_append,List.nil_append,If]
   congr 2
   apply List.map_congr_left
   intro j _
   show mkT (Ig d l (j+1))=_
   rw[Ig,Ig,If]
  ·have h1:l.count d=0:=List.count_eq_zero.2 hd
   rw[Hj d l [] hd]
   simp[A3,Dv,h1,A5]
theorem Qw (d:UInt8) (s:ByteArray):A3 d s=Dc d [] s.data.toList:=by
 rw[← Qx d _ _ (Nat.le_refl _),Du]
def digI (c:UInt8):Int:=if 48≤c.toNat∧c.toNat≤57 then (c.toNat:Int)-48 else if 97≤c.toNat∧c.toNat≤102 then (c.toNat:Int)-87 else 16
theorem Mx (c:UInt8):0≤digI c∧digI c≤16:=by
 unfold digI
 split
 ·omega
 split
 ·omega
 ·omega
end Go.Sy.YtgblchnfjbkipaaGreatDoor
namespace Go.Sy
open Go.RowKit
def Yn {β:Type} (T:Nat→Prop) (J:β→World→Prop):Prop :=
 ∀ s W W' row,J s W→W.grownBy W' row→(∀ r,row=some r→T r)→J s W'
def OwnT {β:Type} (B:Nat) (T:Nat→Prop) (I:β→World→Prop):Prop :=
 ∀ s W W' row,I s W→W.grownBy W' row→(∀ r,row=some r→T r∨(B≤r∧∃ o:Obj,W.heap[r]? = some o∧o.isCells=false))→I s W'
theorem OwnT.putObj {β:Type} {B:Nat} {T:Nat→Prop} {I:β→World→Prop} (h:OwnT B T I) {s:β} {W:World} {l:Nat} {o:Obj} (o':Obj) (hs:I s W) (hB:B≤l) (hl:W.heap[l]? = some o) (ho:o.isCells=false):I s (W.putObj l o') :=
 h s W _ _ hs (grownBy_putObj' W l o') (fun r e=>by cases e;exact .inr ⟨hB,o,hl,ho⟩)
theorem OwnT.alloc {β:Type} {B:Nat} {T:Nat→Prop} {I:β→World→Prop} (h:OwnT B T I) {s:β} {W:World} (o:Obj) (hs:I s W):I s (W.alloc o) :=
 h s W _ none hs ⟨rfl,rfl,rfl,by simp,fun k hk _=>Below.heap_alloc _ _ _ hk⟩ (fun r e=>by cases e)
def Sl {α:Type} (F:Fence) (n:Nat) (P:Program) (g:Nat) (lb:Array Value) (encs:α→Array Value) (T:Nat→Prop) (Kp:World→World→Prop) (S Sp:List α→Prop) (N:Nat) (w:World):Prop :=
 ∀ (l:Nat) (J Jx:List α→World→Prop) (W:World),Below w.heap.size w W→Yn T J→Yn T Jx →
  (∀ pre x W1,J pre W1→pre.length<N→YieldAt F (n-1) P l (encs x) W1 fun e W' =>
   (e=.returned (.bool true)∧J (pre++[x]) W'∧Kp W1 W')∨(e=.returned (.bool false)∧Jx (pre++[x]) W')) →
  J [] W →
  CallsIn F n P g (#[.func (.yield l) #[] #[]]++lb) W fun e W'=>(∃ v,e=.returned v)∧((∃ xs,S xs∧J xs W')∨(∃ pre,Sp pre∧Jx pre W'))
theorem E4 {A B:World} {T:Nat→Prop} {row:Option Nat} {k:Nat} {o:Obj} (hg:A.grownBy B row) (hr:∀ r,row=some r→T r) (hk:¬ T k) (h:A.heap[k]? = some o):B.heap[k]? = some o:=by
 obtain ⟨_,_,_,_,h5⟩:=hg
 exact(h5 k (Array.getElem?_eq_some_iff.1 h).1 (fun e=>hk (hr k e.symm))).trans h
variable {F:Fence} {n:Nat} {P:Program}
theorem I1 {α:Type} {g:Operand} {ps:Array Tmp} {assign body:Code} {Q:Exit→Act→World→Prop} {a:Act} {w:World}
  (hro:F.round=none) (h1:1≤n) {gf:Nat} {lb:Array Value} (hg:a.eval g=.func (.func gf) #[] lb) (hFg:F.fn gf) (eg:∀ args w,(callFunc gf args).run P w=.ok (.enter gf args) w)
  {encs:α→Array Value} {T:Nat→Prop} {Kp:World→World→Prop} {S Sp:List α→Prop} {N:Nat} {w0:World} (hseq:Sl F (n-1) P gf lb encs T Kp S Sp N w0) (hT:∀ b,T b→b<w.heap.size)
  (hKt:∀ {A B C:World},Kp A B→Kp B C→Kp A C) (hKb:∀ (W:World) (l:Nat) (o o':Obj),w.heap.size≤l→W.heap[l]? = some o→o.isCells=false→o.isWalk=false→Kp W (W.putObj l o')) (hb0:Below w0.heap.size w0 w) (hps:∀ x,(encs x).size=ps.size)
  (I:List α→World→Prop) (Ix:Code→List α→World→Prop) (hI:OwnT w.heap.size T I) (hIx:∀ c,OwnT w.heap.size T (Ix c)) (h0:I [] w) (a₁:α→Act)
  (hassign:∀ (l:Nat) (x:α) (W:World) (K:Act→World→Prop),K (a₁ x) W →
   assign.wpIn (F.inRound l) (n-1-1) P (Exit.then K (fun _ _ _=>False)) { tmps:=(ps.zip (encs x)).foldl (fun t (p,v)=>t.setIfInBounds p v) a.tmps,defers:=[] } W)
  (hbody:∀ (l:Nat) (pre:List α) (x:α) (W:World),I pre W→pre.length<N→body.wpIn (F.inRound l) (n-1-1) P (ownPostK Kp I Ix (pre++[x]) W) (a₁ x) W)
  (hdone:∀ (D:Nat) (xs:List α) (W:World),w.heap.size≤D→S xs→I xs W→W.heap[D]? = some (.deferred (some []))→Q .normal { a with defers:={ target:=.collected D,args:=#[] }::a.defers } W)
  (hstop:∀ (D:Nat) (c:Code) (pre:List α) (W:World),w.heap.size≤D→Sp pre→Ix c pre W→W.heap[D]? = some (.deferred (some []))→c.wpIn F n P Q { a with defers:={ target:=.collected D,args:=#[] }::a.defers } W) :
  (Code.rangeFunc g ps assign body).wpIn F n P Q a w:=by
 refine wpIn_rangeFunc ?_
 intro fn hfn
 rw[hro]
 obtain ⟨rec,hrec⟩:∃ rec:LoopState→Option Code→Loop,rec=fun st pe=>{ state:=st,pending:=pe,fn,tmps:=a.tmps,params:=ps,assign,body,defers:=w.heap.size }:=⟨_,rfl⟩
 obtain ⟨W1,hW1⟩:∃ W1,(w.alloc (.deferred (some []))).alloc (.loop (rec .ready none))=W1:=⟨_,rfl⟩
 have hL1:W1.heap[w.heap.size+1]? = some (.loop (rec .ready none)):=by
  rw[← hW1];have:=World.alloc_heap_new (w.alloc (.deferred (some []))) (.loop (rec .ready none));rwa [World.size_alloc]at this
 have hK1:W1.heap[w.heap.size]? = some (.deferred (some [])):=by
  rw[← hW1];exact(Below.heap_alloc _ _ _ qd).trans (World.alloc_heap_new w _)
 have hI1:I [] W1:=by rw[← hW1];exact hI.alloc _ (hI.alloc _ h0)
 have hb1:Below w0.heap.size w0 W1:=by
  rw[← hW1];exact hb0.trans ((((Below.refl _ w).alloc (Nat.le_refl _) _).alloc qd _).mono hb0.size)
 have nT:∀ k,w.heap.size≤k→¬ T k:=fun k hk h=>Nat.lt_irrefl _ (Nat.lt_of_lt_of_le (hT k h) hk)
 refine⟨w.heap.size+1,[{ target:=.collected w.heap.size,args:=#[] }],W1,{ target:=.fn (.func gf) lb,args:=#[.func (.yield (w.heap.size+1)) #[] #[]] },W1,gf,
  #[.func (.yield (w.heap.size+1)) #[] #[]]++lb,W1,?_,?_,?_,?_,fun _=>h1,?_⟩
 ·rw[← hW1,hrec];exact run_enterLoop_outer _ _ _ _ _
 ·simp only[resolve,hg]
  simp[go_sem]
 ·intro f' hf';simp[Target.leads]at hf';subst hf';exact hFg
 ·simp[invoke,go_sem,eg]
 ·refine(hseq (w.heap.size+1)
   (fun pre W=>I pre W∧W.heap[w.heap.size+1]? = some (.loop (rec .ready none))∧W.heap[w.heap.size]? = some (.deferred (some [])))
   (fun pre W=>∃ c,Ix c pre W∧W.heap[w.heap.size+1]? = some (.loop (rec .done (some c)))∧W.heap[w.heap.size]? = some (.deferred (some [])))
   W1 hb1
   (fun s A B row hs hg' hr=>⟨hI s A B row hs.1 hg' (fun r e=>.inl (hr r e)),E4 hg' hr (nT _ j_) hs.2.1,E4 hg' hr (nT _ j_) hs.2.2⟩)
   (fun s A B row hs hg' hr=>by
    obtain ⟨c,hc,hl,hk⟩:=hs
    exact⟨c,hIx c s A B row hc hg' (fun r e=>.inl (hr r e)),E4 hg' hr (nT _ j_) hl,E4 hg' hr (nT _ j_) hk⟩)
   ?_ ⟨hI1,hL1,hK1⟩).mono ?_
  ·rintro pre x W ⟨hi,hl,hk⟩ hlen
   have hlt:w.heap.size+1<W.heap.size:=(Array.getElem?_eq_some_iff.1 hl).1
   have hy:=run_yield (P:=P) (args:=encs x) hl (by rw[hrec];exact hps x)
   rw[hrec]at hy
   refine⟨fn,_,assign,body,hy,roundIn_of_wpIn hfn (hassign _ x W _ ⟨_,run_beginRound hl (by rw[hrec]),?_⟩)⟩
   have hl2:(W.putObj (w.heap.size+1) (.loop { rec .ready none with state:=.busy })).heap[w.heap.size+1]? = some (.loop { rec .ready none with state:=.busy }):=World.putObj_heap_same hlt
   have hk2:(W.putObj (w.heap.size+1) (.loop { rec .ready none with state:=.busy })).heap[w.heap.size]? = some (.deferred (some [])):=(World.putObj_heap_other j_).trans hk
   have hw2:Kp W (W.putObj (w.heap.size+1) (.loop { rec .ready none with state:=.busy })):=hKb _ _ _ _ j_ hl rfl rfl
   refine wpIn_mono (hbody _ pre x _ (hI.putObj _ hi (Nat.le_succ _) hl q_) hlen) ?_
   have fin:∀ (jump:Option Code) (W3:World),KeepsOthers (W.putObj (w.heap.size+1) (.loop { rec .ready none with state:=.busy })) W3 →
     (Instr.endRound (w.heap.size+1) jump).run P W3=.ok (.bool jump.isNone) (W3.putObj (w.heap.size+1) (.loop (rec (if jump.isNone then .ready else .done) jump))) ∧
     W3.heap[w.heap.size+1]? = some (.loop { rec .ready none with state:=.busy }) ∧
     (W3.putObj (w.heap.size+1) (.loop (rec (if jump.isNone then .ready else .done) jump))).heap[w.heap.size+1]? = some (.loop (rec (if jump.isNone then .ready else .done) jump)) ∧
     (W3.putObj (w.heap.size+1) (.loop (rec (if jump.isNone then .ready else .done) jump))).heap[w.heap.size]? = some (.deferred (some [])):=fun jump W3 hk3=>by
    have hl3:=hk3.same _ _ hl2 rfl
    have:=run_endRound (P:=P) jump hl3
    rw[hrec]at this ⊢
    exact⟨this,by rw[hrec]at hl3;exact hl3,World.putObj_heap_same (Array.getElem?_eq_some_iff.1 hl3).1,(World.putObj_heap_other j_).trans (hk3.same _ _ hk2 q_)⟩
   rintro e a3 W3 hp
   cases e with
   | normal =>
    obtain ⟨hk3,hkp3,hi3⟩:=hp
    obtain ⟨hr,hl3,hl4,hk4⟩:=fin none W3 hk3
    exact⟨_,_,hr,.inl ⟨q_,⟨hI.putObj _ hi3 (Nat.le_succ _) hl3 q_,hl4,hk4⟩,hKt (hKt hw2 hkp3) (hKb _ _ _ _ j_ hl3 q_ q_)⟩⟩
   | ret =>
    obtain ⟨hk3,hi3⟩:=hp
    obtain ⟨hr,hl3,hl4,hk4⟩:=fin (some .ret) W3 hk3
    exact⟨_,_,hr,.inr ⟨q_,.ret,(hIx _).putObj _ hi3 (Nat.le_succ _) hl3 q_,hl4,hk4⟩⟩
   | exit id =>
    obtain ⟨hk3,hi3⟩:=hp
    obtain ⟨hr,hl3,hl4,hk4⟩:=fin (some (.exit id)) W3 hk3
    exact⟨_,_,hr,.inr ⟨q_,.exit id,(hIx _).putObj _ hi3 (Nat.le_succ _) hl3 q_,hl4,hk4⟩⟩
   | goto t =>
    obtain ⟨hk3,hi3⟩:=hp
    obtain ⟨hr,hl3,hl4,hk4⟩:=fin (some (.goto t)) W3 hk3
    exact⟨_,_,hr,.inr ⟨q_,.goto t,(hIx _).putObj _ hi3 (Nat.le_succ _) hl3 q_,hl4,hk4⟩⟩
   | panic ch=>exact hp.elim
   | outgrown=>exact hp.elim
  ·rintro e W2 ⟨⟨v,rfl⟩,(⟨xs,hS,hi,hl,hk⟩ | ⟨pre,hSp,c,hi,hl,hk⟩)⟩
   ·exact⟨none,_,by have:=run_endLoop (P:=P) hl (by rw[hrec];simp);rw[hrec]at this;exact this,hdone _ xs _ (Nat.le_refl _) hS (hI.putObj _ hi (Nat.le_succ _) hl q_) ((World.putObj_heap_other j_).trans hk)⟩
   ·exact⟨some c,_,by have:=run_endLoop (P:=P) hl (by rw[hrec];simp);rw[hrec]at this;exact this,hstop _ c pre _ (Nat.le_refl _) hSp ((hIx c).putObj _ hi (Nat.le_succ _) hl q_) ((World.putObj_heap_other j_).trans hk)⟩
end Go.Sy
namespace Go.Proofs
open Go.RowKit Go.Shelf Go.Sy Go.Sy.YtgblchnfjbkipaaGreatDoor
attribute [local go_sem] Oper.semAt_some
structure SeqBox (W:World) (bp bs bv:Nat) (t:ByteArray):Prop where
 p:W.cell? ⟨bp,0,none⟩=some (.string ⟨#[46]⟩)
 s:W.cell? ⟨bs,0,none⟩=some (.string t)
 v:W.cell? ⟨bv,0,none⟩=some (.int .i64 0)
 f:W.frozen? ⟨bs,0,none⟩=false
def Abp (bp bs bv:Nat) (W W':World):Prop:=W'.heap[bp]? = W.heap[bp]? ∧ W'.heap[bs]? = W.heap[bs]? ∧ W'.heap[bv]? = W.heap[bv]?
theorem SeqBox.keep {W W':World} {bp bs bv:Nat} {t:ByteArray} (h:SeqBox W bp bs bv t) (k:Abp bp bs bv W W'):SeqBox W' bp bs bv t :=
 ⟨(World.cell?_of_block k.1).trans h.p,(World.cell?_of_block k.2.1).trans h.s,(World.cell?_of_block k.2.2).trans h.v,by
  have:W'.frozen? ⟨bs,0,none⟩=W.frozen? ⟨bs,0,none⟩:=by unfold World.frozen?;rw[k.2.1]
  rw[this];exact h.f⟩
theorem Vh:∀ {l:List UInt8} {c:UInt8},c∉l→Lib.indexByte l c=-1
 | [],_,_=>rfl
 | b::l,c,h=>by
  simp only[List.mem_cons,not_or]at h
  rw[Lib.indexByte,if_neg (by simpa using Ne.symm h.1),Vh h.2]
  rfl
def Aaz (bs:Nat) (W:World):Nat:=match W.cell? ⟨bs,0,none⟩ with | some (.string t)=>t.size | _=>0
set_option maxRecDepth 100000 in
set_option maxHeartbeats 4000000 in
theorem Tryz.split_stops (s:ByteArray) (hs:s.size<100000) (n:Nat) (hn:1≤n) (bp bs bv:Nat) (hd:bp≠bs∧bv≠bs) (w:World) (hw:SeqBox w bp bs bv s) (hlt:bp<w.heap.size∧bs<w.heap.size∧bv<w.heap.size) :
  Sl Fence.wide n Tryz.prog 346 #[.pointer (some ⟨bp,0,none⟩),.pointer (some ⟨bs,0,none⟩),.pointer (some ⟨bv,0,none⟩)] (fun x:ByteArray=>#[.string x]) (fun b=>b=bs) (Abp bp bs bv)
   (fun xs=>xs=A3 46 s) (fun pre=>pre <+: A3 46 s) (A3 46 s).length w:=fun l J Jx W hW hJ hJx hY h0=>by
 refine callsIn_of_wp Tryz.func346 Go.Sy.q_ Go.Sy.z_ ?_ Go.Sy.q_
 simp only[Tryz.ntmps346,List.size_toArray,List.length_cons,List.length_nil,Nat.reduceAdd,Nat.reduceSub,Array.replicate_succ,Array.replicate_zero,List.push_toArray,List.append_toArray,List.nil_append,List.cons_append]
 have hW0:SeqBox W bp bs bv s:=hw.keep ⟨hW.block _ hlt.1,hW.block _ hlt.2.1,hW.block _ hlt.2.2⟩
 have c1:=hW0.p
 have c2:=hW0.s
 have c3:=hW0.v
 gi_wp2
 gi_loopw [] (fun wr=>∃ j:Nat,j≤Xs 46 s∧SeqBox wr bp bs bv (mkT (A5 46 s.data.toList j))∧J ((A3 46 s).take j) wr) (fun wr=>Aaz bs wr)
 case atStart =>
  exact⟨0,Nat.zero_le _,by rw[A5,Du];exact hW0,h0⟩
 case round =>
  obtain ⟨j,hj,hb,hJj⟩:=hrel
  have d1:=hb.p
  have d2:=hb.s
  have d3:=hb.v
  have hlr:=Uh 46 s.data.toList j
  have hsz:s.data.toList.length=s.size:=rfl
  have hwl:=I9 46 s
  have hsm:=Bt (A5 46 s.data.toList j)
  by_cases hlt:j<Xs 46 s
  ·have hi:=Dn (W4 hlt)
   obtain ⟨m,hm'⟩:∃ m:Nat,Lib.indexByte (A5 46 s.data.toList j) 46=m:=⟨(Lib.indexByte (A5 46 s.data.toList j) 46).toNat,by omega⟩
   have q:=Tryz.strings_Index_one (mkT (A5 46 s.data.toList j)) 46 wr
   rw[Dv,hm']at q
   rw[hm',Int.toNat_natCast]at hi
   have hpm:=Aal (c:=46) (s:=s) (j:=j) hm'
   have hqm:=Aby (c:=46) (s:=s) (j:=j) hm'
   have hget:(A3 46 s)[j]? = some (mkT (Ig 46 s.data.toList j)):=by
    have hlt':j<s.data.toList.count 46:=hlt
    rw[A3,List.getElem?_append_left (by rw[List.length_map,List.length_range];exact hlt'),List.getElem?_map,List.getElem?_range hlt']
    rfl
   have hx:(mkT (A5 46 s.data.toList j)).extract 0 m=mkT (Ig 46 s.data.toList j):=by
    rw[B2,hpm];simp
   have hx2:(mkT (A5 46 s.data.toList j)).extract (m+1) (mkT (A5 46 s.data.toList j)).size=mkT (A5 46 s.data.toList (j+1)):=by
    rw[B2,hqm,hsm,List.take_length]
   have htk:(A3 46 s).take j++[mkT ((A5 46 s.data.toList j).take m)]=(A3 46 s).take (j+1):=by
    rw[List.take_add_one,hget,hpm];rfl
   obtain ⟨fn,tmps,assign,body,hy,hR⟩:=hY _ (mkT ((A5 46 s.data.toList j).take m)) wr hJj (by rw[List.length_take];omega)
   rw[htk]at hR
   gi_wp2
   refine⟨Go.Sy.z_,?_⟩
   refine(callsIn_wide.2 q).mono ?_
   rintro e w' ⟨rfl,rfl⟩
   gi_wp2
   refine hR.mono ?_
   rintro e W' (⟨rfl,hJ',hk⟩ | ⟨rfl,hJx'⟩)
   ·have hb':=hb.keep hk
    have d1:=hb'.p
    have d2:=hb'.s
    have d3:=hb'.v
    have d4:=hb'.f
    have hsm1:(mkT (A5 46 s.data.toList (j+1))).size+(m+1)=(mkT (A5 46 s.data.toList j)).size:=by
     rw[hsm,Bt,hqm,List.length_drop];omega
    rw[hsm]at hx2
    gi_wp2
    rw[← hqm]
    have e2:(W'.setCell ⟨bs,0,none⟩ (.string (mkT (A5 46 s.data.toList (j+1))))).cell? ⟨bs,0,none⟩=some (.string (mkT (A5 46 s.data.toList (j+1)))):=World.cell?_setCell_same' _ _ _ (by rw[d2];rfl)
    refine⟨⟨j+1,hlt,⟨?_,e2,?_,?_⟩,hJ _ _ _ (some bs) hJ' (grownBy_setCell' _ _ _) (fun r e=>by cases e;rfl)⟩,?_⟩
    ·rw[World.cell?_setCell_other _ _ _ _ (by intro e;cases e;exact hd.1 rfl)];exact d1
    ·rw[World.cell?_setCell_other _ _ _ _ (by intro e;cases e;exact hd.2 rfl)];exact d3
    ·rw[World.frozen?_setCell];exact d4
    ·unfold Aaz
     rw[e2,hb.s]
     simp only
     omega
   ·gi_wp2
    refine bodyPost_ret (results_none Go.Sy.q_ _ _ _) Go.Sy.q_ ?_
    exact⟨⟨_,Go.Sy.q_⟩,.inr ⟨_,List.take_prefix _ _,hJx'⟩⟩
  ·have hje:j=Xs 46 s:=by omega
   have hno:(46:UInt8)∉A5 46 s.data.toList j:=by
    have:=Jw 46 s.data.toList j hj
    have e:Xs 46 s=s.data.toList.count 46:=rfl
    exact List.count_eq_zero.1 Go.Sy.j_
   have q:=Tryz.strings_Index_one (mkT (A5 46 s.data.toList j)) 46 wr
   rw[Dv,Vh hno]at q
   have hget:(A3 46 s)[j]? = some (mkT (A5 46 s.data.toList j)):=by
    rw[hje,A3,List.getElem?_append_right (by simp[Xs])]
    simp[Xs]
   have htk:(A3 46 s).take j++[mkT (A5 46 s.data.toList j)]=A3 46 s:=by
    have:(A3 46 s).take (j+1)=A3 46 s:=List.take_of_length_le Go.Sy.j_
    rw[List.take_add_one,hget]at this
    exact this
   have hlen:((A3 46 s).take j).length<(A3 46 s).length:=by rw[List.length_take];omega
   clear hje
   obtain ⟨fn,tmps,assign,body,hy,hR⟩:=hY _ (mkT (A5 46 s.data.toList j)) wr hJj hlen
   rw[htk]at hR
   gi_wp2
   refine⟨Go.Sy.z_,?_⟩
   refine(callsIn_wide.2 q).mono ?_
   rintro e w' ⟨rfl,rfl⟩
   gi_wp2
   refine hR.mono ?_
   rintro e W' (⟨rfl,hJ',hk⟩ | ⟨rfl,hJx'⟩)
   ·gi_wp2
    go_end0
    exact⟨⟨_,Go.Sy.q_⟩,.inl ⟨_,Go.Sy.q_,hJ'⟩⟩
   ·gi_wp2
    go_end0
    exact⟨⟨_,Go.Sy.q_⟩,.inr ⟨_,List.prefix_rfl,hJx'⟩⟩
end Go.Proofs
namespace Go.Sy
open Go.RowKit
theorem Spec.calls {P:Program} {f:FuncId} {A:List SV} {R:SV} (h:Sy.Spec P f A [] R []) {w:World} {vs:List Value} (hA:RdL κ0 w A vs) :
  Calls P f vs.toArray w fun e w'=>∃ v κ',e=.returned v∧Rd κ' w' R v∧Below w.heap.size w w':=by
 refine(h κ0 w vs (inv0 w) (fun k hk=>absurd rfl hk) hA (fun p hp=>by cases hp)).mono ?_
 rintro e w' ⟨v,κ',rfl,ctx,inv,hR,_⟩
 exact⟨v,κ',q_,hR,K5 ctx⟩
theorem Spec.calls_tup2 {P:Program} {f:FuncId} {A:List SV} {a b:Value} (h:Sy.Spec P f A [] (.tup [.val a,.val b]) []) {w:World} {vs:List Value} (hA:RdL κ0 w A vs) :
  Calls P f vs.toArray w fun e w'=>e=.returned (.tuple #[a,b])∧Below w.heap.size w w' :=
 (h.calls hA).mono fun e w' ⟨v,κ',he,hv,hb⟩=>by
  simp only[Rd,RdL]at hv
  obtain ⟨cs,rfl,_,_,rfl,rfl,_,_,rfl,rfl,rfl⟩:=hv
  exact⟨he,hb⟩
theorem Spec.of_calls2 {P:Program} {f:FuncId} {A:List SV} {H:Obs} {a b:Value}
  (h:∀ (κ:Ka) (w:World) (vs:List Value),Inv κ w→RdL κ w A vs→H.ok κ w→Calls P f vs.toArray w fun e w'=>e=.returned (.tuple #[a,b])∧Below w.heap.size w w'):Spec P f A H (.tup [.val a,.val b]) H:=by
 intro κ w vs hi _ hr ho
 refine(h κ w vs hi hr ho).mono fun e w' hw=>?_
 obtain ⟨he,hw⟩:=hw
 have g:Grew w w':=⟨hw.os,hw.tape,hw.output,hw.size,hw.block⟩
 have st:=Qu hi g
 exact⟨.tuple #[a,b],κ,he,(Ctx.refl κ w).step st.2 st.1,st.2,by simp[Rd,RdL],fun p hp=>ObOK.step st.1 qd p.2 (ho p hp)⟩
theorem Ov {w w':World} (h:Below w.heap.size w w'):KeepsOthers w w':=⟨h.size,fun k o hk _=>(h.block k (Array.getElem?_eq_some_iff.1 hk).1).trans hk⟩
theorem O7 {A B:World} {row:Option Nat} {k:Nat} {v:Value} (h:A.cell? ⟨k,0,none⟩=some v) (hg:A.grownBy B row) (hr:row≠some k):B.cell? ⟨k,0,none⟩=some v∧B.frozen? ⟨k,0,none⟩=A.frozen? ⟨k,0,none⟩:=by
 obtain ⟨o,ho,_⟩:=cells_of_cell h
 obtain ⟨_,_,_,_,h5⟩:=hg
 have e:B.heap[k]? = A.heap[k]?:=h5 k (Array.getElem?_eq_some_iff.1 ho).1 (fun e=>hr e.symm)
 refine⟨(World.cell?_of_block e).trans h,?_⟩
 unfold World.frozen?
 rw[e]
def Var1 (W:World) (k:Nat) (v:Value):Prop:=W.cell? ⟨k,0,none⟩=some v∧W.frozen? ⟨k,0,none⟩=false
theorem Var1.at {W:World} {B:Nat} {v:Value} {t:TypeId} (h:W.heap[B]? = some (.cells #[v] t (0,0))):Var1 W B v:=by
 constructor<;>simp[World.cell?,World.frozen?,h]
theorem Var1.below {A B:World} {k:Nat} {v:Value} (h:Var1 A k v) (hb:Below A.heap.size A B):Var1 B k v:=by
 obtain ⟨o,ho,_⟩:=cells_of_cell h.1
 have e:B.heap[k]? = A.heap[k]?:=hb.block k (Array.getElem?_eq_some_iff.1 ho).1
 refine⟨(World.cell?_of_block e).trans h.1,?_⟩
 rw[← h.2]
 unfold World.frozen?
 rw[e]
theorem Var1.new (W:World) (v:Value) (t:TypeId) {k:Nat} (hk:k=W.heap.size):Var1 (W.alloc (.cells #[v] t)) k v:=by
 subst hk
 exact Var1.at (World.alloc_heap_new W _)
theorem Var1.grown {A B:World} {row:Option Nat} {k:Nat} {v:Value} (h:Var1 A k v) (hg:A.grownBy B row) (hr:row≠some k):Var1 B k v :=
 ⟨(O7 h.1 hg hr).1,(O7 h.1 hg hr).2.trans h.2⟩
theorem Var1.alloc {A:World} {k:Nat} {v:Value} (h:Var1 A k v) (o:Obj):Var1 (A.alloc o) k v:=h.grown (World.grownBy_alloc A o none) qd
theorem Var1.set {A:World} {k:Nat} {v:Value} (h:Var1 A k v) (u:Value):Var1 (A.setCell ⟨k,0,none⟩ u) k u :=
 ⟨World.cell?_setCell_same' _ _ _ (by rw[h.1];rfl),by rw[World.frozen?_setCell];exact h.2⟩
theorem Var1.other {A:World} {k b:Nat} {v:Value} (h:Var1 A k v) (hb:b≠k) (u:Value):Var1 (A.setCell ⟨b,0,none⟩ u) k v :=
 ⟨(World.cell?_setCell_other _ _ _ _ (by intro e;cases e;exact hb rfl)).trans h.1,by rw[World.frozen?_setCell];exact h.2⟩
end Go.Sy
namespace Go.Proofs
open Go.RowKit Go.Shelf Go.Sy Go.Sy.YtgblchnfjbkipaaGreatDoor
attribute [local go_sem] Oper.semAt_some
theorem Tryz.splitSeq_calls (s:ByteArray) (w:World):Calls Tryz.prog 240 #[.string s,.string ⟨#[46]⟩] w fun e w' =>
  e=.returned (.func (.func 346) #[] #[.pointer (some ⟨w.heap.size+1,0,none⟩),.pointer (some ⟨w.heap.size,0,none⟩),.pointer (some ⟨w.heap.size+2,0,none⟩)]) ∧
   w'=((w.alloc (.cells #[.string s] 9)).alloc (.cells #[.string ⟨#[46]⟩] 9)).alloc (.cells #[.int .i64 0] 3):=by
 have q:Calls Tryz.prog 293 #[.string s,.string ⟨#[46]⟩,.int .i64 0] w fun e w' =>
  e=.returned (.func (.func 346) #[] #[.pointer (some ⟨w.heap.size+1,0,none⟩),.pointer (some ⟨w.heap.size,0,none⟩),.pointer (some ⟨w.heap.size+2,0,none⟩)]) ∧
   w'=((w.alloc (.cells #[.string s] 9)).alloc (.cells #[.string ⟨#[46]⟩] 9)).alloc (.cells #[.int .i64 0] 3):=by
  refine(callsIn_wide (n:=3)).1 ?_
  refine callsIn_of_wp Tryz.func293 Go.Sy.q_ Go.Sy.z_ ?_ Go.Sy.q_
  simp only[Tryz.ntmps293,List.size_toArray,List.length_cons,List.length_nil,Nat.reduceAdd,Nat.reduceSub,Array.replicate_succ,Array.replicate_zero,List.push_toArray,List.append_toArray,List.nil_append,List.cons_append]
  gi_wp2
  go_ret
  exact⟨Go.Sy.q_,Go.Sy.q_⟩
 refine(callsIn_wide (n:=3)).1 ?_
 refine callsIn_of_wp Tryz.func240 Go.Sy.q_ Go.Sy.z_ ?_ Go.Sy.q_
 simp only[Tryz.ntmps240,List.size_toArray,List.length_cons,List.length_nil,Nat.reduceAdd,Nat.reduceSub,Array.replicate_succ,Array.replicate_zero,List.push_toArray,List.append_toArray,List.nil_append,List.cons_append]
 gi_wp2
 refine⟨Go.Sy.z_,?_⟩
 refine(callsIn_wide.2 q).mono ?_
 rintro e w' ⟨rfl,rfl⟩
 gi_wp2
 go_ret
 exact⟨Go.Sy.q_,Go.Sy.q_⟩
def Mi:List ByteArray→Int
 | []=>0
 | l=>l.foldl (fun a x=>bits .or .u32 (IntKind.u32.wrap (a * 2 ^ 8)) (IntKind.u32.wrap (smallT x 255).1)) 0
def Y7 (x:ByteArray):Bool:=(smallT x 255).2
def Bn (s:ByteArray):Int × Bool:=if (A3 46 s).length=4∧(A3 46 s).all Y7=true then (Mi (A3 46 s),true) else (0,false)
theorem Jz (l:List ByteArray) (x:ByteArray):Mi (l++[x])=bits .or .u32 (IntKind.u32.wrap (Mi l * 2 ^ 8)) (IntKind.u32.wrap (smallT x 255).1):=by
 cases l with
 | nil=>rfl
 | cons y l=>simp[Mi]
set_option maxRecDepth 100000 in
set_option maxHeartbeats 4000000 in
theorem Tryz.addrRead_calls (s:ByteArray) (hs:s.size<100000) (w:World):Calls Tryz.prog 187 #[.string s] w fun e w'=>e=.returned (.tuple #[.int .u32 (Bn s).1,.bool (Bn s).2])∧Below w.heap.size w w':=by
 refine(callsIn_wide (n:=5)).1 ?_
 refine callsIn_of_wp_marks Tryz.func187 Go.Sy.q_ Go.Sy.z_ ?_ Go.Sy.q_
 simp only[Tryz.ntmps187,List.size_toArray,List.length_cons,List.length_nil,Nat.reduceAdd,Nat.reduceSub,Array.replicate_succ,Array.replicate_zero,List.push_toArray,List.append_toArray,List.nil_append,List.cons_append]
 gi_wp2
 refine wpIn_wide.2 (wp_scope_straight ((wpIn_wide (n:=5)).1 ?_))
 gi_wp2
 refine wpIn_label ?_
 gi_wp2
 refine⟨Go.Sy.z_,?_⟩
 refine(callsIn_wide.2 (Tryz.splitSeq_calls s _)).mono ?_
 rintro e w' ⟨rfl,rfl⟩
 gi_wp2
 obtain ⟨W0,hW0⟩:∃ W0,((((w.alloc (.cells #[.int .u32 0] 24)).alloc (.cells #[.int .i64 0] 3)).alloc (.cells #[.string s] 9)).alloc (.cells #[.string ⟨#[46]⟩] 9)).alloc (.cells #[.int .i64 0] 3)=W0:=⟨_,rfl⟩
 have hsz:W0.heap.size=w.heap.size+5:=by rw[← hW0];simp
 have hB0:Below w.heap.size w W0:=by
  rw[← hW0]
  exact(((((Below.refl _ w).alloc (Nat.le_refl _) _).alloc Go.Sy.qd _).alloc (by simp;omega) _).alloc (by simp;omega) _).alloc (by simp;omega) _
 have ca:Var1 W0 w.heap.size (.int .u32 0):=by rw[← hW0];exact((((Var1.new _ _ _ rfl).alloc _).alloc _).alloc _).alloc _
 have ci:Var1 W0 (w.heap.size+1) (.int .i64 0):=by rw[← hW0];exact(((Var1.new (w.alloc _) _ _ Go.Sy.qd).alloc _).alloc _).alloc _
 have cs:Var1 W0 (w.heap.size+2) (.string s):=by rw[← hW0];exact((Var1.new ((w.alloc _).alloc _) _ _ Go.Sy.qd).alloc _).alloc _
 have cp:Var1 W0 (w.heap.size+3) (.string ⟨#[46]⟩):=by rw[← hW0];exact(Var1.new (((w.alloc _).alloc _).alloc _) _ _ Go.Sy.qd).alloc _
 have cv:Var1 W0 (w.heap.size+4) (.int .i64 0):=by rw[← hW0];exact Var1.new ((((w.alloc _).alloc _).alloc _).alloc _) _ _ Go.Sy.qd
 have cb:SeqBox W0 (w.heap.size+3) (w.heap.size+2) (w.heap.size+4) s:=⟨cp.1,cs.1,cv.1,cs.2⟩
 rw[hW0]
 clear hW0
 have hrow:∀ {k:Nat} {W:World} {row:Option Nat},k≤w.heap.size+1→(∀ r,row=some r→r=w.heap.size+2∨(W0.heap.size≤r∧∃ o:Obj,W.heap[r]? = some o∧o.isCells=false))→row≠some k:=fun hk hr e=>by
  rcases hr _ e with h | ⟨h,_⟩<;>omega
 have hge:∀ {W:World} {row:Option Nat},(∀ r,row=some r→r=w.heap.size+2∨(W0.heap.size≤r∧∃ o:Obj,W.heap[r]? = some o∧o.isCells=false))→∀ r,row=some r→w.heap.size≤r:=fun hr r e=>by
  rcases hr _ e with h | ⟨h,_⟩<;>omega
 refine I1 Go.Sy.q_ Go.Sy.j_ (gf:=346) (lb:=#[.pointer (some ⟨w.heap.size+3,0,none⟩),.pointer (some ⟨w.heap.size+2,0,none⟩),.pointer (some ⟨w.heap.size+4,0,none⟩)]) Go.Sy.q_ Go.Sy.z_ (enters_of Tryz.func346 Go.Sy.y_ Go.Sy.q_)
  (Tryz.split_stops s hs 4 Go.Sy.j_ (w.heap.size+3) (w.heap.size+2) (w.heap.size+4) ⟨by omega,by omega⟩ W0 cb Go.Sy.j_) (fun b hb=>by omega)
  (fun h k=>⟨k.1.trans h.1,k.2.1.trans h.2.1,k.2.2.trans h.2.2⟩)
  (fun W l o o' hl _ _ _=>⟨World.putObj_heap_other Go.Sy.j_,World.putObj_heap_other Go.Sy.j_,World.putObj_heap_other Go.Sy.j_⟩) (Below.refl _ _) (fun _=>rfl)
  (fun pre W=>Var1 W w.heap.size (.int .u32 (Mi pre))∧Var1 W (w.heap.size+1) (.int .i64 pre.length)∧(pre.length≤4∧pre.all Y7=true)∧Below w.heap.size w W∧w.heap.size+5≤W.heap.size)
  (fun c pre W=>c=.exit 0∧Var1 W (w.heap.size+1) (.int .i64 0)∧¬ (pre.length≤4∧pre.all Y7=true)∧Below w.heap.size w W)
  (fun pre A B row hs hg hr=>⟨hs.1.grown hg (hrow Go.Sy.j_ hr),hs.2.1.grown hg (hrow Go.Sy.j_ hr),hs.2.2.1,hs.2.2.2.1.grown hg hs.2.2.2.1.size (hge hr),Nat.le_trans hs.2.2.2.2 hg.size⟩)
  (fun c pre A B row hs hg hr=>⟨hs.1,hs.2.1.grown hg (hrow Go.Sy.j_ hr),hs.2.2.1,hs.2.2.2.grown hg hs.2.2.2.size (hge hr)⟩)
  ⟨ca,ci,⟨by simp,rfl⟩,hB0,by omega⟩
  (fun x=>{ tmps:=#[.string s,undef,.int .u32 0,.bool false,.pointer (some ⟨w.heap.size,0,none⟩),.pointer (some ⟨w.heap.size+1,0,none⟩),.string x,undef,undef,.string s,
   .func (.func 346) #[] #[.pointer (some ⟨w.heap.size+3,0,none⟩),.pointer (some ⟨w.heap.size+2,0,none⟩),.pointer (some ⟨w.heap.size+4,0,none⟩)],.string x,
   undef,undef,undef,undef,undef,undef,undef,undef,undef,undef,undef,undef,undef,undef,undef,undef,undef,undef,undef,undef,undef],defers:=[] }) ?assign ?body ?done ?stop
 case assign =>
  intro l x W K hK
  gi_wp2
  exact hK
 case body =>
  rintro l pre x W ⟨ha,hi,⟨hp1,hp2⟩,hB,hB5⟩ _
  have q:=(Qb x 255).calls_tup2 (w:=W) (vs:=[.string x,.int .i64 255]) (by simp only[RdL];exact⟨_,_,rfl,by simp[Rd,Ac],_,_,rfl,by simp[Rd,Aa],rfl⟩)
  have hsn:=Jz pre x
  have hal:((pre++[x]).all Y7)=Y7 x:=by rw[List.all_append,hp2];simp
  have hll:(pre++[x]).length=pre.length+1:=by simp
  have hox:Y7 x=(smallT x 255).2:=rfl
  generalize smallT x 255=sm at *
  obtain ⟨v,ok⟩:=sm
  dsimp only at hsn hox q
  gi_wp2
  refine⟨Go.Sy.z_,?_⟩
  refine(CallsIn.inRound l (callsIn_wide.2 q)).mono ?_
  rintro e w' ⟨rfl,hb⟩
  have ha':=ha.below hb
  have hi':=hi.below hb
  have hB':Below w.heap.size w w':=hB.trans (hb.mono hB.size)
  have hk1:=Ov hb
  have a1:=ha'.1
  have a2:=ha'.2
  have b1:=hi'.1
  have b2:=hi'.2
  have s1:∀ (u v:Value),Below w.heap.size w ((w'.setCell ⟨w.heap.size+1,0,none⟩ u).setCell ⟨w.heap.size+1,0,none⟩ v):=fun u v =>
   (hB'.setCell (p:=⟨w.heap.size+1,0,none⟩) (Nat.le_succ _) u).setCell (p:=⟨w.heap.size+1,0,none⟩) (Nat.le_succ _) v
  cases ok
  ·gi_wp2
   exact⟨hk1.trans ((KeepsOthers.setCell _ _ _).trans (KeepsOthers.setCell _ _ _)),rfl,(hi'.set _).set _,(fun e=>by rw[hal,hox]at e;cases e.2),s1 _ _⟩
  ·by_cases h4:pre.length+1≤4
   ·have hsn':Mi (pre++[x])=bits .or .u32 (Mi pre * 256 % 4294967296) (v % 4294967296):=by rw[hsn,IntKind.wrap_u32,IntKind.wrap_u32];rfl
    gi_wp2
    refine⟨hk1.trans ((KeepsOthers.setCell _ _ _).trans (KeepsOthers.setCell _ _ _)),⟨?_,?_,?_⟩,?_,?_,⟨by omega,by rw[hal,hox]⟩,?_,?_⟩
    ·rw[Below.heap_setCell _ _ _ _ Go.Sy.qd,Below.heap_setCell _ _ _ _ Go.Sy.qd]
     exact hb.block _ Go.Sy.j_
    ·rw[Below.heap_setCell _ _ _ _ Go.Sy.qd,Below.heap_setCell _ _ _ _ Go.Sy.qd]
     exact hb.block _ Go.Sy.j_
    ·rw[Below.heap_setCell _ _ _ _ Go.Sy.qd,Below.heap_setCell _ _ _ _ Go.Sy.qd]
     exact hb.block _ Go.Sy.j_
    ·rw[hsn']
     exact(ha'.other Go.Sy.qd _).set _
    ·rw[hll]
     exact(hi'.set _).other Go.Sy.qd _
    ·exact(hB'.setCell (p:=⟨w.heap.size+1,0,none⟩) (Nat.le_succ _) _).setCell (p:=⟨w.heap.size,0,none⟩) (Nat.le_refl _) _
    ·have:=hb.size
     simp
     omega
   ·gi_wp2
    exact⟨hk1.trans ((KeepsOthers.setCell _ _ _).trans (KeepsOthers.setCell _ _ _)),Go.Sy.q_,(hi'.set _).set _,fun e=>by omega,s1 _ _⟩
 case done =>
  rintro D xs W hD rfl ⟨ha,hi,⟨hp1,hp2⟩,hB,_⟩ hK
  have a1:=ha.1
  have a2:=ha.2
  have b1:=hi.1
  have b2:=hi.2
  by_cases h4:(A3 46 s).length=4
  ·have hr:Bn s=(Mi (A3 46 s),true):=by rw[Bn,if_pos ⟨h4,hp2⟩]
   gi_wp2
   refine⟨by simp,.inl ⟨_,_,Go.Sy.q_,run_takeDeferred hK,?_⟩⟩
   exact⟨_,results_tmp2 Go.Sy.q_ _ _ _,by rw[hr];rfl,hB.trans (belowK_b (w:=w) (Nat.le_refl _) W D _ _ Go.Sy.j_ hK Go.Sy.q_ Go.Sy.q_)⟩
  ·have hr:Bn s=(0,false):=by rw[Bn,if_neg (fun e=>h4 e.1)]
   gi_wp2
   refine⟨by simp,.inl ⟨_,_,Go.Sy.q_,run_takeDeferred hK,?_⟩⟩
   exact⟨_,results_tmp2 Go.Sy.q_ _ _ _,by rw[hr];rfl,hB.trans (belowK_b (w:=w) (Nat.le_refl _) W D _ _ Go.Sy.j_ hK Go.Sy.q_ Go.Sy.q_)⟩
 case stop =>
  rintro D c pre W hD hpre ⟨rfl,hi,hbad,hB⟩ hK
  have b1:=hi.1
  have b2:=hi.2
  have hr:Bn s=(0,false):=by
   rw[Bn,if_neg]
   intro e
   refine hbad ⟨by have:=hpre.length_le;omega,?_⟩
   rw[List.all_eq_true]at e ⊢
   exact fun x hx=>e.2 x (hpre.subset hx)
  gi_wp2
  refine⟨by simp,.inl ⟨_,_,Go.Sy.q_,run_takeDeferred hK,?_⟩⟩
  exact⟨_,results_tmp2 Go.Sy.q_ _ _ _,by rw[hr];rfl,hB.trans (belowK_b (w:=w) (Nat.le_refl _) W D _ _ Go.Sy.j_ hK Go.Sy.q_ Go.Sy.q_)⟩
end Go.Proofs
namespace Go.Sy.YtgblchnfjbkipaaGreatDoor
open Go.Proofs
theorem Lo (s:ByteArray) (hs:s.size<100000):Sy.Spec Tryz.prog 187 [Ac s] [] (.tup [A1 (Bn s).1,Af (Bn s).2]) [] :=
 Spec.of_calls2 fun κ w vs _ hr _=>by
  simp only[RdL]at hr
  obtain ⟨v,r,rfl,hv,rfl⟩:=hr
  simp only[Ac,Rd]at hv
  subst hv
  exact Tryz.addrRead_calls s hs w
end Go.Sy.YtgblchnfjbkipaaGreatDoor
namespace Go.Sy.YtgblchnfjbkipaaGreatDoor
open Go.Proofs
attribute [local irreducible] Go.Sy.G Go.Sy.DR
set_option maxRecDepth 100000
set_option maxHeartbeats 4000000
def be:Nat→Nat→List UInt8
 | 0,_=>[]
 | k+1,m=>UInt8.ofNat (m / 256 ^ k)::be k m
end Go.Sy.YtgblchnfjbkipaaGreatDoor
namespace Go.Sy.YtgblchnfjbkipaaGreatDoor
def Ip (a bits:Int):Int:=if 0≤bits∧bits≤32 then a-a % 2 ^ (32-bits).toNat else 0
end Go.Sy.YtgblchnfjbkipaaGreatDoor
namespace Go.Sy.YtgblchnfjbkipaaGreatDoor
open Go.Proofs
attribute [local irreducible] Go.Sy.G Go.Sy.DR
set_option maxRecDepth 100000
set_option maxHeartbeats 4000000
def Ds (a bits:Int):SV:=.agg [A1 a,Aa bits]
theorem J0 (a bits:Int):Sy.Spec Tryz.prog 296 [Ds a bits] [] (Af (decide (0≤bits∧bits≤32))) []:=cT F296 Tryz.ntmps296 fun F hF=>by
 conv=>whnf
 (repeat' (first | (refine⟨fun h=>?_,fun h=>?_⟩<;>(repeat (first | simp only[decide_eq_true_eq]at h | simp only[decide_eq_false_iff_not]at h))<;>((refine oO ?_))) | (refine Bo rfl (.cons .tmp .nil) ?_ rfl)))
 all_goals (refine congrArg Af ?_;clear hF;grind)
theorem Sj (a bits:Int) (h:0≤bits∧bits≤32):Sy.Spec Tryz.prog 297 [Ds a bits] [] (A1 (2 ^ (32-bits).toNat-1)) []:=cT F297 Tryz.ntmps297 fun F hF=>by
 conv=>whnf
 refine iW ?_
 refine⟨by omega,?_⟩
 conv=>whnf
 refine Bo q_ (.cons .tmp .nil) ?_ q_
 refine congrArg (fun z=>SV.val (.int .u32 z)) ?_
 obtain ⟨k,hk,hk2⟩:∃ k:Nat,(32-bits).toNat=k∧k≤32:=⟨_,rfl,by omega⟩
 have h1:min (32-bits).toNat IntKind.u32.bits=k:=by show min (32-bits).toNat 32=k;omega
 rw[h1,hk,IntKind.wrap_u32,IntKind.wrap_u32]
 have h2:(2:Int) ^ k≤4294967296:=by
  have:=Nat.pow_le_pow_right (n:=2) qc hk2
  rw[show (2:Int) ^ k=((2 ^ k:Nat):Int) by rw[Int.natCast_pow];rfl]
  have e:(2:Nat) ^ 32=4294967296:=rfl
  rw[e]at this
  omega
 have h0:(1:Int)≤2 ^ k:=by
  have:=Nat.one_le_two_pow (n:=k)
  rw[show (2:Int) ^ k=((2 ^ k:Nat):Int) by rw[Int.natCast_pow];rfl]
  omega
 generalize (2:Int) ^ k=q at *
 omega
theorem Xx (a k:Nat) (ha:a<4294967296) (hk:k≤32):bits .andNot .u32 (a:Int) ((2 ^ k-1:Nat):Int)=((a-a % 2 ^ k:Nat):Int):=by
 have hp:=Nat.pow_le_pow_right (n:=2) qc hk
 have e32:(2:Nat) ^ 32=4294967296:=rfl
 rw[e32]at hp
 have h1:=Nat.one_le_two_pow (n:=k)
 have x1:(BitVec.ofInt 32 (a:Int)).toNat=a:=by rw[BitVec.ofInt_natCast,BitVec.toNat_ofNat];exact Nat.mod_eq_of_lt j_
 have x2:(BitVec.ofInt 32 ((2 ^ k-1:Nat):Int)).toNat=2 ^ k-1:=by rw[BitVec.ofInt_natCast,BitVec.toNat_ofNat];exact Nat.mod_eq_of_lt j_
 have key:(BitVec.ofInt 32 (a:Int) &&& ~~~ BitVec.ofInt 32 ((2 ^ k-1:Nat):Int)).toNat=a-a % 2 ^ k:=by
  have hd:a-a % 2 ^ k=2 ^ k * (a / 2 ^ k):=by have:=Nat.div_add_mod a (2 ^ k);omega
  rw[hd]
  refine Nat.eq_of_testBit_eq fun i=>?_
  rw[BitVec.testBit_toNat,BitVec.getLsbD_and,BitVec.getLsbD_not,← BitVec.testBit_toNat,← BitVec.testBit_toNat,x1,x2,Nat.testBit_two_pow_sub_one,Nat.testBit_two_pow_mul,Nat.testBit_div_two_pow]
  by_cases hi:i<k
  ·have:¬ i≥k:=by omega
   simp[hi,this]
  ·have h2:i≥k:=by omega
   have h3:i-k+k=i:=by omega
   by_cases h4:i<32
   ·simp[hi,h2,h4,h3]
   ·have h5:a.testBit i=false:=Nat.testBit_lt_two_pow (Nat.lt_of_lt_of_le (by rw[← e32]at ha;exact ha) (Nat.pow_le_pow_right qc j_))
    rw[h3,h5]
    simp
 show IntKind.u32.wrap (((BitVec.ofInt 32 (a:Int) &&& ~~~ BitVec.ofInt 32 ((2 ^ k-1:Nat):Int)).toNat:Nat):Int)=_
 rw[key,IntKind.wrap_u32]
 omega
theorem O4 (a k:Nat) (bits:Int) (h:0≤bits∧bits≤32) (hk:(32-bits).toNat=k):Ip a bits=((a-a % 2 ^ k:Nat):Int):=by
 rw[Ip,if_pos h,hk]
 have h1:=Nat.mod_le a (2 ^ k)
 rw[show (2:Int) ^ k=((2 ^ k:Nat):Int) by rw[Int.natCast_pow];rfl]
 omega
theorem X1 (a:Nat) (bits:Int) (ha:a<4294967296):Sy.Spec Tryz.prog 244 [Ds a bits] [] (A1 (Ip a bits)) []:=cT F244 Tryz.ntmps244 fun F hF=>by
 have hr:=J0 a bits
 by_cases hb:0≤bits∧bits≤32
 ·have hrest:=Sj a bits hb
  rw[decide_eq_true hb]at hr
  obtain ⟨k,hk,hk2⟩:∃ k:Nat,(32-bits).toNat=k∧k≤32:=⟨_,rfl,by omega⟩
  have hn:=Xx a k ha hk2
  have hf:=O4 a k bits hb hk
  have h1:=Nat.one_le_two_pow (n:=k)
  have e2:(2:Int) ^ k-1=((2 ^ k-1:Nat):Int):=by
   rw[show (2:Int) ^ k=((2 ^ k:Nat):Int) by rw[Int.natCast_pow];rfl]
   omega
  rw[hk,e2]at hrest
  rw[hf,← hn]
  ((conv=>whnf);repeat((first|refine aF ?_|refine aT ?_);(first|refine rG Γ hm ?_|refine rD Γ hm y_ ?_);conv=>whnf))
  refine c0 hr F296 ?_
  ((first|refine rG Γ hm ?_|refine rD Γ hm y_ ?_);(conv=>whnf);repeat((first|refine aF ?_|refine aT ?_);(first|refine rG Γ hm ?_|refine rD Γ hm y_ ?_);conv=>whnf))
  first | refine cD hrest F297 ?_ | refine c0 hrest F297 ?_
  ((first|refine rG Γ hm ?_|refine rD Γ hm y_ ?_);(conv=>whnf);repeat((first|refine aF ?_|refine aT ?_);(first|refine rG Γ hm ?_|refine rD Γ hm y_ ?_);conv=>whnf))
  first | (refine⟨y_,?_⟩;((conv=>whnf);repeat((first|refine aF ?_|refine aT ?_);(first|refine rG Γ hm ?_|refine rD Γ hm y_ ?_);conv=>whnf))) | skip
  exact dN
 ·rw[decide_eq_false hb]at hr
  have hf:Ip a bits=0:=by rw[Ip,if_neg hb]
  rw[hf]
  ((conv=>whnf);repeat((first|refine aF ?_|refine aT ?_);(first|refine rG Γ hm ?_|refine rD Γ hm y_ ?_);conv=>whnf))
  refine c0 hr F296 ?_
  ((first|refine rG Γ hm ?_|refine rD Γ hm y_ ?_);(conv=>whnf);repeat((first|refine aF ?_|refine aT ?_);(first|refine rG Γ hm ?_|refine rD Γ hm y_ ?_);conv=>whnf))
  exact dN
def Ot (a bits:Int):Int:=if 0≤bits∧bits≤32 then Ip a bits+2 ^ (32-bits).toNat-1 else 0
theorem or_low (a k:Nat) (ha:a<4294967296) (hk:k≤32):bits .or .u32 (a:Int) ((2 ^ k-1:Nat):Int)=((a-a % 2 ^ k+(2 ^ k-1):Nat):Int):=by
 have hp:=Nat.pow_le_pow_right (n:=2) qc hk
 have e32:(2:Nat) ^ 32=4294967296:=rfl
 rw[e32]at hp
 have h1:=Nat.one_le_two_pow (n:=k)
 have x1:(BitVec.ofInt 32 (a:Int)).toNat=a:=by rw[BitVec.ofInt_natCast,BitVec.toNat_ofNat];exact Nat.mod_eq_of_lt j_
 have x2:(BitVec.ofInt 32 ((2 ^ k-1:Nat):Int)).toNat=2 ^ k-1:=by rw[BitVec.ofInt_natCast,BitVec.toNat_ofNat];exact Nat.mod_eq_of_lt j_
 have hd:a-a % 2 ^ k=2 ^ k * (a / 2 ^ k):=by have:=Nat.div_add_mod a (2 ^ k);omega
 have hsum:=Nat.two_pow_add_eq_or_of_lt (i:=k) (b:=2 ^ k-1) j_ (a / 2 ^ k)
 have key:(BitVec.ofInt 32 (a:Int) ||| BitVec.ofInt 32 ((2 ^ k-1:Nat):Int)).toNat=a-a % 2 ^ k+(2 ^ k-1):=by
  rw[hd,hsum]
  refine Nat.eq_of_testBit_eq fun i=>?_
  rw[BitVec.testBit_toNat,BitVec.getLsbD_or,← BitVec.testBit_toNat,← BitVec.testBit_toNat,x1,x2,Nat.testBit_or,Nat.testBit_two_pow_sub_one,Nat.testBit_two_pow_mul,Nat.testBit_div_two_pow]
  by_cases hi:i<k
  ·simp[hi]
  ·have h2:i≥k:=by omega
   have h3:i-k+k=i:=by omega
   simp[hi,h2,h3]
 show IntKind.u32.wrap (((BitVec.ofInt 32 (a:Int) ||| BitVec.ofInt 32 ((2 ^ k-1:Nat):Int)).toNat:Nat):Int)=_
 have hlt:(BitVec.ofInt 32 (a:Int) ||| BitVec.ofInt 32 ((2 ^ k-1:Nat):Int)).toNat<4294967296:=BitVec.isLt _
 rw[key]at hlt
 rw[key,IntKind.wrap_u32]
 omega
theorem Zj (a k:Nat) (bits:Int) (h:0≤bits∧bits≤32) (hk:(32-bits).toNat=k):Ot a bits=((a-a % 2 ^ k+(2 ^ k-1):Nat):Int):=by
 rw[Ot,if_pos h,hk,O4 a k bits h hk]
 have h1:=Nat.one_le_two_pow (n:=k)
 rw[show (2:Int) ^ k=((2 ^ k:Nat):Int) by rw[Int.natCast_pow];rfl]
 omega
theorem Zw (a:Nat) (bits:Int) (ha:a<4294967296):Sy.Spec Tryz.prog 245 [Ds a bits] [] (A1 (Ot a bits)) []:=cT F245 Tryz.ntmps245 fun F hF=>by
 have hr:=J0 a bits
 by_cases hb:0≤bits∧bits≤32
 ·have hrest:=Sj a bits hb
  rw[decide_eq_true hb]at hr
  obtain ⟨k,hk,hk2⟩:∃ k:Nat,(32-bits).toNat=k∧k≤32:=⟨_,rfl,by omega⟩
  have hn:=or_low a k ha hk2
  have hf:=Zj a k bits hb hk
  have h1:=Nat.one_le_two_pow (n:=k)
  have e2:(2:Int) ^ k-1=((2 ^ k-1:Nat):Int):=by
   rw[show (2:Int) ^ k=((2 ^ k:Nat):Int) by rw[Int.natCast_pow];rfl]
   omega
  rw[hk,e2]at hrest
  rw[hf,← hn]
  ((conv=>whnf);repeat((first|refine aF ?_|refine aT ?_);(first|refine rG Γ hm ?_|refine rD Γ hm y_ ?_);conv=>whnf))
  refine c0 hr F296 ?_
  ((first|refine rG Γ hm ?_|refine rD Γ hm y_ ?_);(conv=>whnf);repeat((first|refine aF ?_|refine aT ?_);(first|refine rG Γ hm ?_|refine rD Γ hm y_ ?_);conv=>whnf))
  first | refine cD hrest F297 ?_ | refine c0 hrest F297 ?_
  ((first|refine rG Γ hm ?_|refine rD Γ hm y_ ?_);(conv=>whnf);repeat((first|refine aF ?_|refine aT ?_);(first|refine rG Γ hm ?_|refine rD Γ hm y_ ?_);conv=>whnf))
  first | (refine⟨y_,?_⟩;((conv=>whnf);repeat((first|refine aF ?_|refine aT ?_);(first|refine rG Γ hm ?_|refine rD Γ hm y_ ?_);conv=>whnf))) | skip
  exact dN
 ·rw[decide_eq_false hb]at hr
  have hf:Ot a bits=0:=by rw[Ot,if_neg hb]
  rw[hf]
  ((conv=>whnf);repeat((first|refine aF ?_|refine aT ?_);(first|refine rG Γ hm ?_|refine rD Γ hm y_ ?_);conv=>whnf))
  refine c0 hr F296 ?_
  ((first|refine rG Γ hm ?_|refine rD Γ hm y_ ?_);(conv=>whnf);repeat((first|refine aF ?_|refine aT ?_);(first|refine rG Γ hm ?_|refine rD Γ hm y_ ?_);conv=>whnf))
  exact dN
end Go.Sy.YtgblchnfjbkipaaGreatDoor
namespace Go.Sy.YtgblchnfjbkipaaGreatDoor
open Go.Proofs
def Tg (m:Nat):Bool:=decide (m / 1099511627776 % 2=1)
theorem Acc (m k:Nat):m &&& 2 ^ k=if m / 2 ^ k % 2=1 then 2 ^ k else 0:=by
 apply Nat.eq_of_testBit_eq
 intro i
 rw[Nat.testBit_and,Nat.testBit_two_pow]
 by_cases hi:k=i
 ·subst hi
  rw[decide_eq_true rfl,Bool.and_true,Nat.testBit_eq_decide_div_mod_eq]
  split
  ·rename_i h;rw[decide_eq_true h,Nat.testBit_two_pow_self]
  ·rename_i h;rw[decide_eq_false h,Nat.zero_testBit]
 ·rw[decide_eq_false hi,Bool.and_false]
  split
  ·rw[Nat.testBit_two_pow,decide_eq_false hi]
  ·rw[Nat.zero_testBit]
theorem Zm (m:Nat) (h:m<18446744073709551616):(bits .and .u64 (m:Int) 1099511627776 != 0)=Tg m:=by
 have e:=bits_and_u64_nat m 1099511627776 h qc
 rw[show ((1099511627776:Nat):Int)=1099511627776 from rfl]at e
 rw[e,show (1099511627776:Nat)=2 ^ 40 from rfl,Acc,Tg,show (1099511627776:Nat)=2 ^ 40 from rfl]
 split
 ·rename_i h;rw[decide_eq_true h];rfl
 ·rename_i h;rw[decide_eq_false h];rfl
end Go.Sy.YtgblchnfjbkipaaGreatDoor
namespace Go.Sy.YtgblchnfjbkipaaGreatDoor
open Go.Proofs
attribute [local irreducible] Go.Sy.G Go.Sy.DR
set_option maxRecDepth 20000
set_option maxHeartbeats 8000000
theorem Qc:∀ (n:Nat) (l:List UInt8),n<1000000000000000000→l.length+(revDigs n).length<1000000 →
  Sy.Spec Tryz.prog 300 [.osl 0,Aa n] [(0,.row 1 Al l)] (.osl 1) [(0,.non),(1,.row 1 Al (l++(revDigs n).reverse))]:=by
 intro n
 induction n using Nat.strongRecOn with
 | ind n ih =>
  intro l hn hl
  have hpos:=E2 n
  have hrev:=Ug n
  have hlr:(revDigs n).reverse.length=(revDigs n).length:=List.length_reverse
  refine He Γ hm 100 F300 Tryz.ntmps300 q_ fun F hF=>by
   ((conv=>whnf);repeat((first|refine aF ?_|refine aT ?_);(first|refine rG Γ hm ?_|refine rD Γ hm y_ ?_);conv=>whnf))
   refine⟨fun h=>?_,fun h=>?_⟩
   ·have h1:¬ n<10:=qA h
    rw[if_neg h1]at hrev
    have hlen:(revDigs (n / 10)).length+1=(revDigs n).length:=by
     rw[← hlr,hrev];simp
    have q:=ih (n / 10) j_ l j_ j_
    ((first|refine rG Γ hm ?_|refine rD Γ hm y_ ?_);(conv=>whnf);repeat((first|refine aF ?_|refine aT ?_);(first|refine rG Γ hm ?_|refine rD Γ hm y_ ?_);conv=>whnf))
    refine⟨by decide,?_⟩
    ((conv=>whnf);repeat((first|refine aF ?_|refine aT ?_);(first|refine rG Γ hm ?_|refine rD Γ hm y_ ?_);conv=>whnf))
    rw[tdiv10 n hn]
    refine Cc (Ad [(0,0),(1,1000)] q_ F300 q q_ ⟨q_,z_⟩ q_ ⟨.inl q_,.inr q_,z_⟩) q_ q_ ?_
    ((first|refine rG Γ hm ?_|refine rD Γ hm y_ ?_);(conv=>whnf);repeat((first|refine aF ?_|refine aT ?_);(first|refine rG Γ hm ?_|refine rD Γ hm y_ ?_);conv=>whnf))
    refine⟨by decide,?_⟩
    ((conv=>whnf);repeat((first|refine aF ?_|refine aT ?_);(first|refine rG Γ hm ?_|refine rD Γ hm y_ ?_);conv=>whnf))
    rw[Z4 n]
    refine iL ?_
    ((conv=>whnf);repeat((first|refine aF ?_|refine aT ?_);(first|refine rG Γ hm ?_|refine rD Γ hm y_ ?_);conv=>whnf))
    rw[dig8 n]
    refine Cc (Ai Γ.toTy 17 rfl rfl rfl rfl rfl (.row rfl) (.lit (e:=Al) (l:=[UInt8.ofNat (48+n % 10)]) rfl rfl) (fun j hj=>by cases hj;decide) (by simp;omega) (by simp;omega)) rfl rfl ?_
    ((first|refine rG Γ hm ?_|refine rD Γ hm y_ ?_);(conv=>whnf);repeat((first|refine aF ?_|refine aT ?_);(first|refine rG Γ hm ?_|refine rD Γ hm y_ ?_);conv=>whnf))
    exact done q_ (.cons .tmp .nil) [(1,17)] [(0,.non),(1,.row 1 Al (l++(revDigs n).reverse))] (fun _ h=>h) q_ q_ ⟨z_,⟨.inl q_,q_,.inl (by rw[hrev,← List.append_assoc];rfl),q_,z_⟩,q_,q_⟩
   ·have h1:n<10:=qB h
    rw[if_pos h1,List.nil_append]at hrev
    ((first|refine rG Γ hm ?_|refine rD Γ hm y_ ?_);(conv=>whnf);repeat((first|refine aF ?_|refine aT ?_);(first|refine rG Γ hm ?_|refine rD Γ hm y_ ?_);conv=>whnf))
    refine⟨by decide,?_⟩
    ((conv=>whnf);repeat((first|refine aF ?_|refine aT ?_);(first|refine rG Γ hm ?_|refine rD Γ hm y_ ?_);conv=>whnf))
    rw[Z4 n]
    refine iL ?_
    ((conv=>whnf);repeat((first|refine aF ?_|refine aT ?_);(first|refine rG Γ hm ?_|refine rD Γ hm y_ ?_);conv=>whnf))
    rw[dig8 n]
    refine Cc (Ai Γ.toTy 17 q_ q_ q_ q_ q_ (.row q_) (.lit (e:=Al) (l:=[UInt8.ofNat (48+n % 10)]) q_ q_) qd (by simp;omega) (by simp;omega)) q_ q_ ?_
    ((first|refine rG Γ hm ?_|refine rD Γ hm y_ ?_);(conv=>whnf);repeat((first|refine aF ?_|refine aT ?_);(first|refine rG Γ hm ?_|refine rD Γ hm y_ ?_);conv=>whnf))
    exact done q_ (.cons .tmp .nil) [(1,17)] [(0,.non),(1,.row 1 Al (l++(revDigs n).reverse))] (fun _ h=>h) q_ q_ ⟨z_,⟨.inl q_,q_,.inl (by rw[hrev];rfl),q_,z_⟩,q_,q_⟩
def octN (a i:Nat):Nat:=a / 256 ^ (3-i) % 256
def Jl (a:Nat):Nat→List UInt8
 | 0=>[]
 | j+1=>Jl a j++(if 0<j then [46] else [])++(revDigs (octN a j)).reverse
def C8 (a:Int):ByteArray:=mkT (Jl a.toNat 4)
theorem Ly (a i:Nat):(revDigs (octN a i)).length≤4:=B5 3 _ (by unfold octN;omega)
theorem H1 (a:Nat):∀ j,(Jl a j).length≤5 * j
 | 0=>by simp[Jl]
 | j+1=>by
  have:=H1 a j
  have h2:=Ly a j
  rw[Jl,List.length_append,List.length_append,List.length_reverse]
  split<;>simp<;>omega
theorem Y6 (a j:Nat) (ha:a<4294967296) (hj:j<4):IntKind.i64.wrap (IntKind.u8.wrap ((a:Int).fdiv (2 ^ (min (8 * (3-(j:Int))).toNat IntKind.u32.bits))))=((octN a j:Nat):Int):=by
 have h:(8 * (3-(j:Int))).toNat=8 * (3-j):=by omega
 have hb:min (8 * (3-j)) IntKind.u32.bits=8 * (3-j):=by show min _ 32=_;omega
 have hp:(2:Nat) ^ (8 * (3-j))=256 ^ (3-j):=by rw[Nat.pow_mul]
 rw[h,hb,show (2:Int) ^ (8 * (3-j))=((2 ^ (8 * (3-j)):Nat):Int) by rw[Int.natCast_pow];rfl,hp,Int.fdiv_eq_ediv_of_nonneg _ (Int.natCast_nonneg _),← Int.natCast_ediv,octN,IntKind.wrap_u8,IntKind.wrap_i64]
 have:a / 256 ^ (3-j)≤a:=Nat.div_le_self _ _
 omega
theorem Ln (a:Nat) (ha:a<4294967296):Sy.Spec Tryz.prog 251 [A1 a] [] (Ac (C8 a)) []:=cT F251 Tryz.ntmps251 fun F hF=>by
 ((conv=>whnf);repeat((first|refine aF ?_|refine aT ?_);(first|refine rG Γ hm ?_|refine rD Γ hm y_ ?_);conv=>whnf))
 refine Dg 3 1000 1 Al q_ q_ ?_
 refine Df 4 (fun j=>[(0,A1 a),(3,.osl 1000),(5,Aa j)]) (fun j=>[(1000,.row 1 Al (Jl a j))]) []
  ⟨⟨rfl,rfl,rfl,rfl,rfl,rfl,trivial⟩,⟨.inl rfl,rfl,trivial⟩,rfl,rfl⟩ ?_
 intro j hj
 have hlu:=H1 a j
 have hsu:Jl a (j+1)=Jl a j++(if 0<j then [46] else [])++(revDigs (octN a j)).reverse:=rfl
 have hro:=Ly a j
 generalize hu:Jl a j=u at *
 ((first|refine rG Γ hm ?_|refine rD Γ hm y_ ?_);(conv=>whnf);repeat((first|refine aF ?_|refine aT ?_);(first|refine rG Γ hm ?_|refine rD Γ hm y_ ?_);conv=>whnf))
 refine⟨fun h=>?_,fun h=>?_⟩
 ·have hlt:j<4:=qA h
  have hsh:=Y6 a j ha hlt
  have hob:octN a j<1000000000000000000:=by unfold octN;omega
  ((first|refine rG Γ hm ?_|refine rD Γ hm y_ ?_);(conv=>whnf);repeat((first|refine aF ?_|refine aT ?_);(first|refine rG Γ hm ?_|refine rD Γ hm y_ ?_);conv=>whnf))
  refine⟨fun h=>?_,fun h=>?_⟩
  ·have h0:0<j:=qA h
   rw[if_pos h0]at hsu
   have q:=Qc (octN a j) (u++[46]) hob (by simp;omega)
   ((first|refine rG Γ hm ?_|refine rD Γ hm y_ ?_);(conv=>whnf);repeat((first|refine aF ?_|refine aT ?_);(first|refine rG Γ hm ?_|refine rD Γ hm y_ ?_);conv=>whnf))
   refine Cc (Ai Γ.toTy 12 q_ q_ q_ q_ q_ (.row q_) (.lit (e:=Al) (l:=[46]) q_ q_) qc (by simp;omega) (by simp;omega)) q_ q_ ?_
   ((first|refine rG Γ hm ?_|refine rD Γ hm y_ ?_);(conv=>whnf);repeat((first|refine aF ?_|refine aT ?_);(first|refine rG Γ hm ?_|refine rD Γ hm y_ ?_);conv=>whnf))
   refine iL ?_
   ((conv=>whnf);repeat((first|refine aF ?_|refine aT ?_);(first|refine rG Γ hm ?_|refine rD Γ hm y_ ?_);conv=>whnf))
   refine iL ?_
   ((conv=>whnf);repeat((first|refine aF ?_|refine aT ?_);(first|refine rG Γ hm ?_|refine rD Γ hm y_ ?_);conv=>whnf))
   refine⟨by omega,?_⟩
   ((conv=>whnf);repeat((first|refine aF ?_|refine aT ?_);(first|refine rG Γ hm ?_|refine rD Γ hm y_ ?_);conv=>whnf))
   rw[hsh]
   refine Cc (Ad [(0,12),(1,1001)] q_ F300 q q_ ⟨q_,z_⟩ q_ ⟨.inl q_,.inr q_,z_⟩) q_ q_ ?_
   ((first|refine rG Γ hm ?_|refine rD Γ hm y_ ?_);(conv=>whnf);repeat((first|refine aF ?_|refine aT ?_);(first|refine rG Γ hm ?_|refine rD Γ hm y_ ?_);conv=>whnf))
   refine iL ?_
   ((conv=>whnf);repeat((first|refine aF ?_|refine aT ?_);(first|refine rG Γ hm ?_|refine rD Γ hm y_ ?_);conv=>whnf))
   exact Dk [(1000,1001)] hlt ⟨⟨q_,q_,q_,q_,q_,q_,z_⟩,⟨.inl (congrArg (Ob.row 1 Al) hsu),q_,z_⟩,q_,q_⟩
  ·have h0:¬ 0<j:=qB h
   rw[if_neg h0,List.append_nil]at hsu
   have q:=Qc (octN a j) u hob j_
   ((first|refine rG Γ hm ?_|refine rD Γ hm y_ ?_);(conv=>whnf);repeat((first|refine aF ?_|refine aT ?_);(first|refine rG Γ hm ?_|refine rD Γ hm y_ ?_);conv=>whnf))
   refine iL ?_
   ((conv=>whnf);repeat((first|refine aF ?_|refine aT ?_);(first|refine rG Γ hm ?_|refine rD Γ hm y_ ?_);conv=>whnf))
   refine iL ?_
   ((conv=>whnf);repeat((first|refine aF ?_|refine aT ?_);(first|refine rG Γ hm ?_|refine rD Γ hm y_ ?_);conv=>whnf))
   refine⟨by omega,?_⟩
   ((conv=>whnf);repeat((first|refine aF ?_|refine aT ?_);(first|refine rG Γ hm ?_|refine rD Γ hm y_ ?_);conv=>whnf))
   rw[hsh]
   refine Cc (Ad [(0,1000),(1,1001)] q_ F300 q q_ ⟨q_,z_⟩ q_ ⟨.inl q_,.inr q_,z_⟩) q_ q_ ?_
   ((first|refine rG Γ hm ?_|refine rD Γ hm y_ ?_);(conv=>whnf);repeat((first|refine aF ?_|refine aT ?_);(first|refine rG Γ hm ?_|refine rD Γ hm y_ ?_);conv=>whnf))
   refine iL ?_
   ((conv=>whnf);repeat((first|refine aF ?_|refine aT ?_);(first|refine rG Γ hm ?_|refine rD Γ hm y_ ?_);conv=>whnf))
   exact Dk [(1000,1001)] hlt ⟨⟨q_,q_,q_,q_,q_,q_,z_⟩,⟨.inl (congrArg (Ob.row 1 Al) hsu),q_,z_⟩,q_,q_⟩
 ·have:j=4:=qB h
  subst this
  subst hu
  ((first|refine rG Γ hm ?_|refine rD Γ hm y_ ?_);(conv=>whnf);repeat((first|refine aF ?_|refine aT ?_);(first|refine rG Γ hm ?_|refine rD Γ hm y_ ?_);conv=>whnf))
  refine Cc (Ce Γ.toTy (bs:=Jl a 4) q_ q_ q_ q_ q_ q_ q_ (.row q_)) q_ q_ ?_
  ((first|refine rG Γ hm ?_|refine rD Γ hm y_ ?_);(conv=>whnf);repeat((first|refine aF ?_|refine aT ?_);(first|refine rG Γ hm ?_|refine rD Γ hm y_ ?_);conv=>whnf))
  exact dN
end Go.Sy.YtgblchnfjbkipaaGreatDoor
namespace Go.Sy.YtgblchnfjbkipaaGreatDoor
open Go.Proofs
theorem C9 (a b:ByteArray):(a == b)=true↔a=b:=by
 cases a with
 | mk a =>
  cases b with
  | mk b =>
   show (a == b)=true↔_
   simp
instance:LawfulBEq ByteArray where
 eq_of_beq h:=(C9 _ _).1 h
 rfl:=(C9 _ _).2 rfl
def Aay (c:UInt8):Bool:=decide (97≤c.toNat) && decide (c.toNat≤122)
def Acl:List UInt8→Bool
 | []=>false
 | c::l=>Aay c && l.all fun c=>Aay c || D1 c
def Ak (s:ByteArray):Bool:=Acl s.data.toList && decide (s.size≤12)
def Ko (s:ByteArray) (i:Nat):Bool:=decide (digI (An s (3 * i))≤15) && decide (digI (An s (3 * i+1))≤15) && (decide (5≤i) || decide ((An s (3 * i+2)).toNat=58))
def Kn (s:ByteArray):Nat→Int
 | 0=>0
 | i+1=>Kn s i * 256+digI (An s (3 * i)) * 16+digI (An s (3 * i+1))
def macR (s:ByteArray):Int × Bool:=if s.size=17∧(List.range 6).all (Ko s)=true then (Kn s 6,true) else (0,false)
def Ht (m:Int):Bool:=decide (m % 281474976710656 / 4294967296=512)
def statB (m:Int):Bool:=decide (m≤281474976710655) && !(Ht m) && !(Tg m.toNat)
def C2 (one:ByteArray→Int × Bool):List Int→List ByteArray→List Int × Bool
 | out,[]=>(out,true)
 | out,p::r=>if (one p).2=false∨out.length=16∨(∃ x,out.getLast? = some x∧(one p).1≤x) then ([],false) else C2 one (out++[(one p).1]) r
def C3 (one:ByteArray→Int × Bool) (s:ByteArray):List Int × Bool:=C2 one [] (A3 44 s)
def dash:ByteArray:=⟨#[45]⟩
def listR (most:Int) (s:ByteArray):List Int × Bool:=if s=dash then ([],true) else C3 (fun p=>numR p 1 most) s
def Cg (s:ByteArray):List Int × Bool:=C3 Bn s
def prefixR (s:ByteArray):(Int × Int) × Bool :=
 if (cutT 47 s).2.2=false∨(Bn (cutT 47 s).1).2=false∨(smallT (cutT 47 s).2.1 32).2=false then ((0,0),false) else (((Bn (cutT 47 s).1).1,(smallT (cutT 47 s).2.1 32).1),true)
def subnetB (a bits:Int):Bool:=decide (1≤bits) && decide (bits≤30) && decide (a≠Ip a bits) && decide (a≠Ot a bits)
def Ar:List (Bool × Int)→Int
 | []=>0
 | (b,e)::l=>if b=true then e else Ar l
def Ae (cur:Int) (b:Bool) (e:Int):Int:=if b=true∧cur=0 then e else cur
def kindL (s:ByteArray):Int :=
 if s=⟨#[100,101,118,105,99,101]⟩ then 1 else if s=⟨#[112,111,114,116]⟩ then 2 else if s=⟨#[108,105,110,107]⟩ then 3 else if s=⟨#[115,116,97,116,105,99]⟩ then 4
 else if s=⟨#[118,116,101,112]⟩ then 5 else if s=⟨#[118,110,105]⟩ then 6 else if s=⟨#[102,108,111,111,100]⟩ then 7 else if s=⟨#[118,114,102]⟩ then 8 else if s=⟨#[105,114,98]⟩ then 9 else 0
def accessT:ByteArray:=⟨#[97,99,99,101,115,115]⟩
def trunkT:ByteArray:=⟨#[116,114,117,110,107]⟩
def wdT (w:List ByteArray) (i:Nat):ByteArray:=(w[i]?).getD ⟨#[]⟩
def manyB (k:Int) (w:List ByteArray):Bool :=
 if k=0 then false
 else if k=2 then (if w.length<6 then false else if wdT w 4=accessT then decide (w.length=6) else if wdT w 4=trunkT then decide (w.length=7) else decide (w.length≤7))
 else if k=3∨k=4∨k=8∨k=9 then decide (w.length=5) else if k=5 then decide (w.length=3) else decide (w.length=4)
def membersB (vlan:Int) (tagged:List Int):Bool:=(decide (0<vlan) || !tagged.isEmpty) && !(tagged.contains vlan)
def lineZ:LineM:=⟨0,0,⟨#[]⟩,⟨#[]⟩,⟨#[]⟩,⟨#[]⟩,⟨#[]⟩,0,0,0,0,0,0,[],[],[],[]⟩
def Bg (s:ByteArray):Int × Bool:=numR s 1 4094
def Jm (s:ByteArray):Int × Bool:=numR s 1 16777215
def Cw (w:List ByteArray):Int × List Int × List (Bool × Int) :=
 if wdT w 4=accessT then ((Bg (wdT w 5)).1,[],[(!(Bg (wdT w 5)).2,21)])
 else if wdT w 4=trunkT then
  (if wdT w 5=dash then (0,(listR 4094 (wdT w 6)).1,[(!(listR 4094 (wdT w 6)).2,21)])
   else ((Bg (wdT w 5)).1,(listR 4094 (wdT w 6)).1,[(!(Bg (wdT w 5)).2,21),(!(listR 4094 (wdT w 6)).2,21)]))
 else (0,[],[])
def Ay (w:List ByteArray) (row:Int):LineM × List (Bool × Int) :=
 let n:=fun i=>(!(Ak (wdT w i)),(20:Int))
 let k:=kindL (wdT w 0)
 if k=1 then ({ lineZ with row:=row,kind:=1,dev:=wdT w 1,num:=(numR (wdT w 2) 0 65535).1,mac:=(macR (wdT w 3)).1 },[n 1,(!(numR (wdT w 2) 0 65535).2,21),(!((macR (wdT w 3)).2 && statB (macR (wdT w 3)).1),21)])
 else if k=2 then ({ lineZ with row:=row,kind:=2,dev:=wdT w 1,port:=wdT w 2,cost:=(numR (wdT w 3) 1 65535).1,vlan:=(Cw w).1,tagged:=(Cw w).2.1 },
  [n 1,n 2,(!(numR (wdT w 3) 1 65535).2,21),(decide (wdT w 4≠accessT) && decide (wdT w 4≠trunkT),20)]++(Cw w).2.2++[(!(membersB (Cw w).1 (Cw w).2.1),21)])
 else if k=3 then ({ lineZ with row:=row,kind:=3,dev:=wdT w 1,port:=wdT w 2,peer:=wdT w 3,far:=wdT w 4 },[n 1,n 2,n 3,n 4])
 else if k=4 then ({ lineZ with row:=row,kind:=4,dev:=wdT w 1,vlan:=(Bg (wdT w 2)).1,mac:=(macR (wdT w 3)).1,port:=wdT w 4 },[n 1,(!(Bg (wdT w 2)).2,21),(!((macR (wdT w 3)).2 && statB (macR (wdT w 3)).1),21),n 4])
 else if k=5 then ({ lineZ with row:=row,kind:=5,dev:=wdT w 1,addr:=(Bn (wdT w 2)).1 },[n 1,(!((Bn (wdT w 2)).2 && decide ((Bn (wdT w 2)).1≠0)),21)])
 else if k=6 then ({ lineZ with row:=row,kind:=6,dev:=wdT w 1,vlan:=(Bg (wdT w 2)).1,num:=(Jm (wdT w 3)).1 },[n 1,(!(Bg (wdT w 2)).2,21),(!(Jm (wdT w 3)).2,21)])
 else if k=7 then ({ lineZ with row:=row,kind:=7,dev:=wdT w 1,num:=(Jm (wdT w 2)).1,addrs:=(Cg (wdT w 3)).1 },[n 1,(!(Jm (wdT w 2)).2,21),(!((Cg (wdT w 3)).2 && decide ((Cg (wdT w 3)).1.head? ≠ some 0)),21)])
 else if k=8 then ({ lineZ with row:=row,kind:=8,dev:=wdT w 1,name:=wdT w 2,imports:=(listR 65535 (wdT w 3)).1,exports:=(listR 65535 (wdT w 4)).1 },[n 1,n 2,(!(listR 65535 (wdT w 3)).2,21),(!(listR 65535 (wdT w 4)).2,21)])
 else ({ lineZ with row:=row,kind:=9,dev:=wdT w 1,vlan:=(Bg (wdT w 2)).1,name:=wdT w 3,addr:=(prefixR (wdT w 4)).1.1,bits:=(prefixR (wdT w 4)).1.2 },
  [n 1,(!(Bg (wdT w 2)).2,21),n 3,(!((prefixR (wdT w 4)).2 && subnetB (prefixR (wdT w 4)).1.1 (prefixR (wdT w 4)).1.2),21)])
def A2 (w:List ByteArray) (row:Int):LineM × Int :=
 if w=[]∨manyB (kindL (wdT w 0)) w=false then (lineZ,22) else if Ar (Ay w row).2≠0 then (lineZ,Ar (Ay w row).2) else ((Ay w row).1,0)
def C6 (cur:List UInt8):List ByteArray:=if cur=[] then [] else [mkT cur]
def B7:List UInt8→List UInt8→List ByteArray
 | cur,[]=>C6 cur
 | cur,c::r=>if c=35 then C6 cur else if c=32∨c=9 then C6 cur++B7 [] r else B7 (cur++[c]) r
def Tv (c:UInt8):Bool:=decide (32<c.toNat) && decide (c.toNat≤126) && decide (c.toNat≠35)
def wordB (s:ByteArray):Bool:=decide (0<s.size) && decide (s.size≤40) && s.data.toList.all Tv
def wordsT (row:ByteArray):List ByteArray × Int:=if (B7 [] row.data.toList).all wordB=true then (B7 [] row.data.toList,0) else ([],20)
def K7:Nat→List ByteArray→List LineM→List LineM × Int × Int
 | _,[],out=>(out,0,0)
 | i,r::rs,out =>
  if (wordsT r).2≠0 then ([],(i:Int)+1,(wordsT r).2) else if (wordsT r).1=[] then K7 (i+1) rs out
  else if (A2 (wordsT r).1 ((i:Int)+1)).2≠0 then ([],(i:Int)+1,(A2 (wordsT r).1 ((i:Int)+1)).2) else K7 (i+1) rs (out++[(A2 (wordsT r).1 ((i:Int)+1)).1])
def textT (b:List UInt8):List LineM × Int × Int:=if (rowsT b).2≠0 then ([],0,(rowsT b).2) else K7 0 (rowsT b).1 []
def Oy (d:Nat):UInt8:=if d<10 then UInt8.ofNat (48+d) else UInt8.ofNat (87+d)
def byteN (m j:Nat):Nat:=m / 256 ^ (5-j) % 256
def Qj (m:Nat):Nat→List UInt8
 | 0=>[]
 | j+1=>Qj m j++(if 0<j then [58] else [])++[Oy (byteN m j / 16),Oy (byteN m j % 16)]
def Ij (m:Int):ByteArray:=mkT (Qj m.toNat 6)
def comma:ByteArray:=⟨#[44]⟩
def Oo (l:List Int):ByteArray:=D8 (l.map A8) comma
def Hy (l:List Int):ByteArray:=D8 (l.map C8) comma
def Dh (l:List Int):ByteArray:=if l=[] then dash else Oo l
def D5 (a bits:Int):ByteArray:=if 0≤bits∧bits≤32 then mkT ((C8 a).data.toList++[47]++(revDigs bits.toNat).reverse) else ⟨#[]⟩
def Jp (l:LineM):List ByteArray :=
 if l.tagged=[] then [⟨#[112,111,114,116]⟩,l.dev,l.port,A8 l.cost,accessT,A8 l.vlan]
 else [⟨#[112,111,114,116]⟩,l.dev,l.port,A8 l.cost,trunkT,if l.vlan=0 then dash else A8 l.vlan,Dh l.tagged]
def Ax (l:LineM):List ByteArray :=
 if l.kind=1 then [⟨#[100,101,118,105,99,101]⟩,l.dev,A8 l.num,Ij l.mac]
 else if l.kind=2 then Jp l
 else if l.kind=3 then [⟨#[108,105,110,107]⟩,l.dev,l.port,l.peer,l.far]
 else if l.kind=4 then [⟨#[115,116,97,116,105,99]⟩,l.dev,A8 l.vlan,Ij l.mac,l.port]
 else if l.kind=5 then [⟨#[118,116,101,112]⟩,l.dev,C8 l.addr]
 else if l.kind=6 then [⟨#[118,110,105]⟩,l.dev,A8 l.vlan,A8 l.num]
 else if l.kind=7 then [⟨#[102,108,111,111,100]⟩,l.dev,A8 l.num,Hy l.addrs]
 else if l.kind=8 then [⟨#[118,114,102]⟩,l.dev,l.name,Dh l.imports,Dh l.exports]
 else if l.kind=9 then [⟨#[105,114,98]⟩,l.dev,A8 l.vlan,l.name,D5 l.addr l.bits]
 else []
def T7 (a b:LineM):Bool :=
 a.row == b.row && (a.kind == b.kind && (a.dev == b.dev && (a.port == b.port && (a.peer == b.peer && (a.far == b.far && (a.name == b.name && (a.mac == b.mac && (a.addr == b.addr && (a.bits == b.bits &&
 (a.vlan == b.vlan && (a.num == b.num && (a.cost == b.cost && (a.tagged == b.tagged && (a.imports == b.imports && (a.exports == b.exports && a.addrs == b.addrs)))))))))))))))
def A4 (n lo hi:Int):Bool:=decide (lo≤n) && decide (n≤hi)
abbrev Es (l:List Int) (hi:Int):Bool:=Ack l hi
def Hz (l:List Int):Bool:=(List.range l.length).all (fun i=>decide (l.getD i 0≠0) && (i == 0 || decide (l.getD (i-1) 0<l.getD i 0))) && (decide (0<l.length) && decide (l.length≤16))
def Az (l:LineM):LineM × Bool :=
 let u:LineM:={ lineZ with row:=l.row,kind:=l.kind,dev:=l.dev }
 if l.kind=1 then ({ u with num:=l.num,mac:=l.mac },A4 l.num 0 65535 && statB l.mac)
 else if l.kind=2 then ({ u with port:=l.port,cost:=l.cost,vlan:=l.vlan,tagged:=l.tagged },Ak l.port && (A4 l.cost 1 65535 && (A4 l.vlan 0 4094 && (Es l.tagged 4094 && membersB l.vlan l.tagged))))
 else if l.kind=3 then ({ u with port:=l.port,peer:=l.peer,far:=l.far },Ak l.port && (Ak l.peer && Ak l.far))
 else if l.kind=4 then ({ u with vlan:=l.vlan,mac:=l.mac,port:=l.port },A4 l.vlan 1 4094 && (statB l.mac && Ak l.port))
 else if l.kind=5 then ({ u with addr:=l.addr },decide (l.addr≠0))
 else if l.kind=6 then ({ u with vlan:=l.vlan,num:=l.num },A4 l.vlan 1 4094 && A4 l.num 1 16777215)
 else if l.kind=7 then ({ u with num:=l.num,addrs:=l.addrs },A4 l.num 1 16777215 && Hz l.addrs)
 else if l.kind=8 then ({ u with name:=l.name,imports:=l.imports,exports:=l.exports },Ak l.name && (Es l.imports 65535 && Es l.exports 65535))
 else if l.kind=9 then ({ u with vlan:=l.vlan,name:=l.name,addr:=l.addr,bits:=l.bits },A4 l.vlan 1 4094 && (Ak l.name && subnetB l.addr l.bits))
 else (u,false)
def Br (l:LineM):Bool:=(Az l).2 && (Ak l.dev && T7 (Az l).1 l)
def space:ByteArray:=⟨#[32]⟩
def C1:List LineM→List UInt8→List UInt8 × Int
 | [],b=>(b,0)
 | x::l,b=>if Br x=false then ([],2) else C1 l (b++(D8 (Ax x) space).data.toList++[10])
def plainT (l:List LineM):List UInt8 × Int :=
 if (C1 l []).2≠0 then ([],(C1 l []).2) else if 400<l.length∨20000<(C1 l []).1.length then ([],3) else ((C1 l []).1,0)
def orderT (b:List UInt8):List UInt8 × Int × Int :=
 if (textT b).2.2≠0 then ([],(textT b).2.1,(textT b).2.2) else ((plainT (Ao (textT b).1)).1,0,(plainT (Ao (textT b).1)).2)
def Ls (l:LineM):LineM:={ l with row:=0 }
theorem Zk {α:Type} (lt:α→α→Bool) (x:α) (l:List α):(H6 lt x l).Perm (x::l):=by
 unfold H6
 refine List.perm_middle.trans ?_
 rw[List.take_append_drop]
theorem Jb {α:Type} (lt:α→α→Bool):∀ (l out:List α),(Bd lt out l).Perm (out++l)
 | [],out=>by rw[Bd,List.append_nil]
 | x::l,out=>by
  rw[Bd]
  exact(Jb lt l _).trans ((List.Perm.append_right l (Zk lt x out)).trans List.perm_middle.symm)
theorem M9 {α:Type} (lt:α→α→Bool) (l:List α):(Au lt l).Perm l:=Jb lt l []
theorem Ba {x:Int} {l:List Int} (h:orI (x::l)=0):x=0∧orI l=0:=by
 rw[Us]at h
 unfold Ez at h
 by_cases h0:x=0
 ·rw[if_neg j_]at h;exact⟨h0,h⟩
 ·rw[if_pos h0]at h;exact absurd h h0
def KindOK (l:LineM):Prop:=1≤l.kind∧l.kind≤9
theorem Yx:∀ a b:Fin 10,stepI (a.1:Int)=stepI (b.1:Int)→1≤a.1→1≤b.1→a.1=b.1:=by decide +kernel
theorem Yw {a b:Int} (ha:1≤a∧a≤9) (hb:1≤b∧b≤9) (h:stepI a=stepI b):a=b:=by
 have:=Yx ⟨a.toNat,by omega⟩ ⟨b.toNat,by omega⟩
 dsimp only at this
 rw[Int.toNat_of_nonneg j_,Int.toNat_of_nonneg j_]at this
 have:=this h j_ j_
 omega
theorem Xj {a b:LineM} (ha:KindOK a) (hb:KindOK b) (h:Jf a b=0):Ls a=Ls b:=by
 obtain ⟨h1,h⟩:=Ba h
 obtain ⟨h2,h⟩:=Ba h
 obtain ⟨h3,h⟩:=Ba h
 obtain ⟨h4,_⟩:=Ba h
 obtain ⟨n1,h2⟩:=Ba h2
 obtain ⟨n2,h2⟩:=Ba h2
 obtain ⟨n3,h2⟩:=Ba h2
 obtain ⟨n4,h2⟩:=Ba h2
 obtain ⟨n5,_⟩:=Ba h2
 obtain ⟨u1,h3⟩:=Ba h3
 obtain ⟨u2,h3⟩:=Ba h3
 obtain ⟨u3,h3⟩:=Ba h3
 obtain ⟨u4,h3⟩:=Ba h3
 obtain ⟨u5,h3⟩:=Ba h3
 obtain ⟨u6,_⟩:=Ba h3
 obtain ⟨l1,h4⟩:=Ba h4
 obtain ⟨l2,h4⟩:=Ba h4
 obtain ⟨l3,h4⟩:=Ba h4
 obtain ⟨l4,_⟩:=Ba h4
 have k:=Yw ha hb (Bp h1)
 have n1:=En n1
 have n2:=En n2
 have n3:=En n3
 have n4:=En n4
 have n5:=En n5
 have u1:=Bp u1
 have u2:=Bp u2
 have u3:=Bp u3
 have u4:=Bp u4
 have u5:=Bp u5
 have u6:=Bp u6
 have l1:=Dj (fun x y=>Bp) _ _ l1
 have l2:=Dj (fun x y=>Bp) _ _ l2
 have l3:=Dj (fun x y=>Bp) _ _ l3
 have l4:=Dj (fun x y=>Bp) _ _ l4
 cases a;cases b
 dsimp only at *
 subst k n1 n2 n3 n4 n5 u1 u2 u3 u4 u5 u6 l1 l2 l3 l4
 rfl
theorem Cq (l:List LineM):(Cv l).length=l.length:=by simp[Cv]
theorem Ek (l:List LineM) (i:Nat) (h:i<(Cv l).length):(Cv l)[i]={ l[i]'(by rw[Cq]at h;exact h) with row:=(i:Int)+1 }:=by simp[Cv]
theorem Zg (a b:LineM) (i j:Int):Cj { a with row:=i } { b with row:=j }=Cj a b:=rfl
theorem Vb (a b:LineM):Cj (Ls a) (Ls b)=Cj a b:=rfl
theorem Qv {l:List LineM} (h:Srt Cj l):Srt Cj (Cv l):=by
 unfold Srt at h ⊢
 rw[List.pairwise_iff_getElem]at h ⊢
 intro i j hi hj hij
 rw[Ek,Ek,Zg]
 exact h i j (by rw[Cq]at hi;exact hi) (by rw[Cq]at hj;exact hj) hij
theorem Ub (l:List LineM):Cv (Cv l)=Cv l:=by
 apply List.ext_getElem
 ·rw[Cq]
 ·intro i h1 h2
  rw[Ek,Ek]
theorem Lx (l:List LineM):Cv (l.map Ls)=Cv l:=by
 apply List.ext_getElem
 ·rw[Cq,Cq,List.length_map]
 ·intro i h1 h2
  rw[Ek,Ek,List.getElem_map]
  rfl
theorem Wu (l:List LineM):Ao (Ao l)=Ao l:=by
 unfold Ao
 rw[Qy lineB_ordy _ _ rfl (Qv (Co lineB_ordy l)),Ub]
theorem Ja (l:List LineM):(Ao l).length=l.length:=by rw[Ao,Cq,Cp]
theorem Yz {l:List LineM} (hk:∀ x∈l,KindOK x):Ao l.reverse=Ao l:=by
 have key:(Au Cj l.reverse).map Ls=(Au Cj l).map Ls:=by
  refine List.Perm.eq_of_pairwise (le:=fun a b=>Cj b a=false) ?_ ?_ ?_ ?_
  ·intro a b ha hb h1 h2
   obtain ⟨x,hx,rfl⟩:=List.mem_map.1 ha
   obtain ⟨y,hy,rfl⟩:=List.mem_map.1 hb
   have hx:=hk x (List.mem_reverse.1 (C0 Cj _ _ hx))
   have hy:=hk y (C0 Cj _ _ hy)
   rw[Vb]at h1 h2
   have h1:=of_decide_eq_false h1
   have h2:=of_decide_eq_false h2
   have h3:=lineC_ok.anti x y
   have h4:=lineC_ok.anti y x
   exact Xj hx hy j_
  ·have:=Co lineB_ordy l.reverse
   unfold Srt at this
   rw[List.pairwise_map]
   exact this
  ·have:=Co lineB_ordy l
   unfold Srt at this
   rw[List.pairwise_map]
   exact this
  ·exact((M9 Cj _).trans ((List.reverse_perm l).trans (M9 Cj l).symm)).map Ls
 unfold Ao
 rw[← Lx,key,Lx]
def Cz (l:List LineM):Bool:=(List.range (l.length-1)).all fun j=>!(Cj (l.getD (j+1) ⟨0,0,⟨#[]⟩,⟨#[]⟩,⟨#[]⟩,⟨#[]⟩,⟨#[]⟩,0,0,0,0,0,0,[],[],[],[]⟩) (l.getD j ⟨0,0,⟨#[]⟩,⟨#[]⟩,⟨#[]⟩,⟨#[]⟩,⟨#[]⟩,0,0,0,0,0,0,[],[],[],[]⟩))
theorem Ki {l:List LineM} (h:∀ j (hj:j+1<l.length),Cj l[j+1] l[j]=false):Cz l=true:=by
 unfold Cz
 rw[List.all_eq_true]
 intro j hj
 have hj:j+1<l.length:=by have:=List.mem_range.1 hj;omega
 rw[List.getD_eq_getElem?_getD,List.getD_eq_getElem?_getD,List.getElem?_eq_getElem hj,List.getElem?_eq_getElem (by omega:j<l.length)]
 simp[h j hj]
theorem Un {l:List LineM} {j:Nat} (hj:j+1<l.length) (h:Cj l[j+1] l[j]=true):Cz l=false:=by
 unfold Cz
 rw[List.all_eq_false]
 refine⟨j,by rw[List.mem_range];omega,?_⟩
 rw[List.getD_eq_getElem?_getD,List.getD_eq_getElem?_getD,List.getElem?_eq_getElem hj,List.getElem?_eq_getElem (by omega:j<l.length)]
 simp[h]
theorem M8 (l:List LineM):Cz (Ao l)=true:=by
 refine Ki fun j hj=>?_
 have:=Qv (Co lineB_ordy l)
 unfold Srt at this
 rw[List.pairwise_iff_getElem]at this
 exact this j (j+1) (by unfold Ao at hj;omega) hj j_
def exA:List UInt8:=[112,111,114,116,32,97,32,112,32,49,32,97,99,99,101,115,115,32,49,48,10,100,101,118,105,99,101,32,97,32,49,32,48,48,58,48,48,58,48,48,58,48,48,58,48,48,58,48,49]
def exB:List UInt8:=[100,101,118,105,99,101,32,97,32,49,32,48,48,58,48,48,58,48,48,58,48,48,58,48,48,58,48,49,10,112,111,114,116,32,97,32,112,32,49,32,97,99,99,101,115,115,32,49,48,10]
set_option maxRecDepth 100000 in
theorem Aan:orderT exA=(exB,0,0):=by kernel_rfl
set_option maxRecDepth 100000 in
theorem L0:(textT exA).1=[{ lineZ with row:=1,kind:=2,dev:=⟨#[97]⟩,port:=⟨#[112]⟩,cost:=1,vlan:=10 },{ lineZ with row:=2,kind:=1,dev:=⟨#[97]⟩,num:=1,mac:=1 }]:=by kernel_rfl
end Go.Sy.YtgblchnfjbkipaaGreatDoor
namespace Go.Sy.YtgblchnfjbkipaaGreatDoor
open Go.Proofs
attribute [local irreducible] Go.Sy.G Go.Sy.DR
structure Bx (Q:Prop):Prop where out:Q
theorem sE {α:Sort _} {a b:α} {K:Prop} (e:a=b) (h:K):a=b∧K:=⟨e,h⟩
theorem xE {α:Sort _} {a b:α} {K:a=b→Prop} (e:a=b) (h:K e):∃ e:a=b,K e:=⟨e,h⟩
theorem sL {a b:Int} {K:Prop} (e:a≤b) (h:K):a≤b∧K:=⟨e,h⟩
theorem xL {a b:Int} {K:a≤b→Prop} (e:a≤b) (h:K e):∃ e:a≤b,K e:=⟨e,h⟩
theorem sM {a b:Nat} {K:Prop} (e:a≤b) (h:K):a≤b∧K:=⟨e,h⟩
theorem sT {a b:Nat} {K:Prop} (e:a<b) (h:K):a<b∧K:=⟨e,h⟩
theorem xT {a b:Nat} {K:a<b→Prop} (e:a<b) (h:K e):∃ e:a<b,K e:=⟨e,h⟩
theorem sN {a b:Int} {K:Prop} (e:a≠b) (h:K):a≠b∧K:=⟨e,h⟩
theorem sI {a:Int} {K:Prop} (e:I64 a) (h:K):I64 a∧K:=⟨e,h⟩
theorem ct {p q:Prop} {b:Bool} (h:q) (e:b=true→False:=by
 intro _h
 first | exact absurd _h qc | exact Bool.false_ne_true (Eq.trans (Eq.symm (by with_reducible assumption)) _h) | (simp at _h;done) | (simp at _h;omega)):(b=true→p)∧(b=false→q):=⟨fun x=>(e x).elim,fun _=>h⟩
theorem cf {p q:Prop} {b:Bool} (h:p) (e:b=false→False:=by
 intro _h
 first | exact absurd _h qc | exact Bool.false_ne_true (Eq.trans (Eq.symm _h) (by with_reducible assumption)) | (simp at _h;done) | (simp at _h;omega)):(b=true→p)∧(b=false→q):=⟨fun _=>h,fun x=>(e x).elim⟩
theorem S {P Q:Prop} (h:Q) (e:Bx Q→P:=by
 intro hb
 first | refine rg ?_ | refine rd y_ ?_ | skip
 conv=>whnf
 repeat (first
  | ((first | refine aF ?_ | refine aT ?_ | refine ct ?_ | refine cf ?_);(first | refine rg ?_ | refine rd y_ ?_);(conv=>whnf))
  | ((first | refine⟨(by kernel_rfl:Tn _ _=true),?_⟩ | refine sI (by unfold I64;omega) ?_);(conv=>whnf)))
 exact hb.out):P:=e ⟨h⟩
theorem T {P Q:Prop} (h:Q) (e:Bx Q→P:=by
 intro hb
 refine S ?_
 repeat ((first | refine sE (by exact rfl) ?_ | refine sL (by first | omega | decide) ?_ | refine xL (by first | omega | decide) ?_ | refine sT (by first | omega | decide) ?_ | refine xT (by first | omega | decide) ?_ | refine sM (by first | omega | decide) ?_ | refine sN (by first | omega | decide) ?_ | refine xE (by exact rfl) ?_);refine S ?_)
 exact hb.out):P:=e ⟨h⟩
theorem D {P:Prop} (h:P:=by
 apply Bo
 ·exact q_
 ·(repeat (first | exact ResVs.nil | (apply ResVs.cons;(first | exact .tmp | exact .cell rfl rfl rfl rfl))))
 ·exact q_
 ·exact q_):P:=h
theorem U {P:Prop} (h:P:=by
 refine⟨?_,?_,q_,q_⟩
 ·repeat (first | exact trivial | exact rfl | refine⟨rfl,rfl,?_⟩)
 ·repeat (first | exact trivial | refine⟨.inl rfl,rfl,?_⟩ | refine⟨.inr rfl,rfl,?_⟩)):P:=h
theorem doneE {P:Program} {fn:Func} {F:Fr} {R:SV} {H':Obs} {Γ:Go.Sy.Ty P} {n:Nat} {bn:List Nat} {hbn:∀ k,F.k0 k≠.new→k∈bn} {k:List KI} {s:SS} {rs:List ResultVar} (hf:fn.results=rs.toArray) {xs:List SV} (hx:ResVs Γ.get s rs xs)
  (hR:R.ren (Ap [])=Qn xs) (hRn:R.inn (Obs.keys H')=true) (hsub:Sub ⟨P,Γ,F,n,I7 P fn F R H',bn,hbn⟩ s [] [] H'):G ⟨P,Γ,F,n,I7 P fn F R H',bn,hbn⟩ (.code .ret::k) s:=done hf hx [] H' (fun _ h=>h) hR hRn hsub
theorem doneF {P:Program} {fn:Func} {F:Fr} {R:SV} {H':Obs} {Γ:Go.Sy.Ty P} {n:Nat} {bn:List Nat} {hbn:∀ k,F.k0 k≠.new→k∈bn} {s:SS} {rs:List ResultVar} (hf:fn.results=rs.toArray) {xs:List SV} (hx:ResVs Γ.get s rs xs)
  (hR:R.ren (Ap [])=Qn xs) (hRn:R.inn (Obs.keys H')=true) (hsub:Sub ⟨P,Γ,F,n,I7 P fn F R H',bn,hbn⟩ s [] [] H'):G ⟨P,Γ,F,n,I7 P fn F R H',bn,hbn⟩ [] s:=Bl hf hx [] H' (fun _ h=>h) hR hRn hsub
theorem E0 {P:Prop} (h:P:=by
 first | apply doneE | apply doneF
 ·exact q_
 ·(repeat (first | exact ResVs.nil | (apply ResVs.cons;(first | exact .tmp | exact .cell rfl rfl rfl rfl))))
 ·exact q_
 ·exact q_
 ·exact U):P:=h
theorem W {P:Prop} (h:P:=by
 repeat (first | exact trivial | exact rfl | refine⟨rfl,?_⟩)):P:=h
theorem V {P:Prop} (h:P:=by
 repeat (first | exact trivial | refine⟨.inl rfl,?_⟩ | refine⟨.inr rfl,?_⟩)):P:=h
theorem C {P:Program} {f:FuncId} {fn:Func} {c:Code} {A:List SV} {R:SV} {Z Q:Prop} (hs:Sy.Spec P f A [] R []) (hf:Fun P f fn c) (h:Q) (e:Sy.Spec P f A [] R []→Fun P f fn c→Bx Q→Z:=by
 intro hs hf hb
 first | refine Acm hs hf rfl rfl rfl rfl rfl ?_ | refine Abm hs hf rfl rfl rfl y_ rfl ?_
 refine T ?_
 exact hb.out):Z:=e hs hf ⟨h⟩
theorem X {C:Cx} {k:List KI} {s:SS} {all:Array Oper} {o:Oper} {rest:List Oper} {V:Up} {Q:Prop} (hg:Good C.P o s V) (h:Q) (hd:Jk C.n o=true:=by exact rfl) (hw:B6 C.n all o s=some true:=by exact rfl) (e:Bx Q→G C (.ops all rest::k) (s.upd o.dst V):=by
 intro hb
 refine T ?_
 exact hb.out):G C (.ops all (o::rest)::k) s:=Cc hg hd hw (e ⟨h⟩)
theorem Xd {C:Cx} {k:List KI} {s:SS} {all:Array Oper} {done:List Stp} {o:Oper} {rest:List Oper} {V:Up} {Q:Prop} (hg:Good C.P o s V) (h:Q) (hi:all[done.length]? = some o:=by kernel_rfl) (hw:B6 C.n all o s=some true:=by exact rfl) (hn:(Dm o || E7 o)=false:=by exact rfl) (e:Bx Q→DR C k all (done++[⟨done.length,o,V,true⟩]) rest (s.upd o.dst V):=by
 intro hb
 refine T ?_
 exact hb.out):DR C k all done (o::rest) s:=X5 hg hi hw (e ⟨h⟩) hn
theorem Xe {C:Cx} {k:List KI} {s:SS} {all:Array Oper} {done:List Stp} {o:Oper} {rest:List Oper} {V:Up} {Q:Prop} (hg:Good C.P o s V) (h:Q) (hk:KeepL s V.objs:=by exact W) (hi:all[done.length]? = some o:=by kernel_rfl) (hw:B6 C.n all o s=some true:=by exact rfl) (hn:(Dm o || E7 o)=false:=by exact rfl) (e:Bx Q→DR C k all (done++[⟨done.length,o,⟨V.v,V.rd++V.ws,[]⟩,true⟩]) rest (s.upd o.dst ⟨V.v,V.rd++V.ws,[]⟩):=by
 intro hb
 refine T ?_
 exact hb.out):DR C k all done (o::rest) s:=stepD2 hg hk hi hw (e ⟨h⟩) hn
end Go.Sy.YtgblchnfjbkipaaGreatDoor
namespace Go.Sy.YtgblchnfjbkipaaGreatDoor
open Go.Proofs
attribute [local irreducible] Go.Sy.G Go.Sy.DR
set_option maxRecDepth 100000
set_option maxHeartbeats 4000000
theorem Em (a:ByteArray):Sy.Spec Tryz.prog 230 [Ac a] [] (Af false) []:=cT F230 Tryz.ntmps230 fun F hF=>by
 refine T ?_
 exact Bo q_ (.cons .tmp .nil) (congrArg Af qd) q_
theorem El (a:Int):Sy.Spec Tryz.prog 232 [A1 a] [] (Af false) []:=cT F232 Tryz.ntmps232 fun F hF=>by
 refine T ?_
 exact Bo q_ (.cons .tmp .nil) (congrArg Af qd) q_
theorem Ed (a b:ByteArray):Sy.Spec Tryz.prog 171 [Ac a,Ac b] [] (Aa (Hf a b)) []:=cT F171 Tryz.ntmps171 fun F hF=>by
 have l1:=Kq a.data.toList b.data.toList
 have l2:=Kq b.data.toList a.data.toList
 have han:=cmpB_ok.anti a b
 have han2:=cmpB_ok.anti b a
 have hv:=Abk (a:=a.data.toList) (b:=b.data.toList)
 have hc:At Lj a.data.toList b.data.toList=Hf a b:=rfl
 have hc2:At Lj b.data.toList a.data.toList=Hf b a:=rfl
 rw[hc]at l1 hv
 rw[hc2]at l2
 rw[← Lib.toList_data,← Lib.toList_data]at l1 l2 hv
 by_cases h1:Hf a b<0
 ·have f1:Op.bytesLess a.toList b.toList=true:=by rw[l1];exact decide_eq_true h1
  have hr:Hf a b=-1:=by rw[hv,if_pos f1]
  rw[hr]
  refine T ?_
  refine C (Em a) F230 ?_
  refine C (Em b) F230 ?_
  exact D
 ·have f1:Op.bytesLess a.toList b.toList=false:=by rw[l1];exact decide_eq_false h1
  rw[f1,if_neg qd]at hv
  by_cases h2:0<Hf a b
  ·have hne:(a == b)=false:=by
    cases hx:(a == b)
    ·rfl
    ·have e:=(C9 _ _).1 hx
     rw[e,if_pos rfl]at hv
     rw[e]at h2;omega
   have f2:(!(Op.bytesLess a.toList b.toList || a == b))=true:=by rw[f1,hne];rfl
   have hr:Hf a b=1:=by
    rw[hv]
    split
    ·rename_i e
     rw[if_pos e]at hv;omega
    ·rfl
   rw[hr]
   refine T ?_
   refine C (Em a) F230 ?_
   refine C (Em b) F230 ?_
   exact D
  ·have hr:Hf a b=0:=by omega
   have f2:(!(Op.bytesLess a.toList b.toList || a == b))=false:=by rw[(C9 _ _).2 (En hr)];simp
   rw[hr]
   refine T ?_
   refine C (Em a) F230 ?_
   refine C (Em b) F230 ?_
   exact D
theorem Md (a b:Int):Sy.Spec Tryz.prog 173 [A1 a,A1 b] [] (Aa (A9 a b)) []:=cT F173 Tryz.ntmps173 fun F hF=>by
 by_cases h1:a<b
 ·have hr:A9 a b=-1:=by rw[A9,if_pos h1]
  have f1:decide (a<b)=true:=decide_eq_true h1
  rw[hr]
  refine T ?_
  refine C (El a) F232 ?_
  refine C (El b) F232 ?_
  exact D
 ·have f1:decide (a<b)=false:=decide_eq_false h1
  by_cases h2:a>b
  ·have hr:A9 a b=1:=by rw[A9,if_neg h1,if_pos h2]
   have f2:decide (a>b)=true:=decide_eq_true h2
   rw[hr]
   refine T ?_
   refine C (El a) F232 ?_
   refine C (El b) F232 ?_
   exact D
  ·have hr:A9 a b=0:=by rw[A9,if_neg h1,if_neg h2]
   have f2:decide (a>b)=false:=decide_eq_false h2
   rw[hr]
   refine T ?_
   refine C (El a) F232 ?_
   refine C (El b) F232 ?_
   exact D
theorem Xt (y:Int):A9 y y=0:=by simp[A9]
theorem Jy:∀ {j:Nat} {l m:List Int},j≤l.length→j≤m.length→l.take j=m.take j→At A9 l m=At A9 (l.drop j) (m.drop j)
 | 0,l,m,_,_,_=>by rw[List.drop_zero,List.drop_zero]
 | j+1,[],m,h,_,_=>by simp at h
 | j+1,x::l,[],_,h,_=>by simp at h
 | j+1,x::l,y::m,h1,h2,h=>by
  simp only[List.take_succ_cons,List.cons.injEq]at h
  rw[At,List.drop_succ_cons,List.drop_succ_cons,← Jy (by simpa using h1) (by simpa using h2) h.2,h.1,Xt]
  rfl
theorem Dr (l m:List Int) (hl:l.length≤1000000) (hm1:m.length≤1000000):Sy.Spec Tryz.prog 174 [.sl 1 Aa l,.sl 1 Aa m] [] (Aa (At A9 l m)) []:=cT F174 Tryz.ntmps174 fun F hF=>by
 refine T ?_
 refine Bv l.length (fun j=>j≤m.length∧l.take j=m.take j) (fun j=>[(0,.sl 1 Aa l),(1,.sl 1 Aa m),(9,.sl 1 Aa l),(10,Aa l.length),(11,Aa j)]) (fun _=>[]) [] ⟨by simp,q_⟩ U ?_
 intro j hj hI
 have hsk:=Jy hj hI.1 hI.2
 refine T ?_
 refine⟨fun h=>?_,fun h=>?_⟩
 ·have hlt:j<l.length:=qA h
  have hlt0:((j:Nat):Int).toNat<l.length:=hlt
  clear h
  rw[List.drop_eq_getElem_cons hlt]at hsk
  by_cases hjm:j<m.length
  ·have hjm0:((j:Nat):Int).toNat<m.length:=hjm
   rw[List.drop_eq_getElem_cons hjm,At]at hsk
   have q:=Do (l[((j:Nat):Int).toNat]'hlt0) (m[((j:Nat):Int).toNat]'hjm0)
   have hx:A9 (l[((j:Nat):Int).toNat]'hlt0) (m[((j:Nat):Int).toNat]'hjm0)=A9 l[j] m[j]:=rfl
   by_cases h0:A9 l[j] m[j]=0
   ·have f0:(A9 (l[((j:Nat):Int).toNat]'hlt0) (m[((j:Nat):Int).toNat]'hjm0) != 0)=false:=by rw[hx,h0];rfl
    refine T ?_
    refine C q F103 ?_
    refine By [] hI j_ ⟨hjm,?_⟩ U
    rw[List.take_succ_eq_append_getElem hlt,List.take_succ_eq_append_getElem hjm,hI.2,Bp h0]
   ·have f0:(A9 (l[((j:Nat):Int).toNat]'hlt0) (m[((j:Nat):Int).toNat]'hjm0) != 0)=true:=by rw[hx,bne_iff_ne];exact h0
    rw[hsk,Ez,if_pos h0,← hx]
    refine T ?_
    refine C q F103 ?_
    exact D
  ·rw[List.drop_eq_nil_of_le (by omega:m.length≤j)]at hsk
   have hr:At A9 l m=1:=hsk
   rw[hr]
   refine T ?_
   exact D
 ·have hje:j=l.length:=qB h
  subst hje
  clear h
  rw[List.drop_length]at hsk
  by_cases h1:l.length<m.length
  ·rw[List.drop_eq_getElem_cons h1]at hsk
   have hr:At A9 l m=-1:=hsk
   rw[hr]
   refine T ?_
   exact D
  ·rw[List.drop_eq_nil_of_le j_]at hsk
   have hr:At A9 l m=0:=hsk
   rw[hr]
   refine T ?_
   exact D
theorem J8 (l m:List Int) (hl:l.length≤1000000) (hm1:m.length≤1000000):Sy.Spec Tryz.prog 175 [.sl 1 A1 l,.sl 1 A1 m] [] (Aa (At A9 l m)) []:=cT F175 Tryz.ntmps175 fun F hF=>by
 refine T ?_
 refine Bv l.length (fun j=>j≤m.length∧l.take j=m.take j) (fun j=>[(0,.sl 1 A1 l),(1,.sl 1 A1 m),(9,.sl 1 A1 l),(10,Aa l.length),(11,Aa j)]) (fun _=>[]) [] ⟨by simp,q_⟩ U ?_
 intro j hj hI
 have hsk:=Jy hj hI.1 hI.2
 refine T ?_
 refine⟨fun h=>?_,fun h=>?_⟩
 ·have hlt:j<l.length:=qA h
  have hlt0:((j:Nat):Int).toNat<l.length:=hlt
  clear h
  rw[List.drop_eq_getElem_cons hlt]at hsk
  by_cases hjm:j<m.length
  ·have hjm0:((j:Nat):Int).toNat<m.length:=hjm
   rw[List.drop_eq_getElem_cons hjm,At]at hsk
   have q:=Md (l[((j:Nat):Int).toNat]'hlt0) (m[((j:Nat):Int).toNat]'hjm0)
   have hx:A9 (l[((j:Nat):Int).toNat]'hlt0) (m[((j:Nat):Int).toNat]'hjm0)=A9 l[j] m[j]:=rfl
   by_cases h0:A9 l[j] m[j]=0
   ·have f0:(A9 (l[((j:Nat):Int).toNat]'hlt0) (m[((j:Nat):Int).toNat]'hjm0) != 0)=false:=by rw[hx,h0];rfl
    refine T ?_
    refine C q F173 ?_
    refine By [] hI j_ ⟨hjm,?_⟩ U
    rw[List.take_succ_eq_append_getElem hlt,List.take_succ_eq_append_getElem hjm,hI.2,Bp h0]
   ·have f0:(A9 (l[((j:Nat):Int).toNat]'hlt0) (m[((j:Nat):Int).toNat]'hjm0) != 0)=true:=by rw[hx,bne_iff_ne];exact h0
    rw[hsk,Ez,if_pos h0,← hx]
    refine T ?_
    refine C q F173 ?_
    exact D
  ·rw[List.drop_eq_nil_of_le (by omega:m.length≤j)]at hsk
   have hr:At A9 l m=1:=hsk
   rw[hr]
   refine T ?_
   exact D
 ·have hje:j=l.length:=qB h
  subst hje
  clear h
  rw[List.drop_length]at hsk
  by_cases h1:l.length<m.length
  ·rw[List.drop_eq_getElem_cons h1]at hsk
   have hr:At A9 l m=-1:=hsk
   rw[hr]
   refine T ?_
   exact D
  ·rw[List.drop_eq_nil_of_le j_]at hsk
   have hr:At A9 l m=0:=hsk
   rw[hr]
   refine T ?_
   exact D
theorem Og (k:Int):Sy.Spec Tryz.prog 104 [Aa k] [] (Aa (stepI k)) []:=cT F104 Tryz.ntmps104 fun F hF=>by
 have hs:=stepI.eq_1 k
 generalize stepI k=r at *
 by_cases c1:k=1
 ·rw[if_pos c1]at hs
  subst hs c1
  refine T ?_
  exact D
 rw[if_neg c1]at hs
 have b1:(k == 1)=false:=by simpa using c1
 by_cases c5:k=5
 ·rw[if_pos c5]at hs
  subst hs c5
  refine T ?_
  exact D
 rw[if_neg c5]at hs
 have b5:(k == 5)=false:=by simpa using c5
 by_cases c2:k=2
 ·rw[if_pos c2]at hs
  subst hs c2
  refine T ?_
  exact D
 rw[if_neg c2]at hs
 have b2:(k == 2)=false:=by simpa using c2
 by_cases c3:k=3
 ·rw[if_pos c3]at hs
  subst hs c3
  refine T ?_
  exact D
 rw[if_neg c3]at hs
 have b3:(k == 3)=false:=by simpa using c3
 by_cases c4:k=4
 ·rw[if_pos c4]at hs
  subst hs c4
  refine T ?_
  exact D
 rw[if_neg c4]at hs
 have b4:(k == 4)=false:=by simpa using c4
 by_cases c6:k=6
 ·rw[if_pos c6]at hs
  subst hs c6
  refine T ?_
  exact D
 rw[if_neg c6]at hs
 have b6:(k == 6)=false:=by simpa using c6
 by_cases c7:k=7
 ·rw[if_pos c7]at hs
  subst hs c7
  refine T ?_
  exact D
 rw[if_neg c7]at hs
 have b7:(k == 7)=false:=by simpa using c7
 by_cases c8:k=8
 ·rw[if_pos c8]at hs
  subst hs c8
  refine T ?_
  exact D
 rw[if_neg c8]at hs
 have b8:(k == 8)=false:=by simpa using c8
 by_cases c9:k=9
 ·rw[if_pos c9]at hs
  subst hs c9
  refine T ?_
  exact D
 rw[if_neg c9]at hs
 have b9:(k == 9)=false:=by simpa using c9
 subst hs
 refine T ?_
 exact D
theorem Uq (a b:LineM):Sy.Spec Tryz.prog 105 [Ab a,Ab b] [] (Aa (Td a b)) []:=cT F105 Tryz.ntmps105 fun F hF=>by
 refine T ?_
 refine C (Ed a.dev b.dev) F171 ?_
 refine C (Ed a.port b.port) F171 ?_
 refine C (Ed a.peer b.peer) F171 ?_
 refine C (Ed a.far b.far) F171 ?_
 refine C (Ed a.name b.name) F171 ?_
 refine Tp [30] (orS [Hf a.dev b.dev,Hf a.port b.port,Hf a.peer b.peer,Hf a.far b.far,Hf a.name b.name] (by simp[D0])) F102 q_ (.cons (.lit q_ q_ q_) .nil) q_ y_ q_ ?_
 refine T ?_
 exact D
theorem Qh (a b:LineM):Sy.Spec Tryz.prog 106 [Ab a,Ab b] [] (Aa (Km a b)) []:=cT F106 Tryz.ntmps106 fun F hF=>by
 refine T ?_
 refine C (Do a.vlan b.vlan) F103 ?_
 refine C (Do a.num b.num) F103 ?_
 refine C (Vr a.mac b.mac) F172 ?_
 refine C (Md a.addr b.addr) F173 ?_
 refine C (Do a.bits b.bits) F103 ?_
 refine C (Do a.cost b.cost) F103 ?_
 refine Tp [35] (orS [A9 a.vlan b.vlan,A9 a.num b.num,A9 a.mac b.mac,A9 a.addr b.addr,A9 a.bits b.bits,A9 a.cost b.cost] (by simp[D0])) F102 q_ (.cons (.lit q_ q_ q_) .nil) q_ y_ q_ ?_
 refine T ?_
 exact D
structure LineFin (l:LineM):Prop where
 t:l.tagged.length≤100000
 i:l.imports.length≤100000
 e:l.exports.length≤100000
 a:l.addrs.length≤100000
theorem Ur (a b:LineM) (ha:LineFin a) (hb:LineFin b):Sy.Spec Tryz.prog 107 [Ab a,Ab b] [] (Aa (Tf a b)) []:=cT F107 Tryz.ntmps107 fun F hF=>by
 have ht:=ha.t;have hi:=ha.i;have he:=ha.e;have haa:=ha.a
 have ht2:=hb.t;have hi2:=hb.i;have he2:=hb.e;have haa2:=hb.a
 refine T ?_
 refine C (Dr a.tagged b.tagged j_ j_) F174 ?_
 refine C (Dr a.imports b.imports j_ j_) F174 ?_
 refine C (Dr a.exports b.exports j_ j_) F174 ?_
 refine C (J8 a.addrs b.addrs j_ j_) F175 ?_
 refine Tp [25] (orS [At A9 a.tagged b.tagged,At A9 a.imports b.imports,At A9 a.exports b.exports,At A9 a.addrs b.addrs] (by simp[D0])) F102 q_ (.cons (.lit q_ q_ q_) .nil) q_ y_ q_ ?_
 refine T ?_
 exact D
theorem E5 (a b:LineM) (ha:LineFin a) (hb:LineFin b):Sy.Spec Tryz.prog 38 [Ab a,Ab b] [] (Aa (Jf a b)) []:=cT F38 Tryz.ntmps38 fun F hF=>by
 refine T ?_
 refine C (Og a.kind) F104 ?_
 refine C (Og b.kind) F104 ?_
 refine C (Do (stepI a.kind) (stepI b.kind)) F103 ?_
 refine C (Uq a b) F105 ?_
 refine C (Qh a b) F106 ?_
 refine C (Ur a b ha hb) F107 ?_
 refine Tp [21] (orS [A9 (stepI a.kind) (stepI b.kind),Td a b,Km a b,Tf a b] (by simp[D0])) F102 q_ (.cons (.lit q_ q_ q_) .nil) q_ y_ q_ ?_
 refine T ?_
 exact D
theorem W9 (a b:LineM) (ha:LineFin a) (hb:LineFin b):Sy.Spec Tryz.prog 19 [Ab a,Ab b] [] (Af (Cj a b)) []:=cT F19 Tryz.ntmps19 fun F hF=>by
 refine T ?_
 refine C (E5 a b ha hb) F38 ?_
 exact D
theorem Uo (a b:LineM) (ha:LineFin a) (hb:LineFin b):Sy.Spec Tryz.prog 37 [Ab a,Ab b] [] (Aa (Jf a b)) []:=cT F37 Tryz.ntmps37 fun F hF=>by
 refine T ?_
 refine C (E5 a b ha hb) F38 ?_
 exact D
theorem Jo (D:List LineM) (a b n:Nat) (cmp:SV) (hc:cmp.inn [0]=true) (ha:a+n≤b) (hb:b+n≤D.length) (hl:D.length<1000000) :
  Sy.Spec Tryz.prog 287 [.osl 0,Aa a,Aa b,Aa n,cmp] [(0,.row 17 Ab D)] (.tup []) [(0,.row 17 Ab (M4 n D a b))]:=cT F287 Tryz.ntmps287 fun F hF=>by
 rw[Z5]
 refine T ?_
 refine Df n (fun j=>[(0,.osl 0),(1,Aa a),(2,Aa b),(3,Aa n),(10,Aa j)]) (fun j=>[(0,.row 17 Ab (swapP j D a b))]) [] U ?_
 intro j hj
 have hlen:=Qr j D a b
 have hnx:=swapP.eq_2 D a b j
 refine T ?_
 refine⟨fun h=>?_,fun h=>?_⟩
 ·have hlt:j<n:=qA h
  generalize swapP j D a b=A at *
  have ea:((a:Int)+(j:Int)).toNat=a+j:=by omega
  have eb:((b:Int)+(j:Int)).toNat=b+j:=by omega
  have ha0:((a:Int)+(j:Int)).toNat<A.length:=by omega
  have hb0:((b:Int)+(j:Int)).toNat<A.length:=by omega
  rw[Z6 j_ j_]at hnx
  have hfin:swapP (j+1) D a b=(A.set ((a:Int)+(j:Int)).toNat (A[((b:Int)+(j:Int)).toNat]'hb0)).set ((b:Int)+(j:Int)).toNat (A[((a:Int)+(j:Int)).toNat]'ha0):=by
   simp only[ea,eb];exact hnx
  clear h hnx
  have hls:(A.set ((a:Int)+(j:Int)).toNat (A[((b:Int)+(j:Int)).toNat]'hb0)).length=A.length:=List.length_set
  have hbs:((b:Int)+(j:Int)).toNat<(A.set ((a:Int)+(j:Int)).toNat (A[((b:Int)+(j:Int)).toNat]'hb0)).length:=by rw[hls];exact hb0
  refine T ?_
  refine⟨A[((b:Int)+(j:Int)).toNat]'hb0,q_,q_,?_⟩
  refine T ?_
  refine⟨A[((a:Int)+(j:Int)).toNat]'ha0,q_,q_,?_⟩
  refine T ?_
  refine Dk [] hlt ⟨⟨q_,q_,q_,q_,q_,q_,q_,q_,q_,q_,z_⟩,⟨.inl (congrArg (Ob.row 17 Ab) hfin),q_,z_⟩,q_,q_⟩
 ·have hjj:j=n:=qB h
  subst hjj
  refine T ?_
  exact Bl q_ .nil [] [(0,.row 17 Ab (swapP j D a b))] (fun _ h=>h) q_ q_ ⟨z_,⟨.inl q_,q_,z_⟩,q_,q_⟩
def Abt (Z:List LineM) (m:Nat) (x:List LineM × List LineM × List LineM × List LineM):Prop:=x.1++(x.2.2.1++(x.2.1++x.2.2.2))=Z∧x.1.length+x.2.1.length=m∧0<x.2.1.length∧0<x.2.2.1.length
theorem Abx (P U V B:List LineM) (f:FuncId) (first cap:List SV) (hc:(SV.clo (.func f) first cap).inn [0]=true) (hu:0<U.length) (hv:0<V.length) (hl:(P++(U++(V++B))).length<1000000) (m b:Nat) (hm1:m=P.length+U.length) (hb1:b=m+V.length) :
  Sy.Spec Tryz.prog 229 [.osl 0,Aa P.length,Aa m,Aa b,.clo (.func f) first cap] [(0,.row 17 Ab (P++(U++(V++B))))] (.tup []) [(0,.row 17 Ab (P++(V++(U++B))))]:=cT F229 Tryz.ntmps229 fun F hF=>by
 have h0:Abt (P++(V++(U++B))) m (P,U,V,B):=⟨rfl,hm1.symm,hu,hv⟩
 have htl:(P++(V++(U++B))).length<1000000:=by simp only[List.length_append]at hl ⊢;omega
 have hml:m+V.length<1000000:=by simp only[List.length_append]at hl;omega
 generalize P++(V++(U++B))=Z at *
 refine T ?_
 refine A7 (Abt Z m) (fun x=>[(0,.osl 0),(2,Aa m),(4,.clo (.func f) first cap),(10,Aa x.2.1.length),(11,Aa x.2.2.1.length)]) (fun x=>[(0,.row 17 Ab (x.1++(x.2.1++(x.2.2.1++x.2.2.2))))]) (fun x=>x.2.1.length+x.2.2.1.length) (P,U,V,B) [] h0 ⟨⟨q_,q_,q_,q_,A0 _,hc,congrArg Aa (by dsimp only;omega),q_,congrArg Aa (by dsimp only;omega),q_,z_⟩,⟨.inl q_,q_,z_⟩,q_,q_⟩ ?_
 clear h0 hm1 hb1 hu hv hl hml
 intro x hx
 obtain ⟨P,U,V,B⟩:=x
 obtain ⟨hT,hm1,hu,hv⟩:=hx
 dsimp only at hT hm1 hu hv ⊢
 have hlt:P.length+V.length+U.length+B.length<1000000:=by rw[← hT]at htl;simp only[List.length_append]at htl;omega
 have hok:∀ a b n:Int,Be [0] [.osl 0,Aa a,Aa b,Aa n,.clo (.func f) first cap]=true:=fun a b n=>by simp only[Be,hc];rfl
 by_cases he:U.length=V.length
 ·have q:=Jo (P++(U++([]++(V++B)))) P.length (P.length+U.length+0) U.length (.clo (.func f) first cap) hc j_ (by simp only[List.length_append,List.length_nil];omega) (by simp only[List.length_append,List.length_nil];omega)
  have w:=J3 U V P [] B he
  rw[List.length_nil]at w
  rw[w]at q
  rw[List.nil_append,List.nil_append]at q
  rw[show ((P.length:Nat):Int)=(m:Int)-(U.length:Int) by omega,show ((P.length+U.length+0:Nat):Int)=(m:Int) by omega,hT]at q
  have hok:=hok ((m:Int)-(U.length:Int)) m U.length
  refine T ?_
  refine X (Ad [] q_ F287 q (Bh _) ⟨q_,z_⟩ (by simp only[Ct,Obs.keys,List.map_cons,List.map_nil,hok];rfl) ⟨.inl q_,z_⟩) ?_
  exact Bl q_ .nil [] [(0,.row 17 Ab Z)] (fun _ h=>h) q_ q_ ⟨z_,⟨.inl q_,q_,z_⟩,q_,q_⟩
 by_cases hgt:V.length<U.length
 ·obtain ⟨U1,U2,rfl,hu1⟩:∃ U1 U2,U=U1++U2∧U1.length=V.length:=⟨U.take V.length,U.drop V.length,(List.take_append_drop _ _).symm,by rw[List.length_take];omega⟩
  have hul:(U1++U2).length=U1.length+U2.length:=List.length_append
  have hu2:0<U2.length:=by omega
  have q:=Jo (P++(U1++(U2++(V++B)))) P.length (P.length+U1.length+U2.length) U1.length (.clo (.func f) first cap) hc j_ (by simp only[List.length_append];omega) (by simp only[List.length_append];omega)
  rw[J3 U1 V P U2 B hu1]at q
  rw[show ((P.length:Nat):Int)=(m:Int)-(((U1++U2).length:Nat):Int) by omega,show ((P.length+U1.length+U2.length:Nat):Int)=(m:Int) by omega,show ((U1.length:Nat):Int)=((V.length:Nat):Int) by omega]at q
  have hok:=hok ((m:Int)-(((U1++U2).length:Nat):Int)) m V.length
  rw[List.append_assoc]
  refine T ?_
  refine X (Ad [] q_ F287 q (Bh _) ⟨q_,z_⟩ (by simp only[Ct,Obs.keys,List.map_cons,List.map_nil,hok];rfl) ⟨.inl q_,z_⟩) ?_
  refine As (P++V,U2,U1,B) [] ⟨by dsimp only;rw[← hT];simp,by dsimp only;rw[List.length_append];omega,by dsimp only;omega,by dsimp only;omega⟩ (by dsimp only;omega) ⟨⟨q_,q_,q_,q_,A0 _,hc,congrArg Aa (by dsimp only;omega),q_,congrArg Aa (by dsimp only;omega),q_,z_⟩,⟨.inl (congrArg (Ob.row 17 Ab) (by dsimp only;simp)),q_,z_⟩,q_,q_⟩
 ·obtain ⟨V1,V2,rfl,hv2⟩:∃ V1 V2,V=V1++V2∧V2.length=U.length:=⟨V.take (V.length-U.length),V.drop (V.length-U.length),(List.take_append_drop _ _).symm,by rw[List.length_drop];omega⟩
  have hvl:(V1++V2).length=V1.length+V2.length:=List.length_append
  have hv1:0<V1.length:=by omega
  have q:=Jo (P++(U++(V1++(V2++B)))) P.length (P.length+U.length+V1.length) U.length (.clo (.func f) first cap) hc j_ (by simp only[List.length_append];omega) (by simp only[List.length_append];omega)
  rw[J3 U V2 P V1 B hv2.symm]at q
  rw[show ((P.length:Nat):Int)=(m:Int)-(U.length:Int) by omega,show ((P.length+U.length+V1.length:Nat):Int)=(m:Int)+(((V1++V2).length:Nat):Int)-(U.length:Int) by omega]at q
  have hok:=hok ((m:Int)-(U.length:Int)) ((m:Int)+(((V1++V2).length:Nat):Int)-(U.length:Int)) U.length
  rw[List.append_assoc]
  refine T ?_
  refine X (Ad [] q_ F287 q (Bh _) ⟨q_,z_⟩ (by simp only[Ct,Obs.keys,List.map_cons,List.map_nil,hok];rfl) ⟨.inl q_,z_⟩) ?_
  refine As (P,V2,V1,U++B) [] ⟨by dsimp only;rw[← hT];simp,by dsimp only;omega,by dsimp only;omega,by dsimp only;omega⟩ (by dsimp only;omega) ⟨⟨q_,q_,q_,q_,A0 _,hc,congrArg Aa (by dsimp only;omega),q_,congrArg Aa (by dsimp only;omega),q_,z_⟩,⟨.inl q_,q_,z_⟩,q_,q_⟩
def InsI (lt:LineM→LineM→Bool) (x:LineM) (out:List LineM) (q:List LineM × List LineM):Prop:=q.1++q.2=out∧∀ y∈q.2,lt x y=true
theorem T6 (A R:List LineM) (y x:LineM):((A++y::x::R).set (A.length+1) y).set A.length x=A++x::y::R:=by
 rw[List.set_append_right _ _ j_,List.set_append_right _ _ (Nat.le_refl _)]
 simp
theorem Vf (c:LineM→LineM→Int) (Q:LineM→Prop) (f:FuncId) (first cap:List SV) (hc:(SV.clo (.func f) first cap).inn []=true) (hf:∀ a b,Q a→Q b→Ms Tryz.prog f (first++[Ab a,Ab b]++cap) (Aa (c a b))) (P M B:List LineM) (hQ:∀ x∈M,Q x) (hl:(P++(M++B)).length<1000000) (a b:Nat) (ha:a=P.length) (hb:b=P.length+M.length) :
  Sy.Spec Tryz.prog 168 [.osl 0,Aa a,Aa b,.clo (.func f) first cap] [(0,.row 17 Ab (P++(M++B)))] (.tup []) [(0,.row 17 Ab (P++(Au (fun x y=>decide (c x y<0)) M++B)))]:=cT F168 Tryz.ntmps168 fun F hF=>by
 have hin:∀ x y:LineM,Be [] (first++[Ab x,Ab y]++cap)=true:=fun x y=>My hc rfl
 have hc':(SV.clo (.func f) first cap).inn [0]=true:=De _ hc
 have hll:P.length+M.length+B.length<1000000:=by simp only[List.length_append]at hl;omega
 generalize hlt:(fun x y=>decide (c x y<0))=lt
 refine T ?_
 refine Df (M.length-1) (fun j=>[(0,.osl 0),(1,Aa a),(2,Aa b),(3,.clo (.func f) first cap),(8,Aa ((a:Int)+1+(j:Int)))]) (fun j=>[(0,.row 17 Ab (P++(Au lt (M.take (j+1))++(M.drop (j+1)++B))))]) [] ⟨⟨q_,q_,q_,q_,q_,q_,A0 _,hc',congrArg Aa j_,q_,z_⟩,⟨.inl (congrArg (Ob.row 17 Ab) ?_),q_,z_⟩,q_,q_⟩ ?_
 ·cases M with
  | nil=>simp[Au,Bd]
  | cons x M=>simp[Au,Bd,H6,H2]
 intro j hj
 refine T ?_
 refine⟨fun h=>?_,fun h=>?_⟩
 ·have hjm:j+1<M.length:=qA h
  have hdrop:M.drop (j+1)=M[j+1]::M.drop (j+1+1):=List.drop_eq_getElem_cons hjm
  have hsn:Au lt (M.take (j+1+1))=H6 lt M[j+1] (Au lt (M.take (j+1))):=by rw[List.take_succ_eq_append_getElem hjm,Hk]
  have hol:=Cp lt (M.take (j+1))
  rw[List.length_take]at hol
  have hQx:Q M[j+1]:=hQ _ (List.getElem_mem hjm)
  have hQo:∀ y∈Au lt (M.take (j+1)),Q y:=fun y hy=>hQ y (List.mem_of_mem_take (C0 lt _ y hy))
  have hfin:P++(Au lt (M.take (j+1+1))++(M.drop (j+1+1)++B))=P++(H6 lt M[j+1] (Au lt (M.take (j+1)))++(M.drop (j+1+1)++B)):=by rw[hsn]
  have hrl:(M.drop (j+1+1)++B).length+(j+2)=M.length+B.length:=by rw[List.length_append,List.length_drop];omega
  rw[hdrop]
  generalize M[j+1]=x at *
  generalize Au lt (M.take (j+1))=out at *
  rw[show ((x::M.drop (j+1+1))++B)=x::(M.drop (j+1+1)++B) from rfl]
  generalize hR:M.drop (j+1+1)++B=R at *
  have hol:out.length=j+1:=by omega
  clear h hsn hdrop
  refine T ?_
  refine A7 (InsI lt x out) (fun q=>[(0,.osl 0),(1,Aa a),(2,Aa b),(3,.clo (.func f) first cap),(8,Aa ((a:Int)+1+(j:Int))),(9,Aa ((P.length+q.1.length:Nat):Int))]) (fun q=>[(0,.row 17 Ab ((P++q.1)++x::(q.2++R)))]) (fun q=>q.1.length) (out,[]) [] ⟨List.append_nil _,fun y hy=>(by cases hy)⟩ ⟨⟨rfl,rfl,rfl,rfl,rfl,rfl,A0 _,hc',rfl,rfl,congrArg Aa (by dsimp only;omega),rfl,trivial⟩,⟨.inl (congrArg (Ob.row 17 Ab) qd),rfl,trivial⟩,rfl,rfl⟩ ?_
  intro q hq
  obtain ⟨O1,O2⟩:=q
  obtain ⟨hq1,hq2⟩:=hq
  dsimp only at hq1 hq2 ⊢
  have hq3:O1.length+O2.length=j+1:=by rw[← hol,← hq1,List.length_append]
  have hrun:=Aa4 lt x O1 O2 hq2
  rw[hq1]at hrun
  rcases List.eq_nil_or_concat O1 with h1 | ⟨c1,y,h1⟩
  ·subst h1
   have hrun:=hrun (.inl rfl)
   refine T ?_
   refine Dk [] j_ ⟨⟨q_,q_,q_,q_,q_,q_,A0 _,hc',congrArg Aa j_,q_,z_⟩,⟨.inl (congrArg (Ob.row 17 Ab) (by rw[hR,hfin,hrun];simp)),q_,z_⟩,q_,q_⟩
  subst h1
  have hrun:=fun h=>hrun (.inr ⟨c1,y,by simp,h⟩)
  have hQy:Q y:=hQo y (by rw[← hq1];simp)
  have hL:(P++c1.concat y)++x::(O2++R)=(P++c1)++y::x::(O2++R):=by simp
  have hk:P.length+(c1.concat y).length=(P++c1).length+1:=by simp;omega
  have hcl:(c1.concat y).length=c1.length+1:=by simp
  rw[hL,hk]
  have hAl:(P++c1).length=P.length+c1.length:=List.length_append
  have hWl:(O2++R).length=O2.length+R.length:=List.length_append
  have hLl:((P++c1)++y::x::(O2++R)).length=(P++c1).length+2+(O2++R).length:=by simp;omega
  have hset:=T6 (P++c1) (O2++R) y x
  have n1:((((P++c1).length+1:Nat):Int)).toNat=(P++c1).length+1:=by omega
  have n2:((((P++c1).length+1:Nat):Int)-1).toNat=(P++c1).length:=by omega
  have b1:((((P++c1).length+1:Nat):Int)).toNat<((P++c1)++y::x::(O2++R)).length:=by omega
  have b2:((((P++c1).length+1:Nat):Int)-1).toNat<((P++c1)++y::x::(O2++R)).length:=by omega
  have e1:((P++c1)++y::x::(O2++R))[((((P++c1).length+1:Nat):Int)).toNat]'b1=x:=by simp only[n1];rw[List.getElem_append_right j_];simp
  have e2:((P++c1)++y::x::(O2++R))[((((P++c1).length+1:Nat):Int)-1).toNat]'b2=y:=by simp only[n2];rw[List.getElem_append_right j_];simp
  generalize hLL:(P++c1)++y::x::(O2++R)=L at *
  have hset2:(L.set ((((P++c1).length+1:Nat):Int)).toNat (L[((((P++c1).length+1:Nat):Int)-1).toNat]'b2)).set ((((P++c1).length+1:Nat):Int)-1).toNat (L[((((P++c1).length+1:Nat):Int)).toNat]'b1)=(P++c1)++x::y::(O2++R):=by
   rw[e1,e2];simp only[n1,n2];exact hset
  have b3:((((P++c1).length+1:Nat):Int)-1).toNat<(L.set ((((P++c1).length+1:Nat):Int)).toNat (L[((((P++c1).length+1:Nat):Int)-1).toNat]'b2)).length:=by rw[List.length_set];exact b2
  have hcc:lt x y=decide (c (L[((((P++c1).length+1:Nat):Int)).toNat]'b1) (L[((((P++c1).length+1:Nat):Int)-1).toNat]'b2)<0):=by rw[e1,e2,← hlt]
  have q1:=hf (L[((((P++c1).length+1:Nat):Int)).toNat]'b1) (L[((((P++c1).length+1:Nat):Int)-1).toNat]'b2) (by rw[e1];exact hQx) (by rw[e2];exact hQy)
  refine T ?_
  refine Ll q1 q_ q_ q_ (by simp only[hin];rfl) y_ q_ ?_
  refine T ?_
  refine⟨fun h2=>?_,fun h2=>?_⟩
  ·rw[h2]at hcc
   refine T ?_
   refine⟨L[((((P++c1).length+1:Nat):Int)-1).toNat]'b2,q_,q_,?_⟩
   refine T ?_
   refine⟨L[((((P++c1).length+1:Nat):Int)).toNat]'b1,q_,q_,?_⟩
   refine T ?_
   refine As (c1,y::O2) [] ⟨by dsimp only;rw[← hq1];simp,fun z hz=>by
    rcases List.mem_cons.1 hz with rfl | hz
    ·exact hcc
    ·exact hq2 z hz⟩ (by dsimp only;omega) ⟨⟨q_,q_,q_,q_,q_,q_,A0 _,hc',q_,q_,congrArg Aa (by dsimp only;omega),q_,z_⟩,⟨.inl (congrArg (Ob.row 17 Ab) (by rw[hset2];rfl)),q_,z_⟩,q_,q_⟩
  ·rw[h2]at hcc
   have hrun:=hrun hcc
   refine T ?_
   refine Dk [] j_ ⟨⟨q_,q_,q_,q_,q_,q_,A0 _,hc',congrArg Aa j_,q_,z_⟩,⟨.inl (congrArg (Ob.row 17 Ab) (by rw[hR,hfin,hrun,← hLL];simp)),q_,z_⟩,q_,q_⟩
 ·have h:=of_decide_eq_false h
  have e:Au lt (M.take (j+1))++(M.drop (j+1)++B)=Au lt M++B:=by
   rw[List.take_of_length_le j_,List.drop_of_length_le j_,List.nil_append]
  rw[e]
  refine T ?_
  exact Bl q_ .nil [] [(0,.row 17 Ab (P++(Au lt M++B)))] (fun _ h=>h) q_ q_ ⟨z_,⟨.inl q_,q_,z_⟩,q_,q_⟩
theorem Y1 (A W:List LineM) (x y:LineM):((A++x::y::W).set A.length y).set (A.length+1) x=A++y::x::W:=by
 rw[List.set_append_right _ _ (Nat.le_refl _),List.set_append_right _ _ j_]
 simp
theorem Hv (x y k:Nat) (hk:k=(x+y) / 2) (hs:x+y<1000000000):IntKind.i64.wrap ((IntKind.u64.wrap ((x:Int)+(y:Int))).fdiv (2 ^ min (Int.toNat 1) IntKind.u64.bits))=(k:Int):=by
 have e:((x:Int)+(y:Int))=((x+y:Nat):Int):=by omega
 have w:IntKind.u64.wrap ((x+y:Nat):Int)=((x+y:Nat):Int):=by rw[IntKind.wrap_u64];omega
 rw[e,w]
 show IntKind.i64.wrap ((((x+y:Nat):Int)).fdiv 2)=_
 rw[Int.fdiv_eq_ediv_of_nonneg _ qc,IntKind.wrap_i64]
 omega
abbrev Eu (x y:Int):Int:=IntKind.i64.wrap ((IntKind.u64.wrap (x+y)).fdiv (2 ^ min (Int.toNat 1) IntKind.u64.bits))
theorem Yi {α:Type} {D:List α} {z:Int} {k:Nat} (hz:z=(k:Int)) (h:z.toNat<D.length) (h2:(k:Int).toNat<D.length):D[z.toNat]'h=D[(k:Int).toNat]'h2:=by subst hz;rfl
def OneL (lt:LineM→LineM→Bool) (x:LineM) (R:List LineM) (q:Nat × Nat):Prop:=q.1≤q.2∧q.2≤R.length∧(q.1=0∨∃ h:q.1-1<R.length,lt R[q.1-1] x=true)∧(q.2=R.length∨∃ h:q.2<R.length,lt R[q.2] x=false)
theorem Yr (c:LineM→LineM→Int) (Q:LineM→Prop) (f:FuncId) (first cap:List SV) (hc:(SV.clo (.func f) first cap).inn []=true) (hf:∀ a b,Q a→Q b→Ms Tryz.prog f (first++[Ab a,Ab b]++cap) (Aa (c a b)))
  (lt:LineM→LineM→Bool) (hlt:(fun x y=>decide (c x y<0))=lt) (ho:Ordy lt) (P R B:List LineM) (x:LineM) (hQx:Q x) (hQ:∀ y∈R,Q y) (hR:Srt lt R) (hl:(P++x::(R++B)).length<1000000) (a m b:Nat) (ha:a=P.length) (hm1:m=a+1) (hb1:b=m+R.length) :
  Sy.Spec Tryz.prog 169 [.osl 0,Aa a,Aa m,Aa b,.clo (.func f) first cap] [(0,.row 17 Ab (P++x::(R++B)))] (.tup []) [(0,.row 17 Ab (P++(Aq lt [x] R++B)))]:=cT F169 Tryz.ntmps169 fun F hF=>by
 have hin:∀ x y:LineM,Be [] (first++[Ab x,Ab y]++cap)=true:=fun x y=>My hc rfl
 have hc':(SV.clo (.func f) first cap).inn [0]=true:=De _ hc
 have hll:P.length+1+R.length+B.length<1000000:=by simp only[List.length_append,List.length_cons]at hl;omega
 obtain ⟨D,hD⟩:∃ D,P++x::(R++B)=D:=⟨_,rfl⟩
 have hdl:D.length=P.length+1+R.length+B.length:=by rw[← hD];simp;omega
 have ex:∀ h:((a:Nat):Int).toNat<D.length,D[((a:Nat):Int).toNat]'h=x:=fun h=>by
  subst hD;subst ha
  simp only[Int.toNat_natCast]
  rw[List.getElem_append_right (Nat.le_refl _)]
  simp
 have er:∀ (k:Nat) (hk:k<R.length) (h:((m+k:Nat):Int).toNat<D.length),D[((m+k:Nat):Int).toNat]'h=R[k]:=fun k hk h=>by
  subst hD;subst hm1;subst ha
  simp only[Int.toNat_natCast]
  rw[List.getElem_append_right j_]
  simp only[show P.length+1+k-P.length=k+1 by omega,List.getElem_cons_succ]
  rw[List.getElem_append_left hk]
 rw[hD]
 refine T ?_
 refine A7 (OneL lt x R) (fun q=>[(0,.osl 0),(1,Aa a),(4,.clo (.func f) first cap),(10,Aa ((m+q.1:Nat):Int)),(11,Aa ((m+q.2:Nat):Int))]) (fun _=>[(0,.row 17 Ab D)]) (fun q=>q.2-q.1) (0,R.length) [] ⟨Nat.zero_le _,Nat.le_refl _,.inl q_,.inl q_⟩ ⟨⟨q_,q_,q_,q_,A0 _,hc',q_,q_,congrArg Aa (by dsimp only;omega),q_,z_⟩,⟨.inl q_,q_,z_⟩,q_,q_⟩ ?_
 rintro ⟨s,r⟩ ⟨h1,h2,h3,h4⟩
 dsimp only at h1 h2 h3 h4 ⊢
 refine T ?_
 refine⟨fun h=>?_,fun h=>?_⟩
 ·have hsr:s<r:=qA h
  clear h
  obtain ⟨k,hk⟩:∃ k,k=(s+r) / 2:=⟨_,rfl⟩
  have hhs:=Hv (m+s) (m+r) (m+k) j_ j_
  have b0:((m+k:Nat):Int).toNat<D.length:=by omega
  have b1:(Eu ((m+s:Nat):Int) ((m+r:Nat):Int)).toNat<D.length:=by show (IntKind.i64.wrap _).toNat<_;rw[hhs];exact b0
  have b2:((a:Nat):Int).toNat<D.length:=by omega
  have hkr:k<R.length:=by omega
  have ez:D[(Eu ((m+s:Nat):Int) ((m+r:Nat):Int)).toNat]'b1=R[k]:=(Yi hhs b1 b0).trans (er k hkr b0)
  have hcc:lt R[k] x=decide (c (D[(Eu ((m+s:Nat):Int) ((m+r:Nat):Int)).toNat]'b1) (D[((a:Nat):Int).toNat]'b2)<0):=by rw[ez,ex b2,← hlt]
  have q1:=hf (D[(Eu ((m+s:Nat):Int) ((m+r:Nat):Int)).toNat]'b1) (D[((a:Nat):Int).toNat]'b2) (by rw[ez];exact hQ _ (List.getElem_mem _)) (by rw[ex b2];exact hQx)
  refine T ?_
  refine Ll q1 q_ q_ q_ (by simp only[hin];rfl) y_ q_ ?_
  refine T ?_
  refine⟨fun h=>?_,fun h=>?_⟩
  ·rw[h]at hcc
   refine T ?_
   refine As (k+1,r) [] ⟨by dsimp only;omega,h2,.inr ⟨by dsimp only;omega,hcc⟩,h4⟩ (by dsimp only;omega) ⟨⟨q_,q_,q_,q_,A0 _,hc',congrArg Aa (by dsimp only;omega),q_,q_,q_,z_⟩,⟨.inl q_,q_,z_⟩,q_,q_⟩
  ·rw[h]at hcc
   refine T ?_
   refine As (s,k) [] ⟨by dsimp only;omega,by dsimp only;omega,h3,.inr ⟨hkr,hcc⟩⟩ (by dsimp only;omega) ⟨⟨q_,q_,q_,q_,A0 _,hc',q_,q_,congrArg Aa (by dsimp only;omega),q_,z_⟩,⟨.inl q_,q_,z_⟩,q_,q_⟩
 ·have hsr:s=r:=qB h
  subst hsr
  have hmg:=U6 ho x hR s h2 h3 h4
  rw[hmg]
  clear h hmg
  refine T ?_
  refine Df s (fun i=>[(0,.osl 0),(10,Aa ((m+s:Nat):Int)),(13,Aa ((a+i:Nat):Int))]) (fun i=>[(0,.row 17 Ab ((P++R.take i)++x::(R.drop i++B)))]) [] ⟨⟨q_,q_,q_,q_,congrArg Aa j_,q_,z_⟩,⟨.inl (congrArg (Ob.row 17 Ab) (by rw[← hD];simp)),q_,z_⟩,q_,q_⟩ ?_
  intro i hi
  refine T ?_
  refine⟨fun h=>?_,fun h=>?_⟩
  ·have his:i<s:=qA h
   have hir:i<R.length:=by omega
   have hdr:R.drop i++B=R[i]::(R.drop (i+1)++B):=by rw[List.drop_eq_getElem_cons hir];rfl
   have htk:R.take (i+1)=R.take i++[R[i]]:=List.take_succ_eq_append_getElem hir
   have hAl:(P++R.take i).length=a+i:=by rw[List.length_append,List.length_take];omega
   have hsp:=Y1 (P++R.take i) (R.drop (i+1)++B) x R[i]
   have hfin:(P++R.take (i+1))++x::(R.drop (i+1)++B)=(P++R.take i)++R[i]::x::(R.drop (i+1)++B):=by rw[htk,← List.append_assoc P,List.append_assoc (P++R.take i)];rfl
   generalize R[i]=y at *
   rw[hdr]
   have hEl:((P++R.take i)++x::y::(R.drop (i+1)++B)).length=D.length:=by simp;omega
   have n1:(((a+i:Nat):Int)).toNat=(P++R.take i).length:=by omega
   have n2:(((a+i:Nat):Int)+1).toNat=(P++R.take i).length+1:=by omega
   have g1:∀ h,((P++R.take i)++x::y::(R.drop (i+1)++B))[(((a+i:Nat):Int)).toNat]'h=x:=fun h=>by simp only[n1];rw[List.getElem_append_right (Nat.le_refl _)];simp
   have g2:∀ h,((P++R.take i)++x::y::(R.drop (i+1)++B))[(((a+i:Nat):Int)+1).toNat]'h=y:=fun h=>by simp only[n2];rw[List.getElem_append_right j_];simp
   generalize hE:(P++R.take i)++x::y::(R.drop (i+1)++B)=E at *
   have c1:(((a+i:Nat):Int)).toNat<E.length:=by omega
   have c2:(((a+i:Nat):Int)+1).toNat<E.length:=by omega
   have c3:(((a+i:Nat):Int)+1).toNat<(E.set (((a+i:Nat):Int)).toNat (E[(((a+i:Nat):Int)+1).toNat]'c2)).length:=by rw[List.length_set];exact c2
   have hset:(E.set (((a+i:Nat):Int)).toNat (E[(((a+i:Nat):Int)+1).toNat]'c2)).set (((a+i:Nat):Int)+1).toNat (E[(((a+i:Nat):Int)).toNat]'c1)=(P++R.take i)++y::x::(R.drop (i+1)++B):=by
    rw[g1 c1,g2 c2];simp only[n1,n2];exact hsp
   clear h
   refine T ?_
   refine⟨E[(((a+i:Nat):Int)+1).toNat]'c2,q_,q_,?_⟩
   refine T ?_
   refine⟨E[(((a+i:Nat):Int)).toNat]'c1,q_,q_,?_⟩
   refine T ?_
   refine Dk [] his ⟨⟨q_,q_,q_,q_,congrArg Aa j_,q_,z_⟩,⟨.inl (congrArg (Ob.row 17 Ab) (by rw[hset,hfin])),q_,z_⟩,q_,q_⟩
  ·have his:i=s:=qB h
   subst his
   rw[show P++((R.take i++x::R.drop i)++B)=(P++R.take i)++x::(R.drop i++B) by simp]
   refine T ?_
   exact E0
def OneR (lt:LineM→LineM→Bool) (y:LineM) (L:List LineM) (q:Nat × Nat):Prop:=q.1≤q.2∧q.2≤L.length∧(q.1=0∨∃ h:q.1-1<L.length,lt y L[q.1-1]=false)∧(q.2=L.length∨∃ h:q.2<L.length,lt y L[q.2]=true)
theorem Yq (c:LineM→LineM→Int) (Q:LineM→Prop) (f:FuncId) (first cap:List SV) (hc:(SV.clo (.func f) first cap).inn []=true) (hf:∀ a b,Q a→Q b→Ms Tryz.prog f (first++[Ab a,Ab b]++cap) (Aa (c a b)))
  (lt:LineM→LineM→Bool) (hlt:(fun x y=>decide (c x y<0))=lt) (ho:Ordy lt) (P L B:List LineM) (y:LineM) (hQx:Q y) (hQ:∀ x∈L,Q x) (hL:Srt lt L) (h2:2≤L.length) (hl:(P++(L++y::B)).length<1000000) (a m b:Nat) (ha:a=P.length) (hm1:m=a+L.length) (hb1:b=m+1) :
  Sy.Spec Tryz.prog 169 [.osl 0,Aa a,Aa m,Aa b,.clo (.func f) first cap] [(0,.row 17 Ab (P++(L++y::B)))] (.tup []) [(0,.row 17 Ab (P++(Aq lt L [y]++B)))]:=cT F169 Tryz.ntmps169 fun F hF=>by
 have hin:∀ x y:LineM,Be [] (first++[Ab x,Ab y]++cap)=true:=fun x y=>My hc rfl
 have hc':(SV.clo (.func f) first cap).inn [0]=true:=De _ hc
 have hll:P.length+1+L.length+B.length<1000000:=by simp only[List.length_append,List.length_cons]at hl;omega
 obtain ⟨D,hD⟩:∃ D,P++(L++y::B)=D:=⟨_,rfl⟩
 have hdl:D.length=P.length+1+L.length+B.length:=by rw[← hD];simp;omega
 have ey:∀ h:((m:Nat):Int).toNat<D.length,D[((m:Nat):Int).toNat]'h=y:=fun h=>by
  subst hD;subst hm1;subst ha
  simp only[Int.toNat_natCast]
  rw[List.getElem_append_right j_]
  simp only[Nat.add_sub_cancel_left]
  rw[List.getElem_append_right (Nat.le_refl _)]
  simp
 have el:∀ (k:Nat) (hk:k<L.length) (h:((a+k:Nat):Int).toNat<D.length),D[((a+k:Nat):Int).toNat]'h=L[k]:=fun k hk h=>by
  subst hD;subst hm1;subst ha
  simp only[Int.toNat_natCast]
  rw[List.getElem_append_right j_]
  simp only[Nat.add_sub_cancel_left]
  rw[List.getElem_append_left hk]
 rw[hD]
 refine T ?_
 refine A7 (OneR lt y L) (fun q=>[(0,.osl 0),(2,Aa m),(4,.clo (.func f) first cap),(14,Aa ((a+q.1:Nat):Int)),(15,Aa ((a+q.2:Nat):Int))]) (fun _=>[(0,.row 17 Ab D)]) (fun q=>q.2-q.1) (0,L.length) [] ⟨Nat.zero_le _,Nat.le_refl _,.inl q_,.inl q_⟩ ⟨⟨q_,q_,q_,q_,A0 _,hc',q_,q_,congrArg Aa (by dsimp only;omega),q_,z_⟩,⟨.inl q_,q_,z_⟩,q_,q_⟩ ?_
 rintro ⟨s,r⟩ ⟨h1,h3,h4,h5⟩
 dsimp only at h1 h3 h4 h5 ⊢
 refine T ?_
 refine⟨fun h=>?_,fun h=>?_⟩
 ·have hsr:s<r:=qA h
  clear h
  obtain ⟨k,hk⟩:∃ k,k=(s+r) / 2:=⟨_,rfl⟩
  have hhs:=Hv (a+s) (a+r) (a+k) j_ j_
  have b0:((a+k:Nat):Int).toNat<D.length:=by omega
  have b1:(Eu ((a+s:Nat):Int) ((a+r:Nat):Int)).toNat<D.length:=by show (IntKind.i64.wrap _).toNat<_;rw[hhs];exact b0
  have b2:((m:Nat):Int).toNat<D.length:=by omega
  have hkr:k<L.length:=by omega
  have ez:D[(Eu ((a+s:Nat):Int) ((a+r:Nat):Int)).toNat]'b1=L[k]:=(Yi hhs b1 b0).trans (el k hkr b0)
  have hcc:lt y L[k]=decide (c (D[((m:Nat):Int).toNat]'b2) (D[(Eu ((a+s:Nat):Int) ((a+r:Nat):Int)).toNat]'b1)<0):=by rw[ez,ey b2,← hlt]
  have q1:=hf (D[((m:Nat):Int).toNat]'b2) (D[(Eu ((a+s:Nat):Int) ((a+r:Nat):Int)).toNat]'b1) (by rw[ey b2];exact hQx) (by rw[ez];exact hQ _ (List.getElem_mem _))
  refine T ?_
  refine Ll q1 q_ q_ q_ (by simp only[hin];rfl) y_ q_ ?_
  cases hcv:lt y L[k]
  ·rw[hcv]at hcc
   refine T ?_
   refine⟨fun _=>?_,fun h=>?_⟩
   ·refine T ?_
    refine As (k+1,r) [] ⟨by dsimp only;omega,h3,.inr ⟨by dsimp only;omega,hcv⟩,h5⟩ (by dsimp only;omega) ⟨⟨q_,q_,q_,q_,A0 _,hc',congrArg Aa (by dsimp only;omega),q_,q_,q_,z_⟩,⟨.inl q_,q_,z_⟩,q_,q_⟩
   ·rw[← hcc]at h;cases h
  ·rw[hcv]at hcc
   refine T ?_
   refine⟨fun h=>?_,fun _=>?_⟩
   ·rw[← hcc]at h;cases h
   ·refine T ?_
    refine As (s,k) [] ⟨by dsimp only;omega,by dsimp only;omega,h4,.inr ⟨hkr,hcv⟩⟩ (by dsimp only;omega) ⟨⟨q_,q_,q_,q_,A0 _,hc',q_,q_,congrArg Aa (by dsimp only;omega),q_,z_⟩,⟨.inl q_,q_,z_⟩,q_,q_⟩
 ·have hsr:s=r:=qB h
  subst hsr
  have hmg:=U5 ho y hL s h3 h4 h5
  rw[hmg]
  clear h hmg
  refine T ?_
  refine Df (L.length-s) (fun i=>[(0,.osl 0),(14,Aa ((a+s:Nat):Int)),(17,Aa ((m-i:Nat):Int))]) (fun i=>[(0,.row 17 Ab ((P++L.take (L.length-i))++y::(L.drop (L.length-i)++B)))]) [] ⟨⟨q_,q_,q_,q_,congrArg Aa j_,q_,z_⟩,⟨.inl (congrArg (Ob.row 17 Ab) (by rw[← hD];simp)),q_,z_⟩,q_,q_⟩ ?_
  intro i hi
  refine T ?_
  refine⟨fun h=>?_,fun h=>?_⟩
  ·have his:i<L.length-s:=qA h
   obtain ⟨j,hj⟩:∃ j,L.length-i=j+1:=⟨L.length-i-1,by omega⟩
   have hj2:L.length-(i+1)=j:=by omega
   have hjr:j<L.length:=by omega
   rw[hj]
   have htk:L.take (j+1)=L.take j++[L[j]]:=List.take_succ_eq_append_getElem hjr
   have hdr:L.drop j++B=L[j]::(L.drop (j+1)++B):=by rw[List.drop_eq_getElem_cons hjr];rfl
   have hAl:(P++L.take j).length=a+j:=by rw[List.length_append,List.length_take];omega
   have hsp:=T6 (P++L.take j) (L.drop (j+1)++B) L[j] y
   have hst:(P++L.take (j+1))++y::(L.drop (j+1)++B)=(P++L.take j)++L[j]::y::(L.drop (j+1)++B):=by rw[htk,← List.append_assoc P,List.append_assoc (P++L.take j)];rfl
   rw[hst]
   generalize L[j]=z at *
   have hEl:((P++L.take j)++z::y::(L.drop (j+1)++B)).length=D.length:=by simp;omega
   have n1:(((m-i:Nat):Int)).toNat=(P++L.take j).length+1:=by omega
   have n2:(((m-i:Nat):Int)-1).toNat=(P++L.take j).length:=by omega
   have g1:∀ h,((P++L.take j)++z::y::(L.drop (j+1)++B))[(((m-i:Nat):Int)).toNat]'h=y:=fun h=>by simp only[n1];rw[List.getElem_append_right j_];simp
   have g2:∀ h,((P++L.take j)++z::y::(L.drop (j+1)++B))[(((m-i:Nat):Int)-1).toNat]'h=z:=fun h=>by simp only[n2];rw[List.getElem_append_right (Nat.le_refl _)];simp
   generalize hE:(P++L.take j)++z::y::(L.drop (j+1)++B)=E at *
   have c1:(((m-i:Nat):Int)).toNat<E.length:=by omega
   have c2:(((m-i:Nat):Int)-1).toNat<E.length:=by omega
   have c3:(((m-i:Nat):Int)-1).toNat<(E.set (((m-i:Nat):Int)).toNat (E[(((m-i:Nat):Int)-1).toNat]'c2)).length:=by rw[List.length_set];exact c2
   have hset:(E.set (((m-i:Nat):Int)).toNat (E[(((m-i:Nat):Int)-1).toNat]'c2)).set (((m-i:Nat):Int)-1).toNat (E[(((m-i:Nat):Int)).toNat]'c1)=(P++L.take j)++y::z::(L.drop (j+1)++B):=by
    rw[g1 c1,g2 c2];simp only[n1,n2];exact hsp
   clear h
   refine T ?_
   refine⟨E[(((m-i:Nat):Int)-1).toNat]'c2,q_,q_,?_⟩
   refine T ?_
   refine⟨E[(((m-i:Nat):Int)).toNat]'c1,q_,q_,?_⟩
   refine T ?_
   refine Dk [] his ⟨⟨q_,q_,q_,q_,congrArg Aa j_,q_,z_⟩,⟨.inl (congrArg (Ob.row 17 Ab) (by rw[hset,hj2,hdr])),q_,z_⟩,q_,q_⟩
  ·have his:L.length-i=s:=qB h
   rw[his]
   rw[show P++((L.take s++y::L.drop s)++B)=(P++L.take s)++y::(L.drop s++B) by simp]
   refine T ?_
   exact E0
def CutA (lt:LineM→LineM→Bool) (L R:List LineM) (d i:Nat):Prop:=i=0∨R.length≤d-i∨∃ (hi:i-1<L.length) (hj:d-i<R.length),0<i∧lt R[d-i] L[i-1]=false
def CutB (lt:LineM→LineM→Bool) (L R:List LineM) (d i:Nat):Prop:=L.length≤i∨d-i=0∨∃ (hi:i<L.length) (hj:d-i-1<R.length),0<d-i∧lt R[d-i-1] L[i]=true
structure CutI (lt:LineM→LineM→Bool) (L R:List LineM) (d:Nat) (q:Nat × Nat):Prop where
 le:q.1≤q.2
 l:q.2≤L.length
 d2:q.2≤d
 r:d≤q.1+R.length
 h1:CutA lt L R d q.1
 h2:CutB lt L R d q.2
theorem Qq (c:LineM→LineM→Int) (Q:LineM→Prop) (f:FuncId) (first cap:List SV) (hc:(SV.clo (.func f) first cap).inn []=true) (hf:∀ a b,Q a→Q b→Ms Tryz.prog f (first++[Ab a,Ab b]++cap) (Aa (c a b)))
  (lt:LineM→LineM→Bool) (hlt:(fun x y=>decide (c x y<0))=lt) (ho:Ordy lt):∀ (N:Nat) (P L R B:List LineM),L.length+R.length≤N→(∀ x∈L,Q x)→(∀ x∈R,Q x)→Srt lt L→Srt lt R→0<L.length→0<R.length→(P++(L++(R++B))).length<1000000 →
  ∀ a m b:Nat,a=P.length→m=a+L.length→b=m+R.length →
  Sy.Spec Tryz.prog 169 [.osl 0,Aa a,Aa m,Aa b,.clo (.func f) first cap] [(0,.row 17 Ab (P++(L++(R++B))))] (.tup []) [(0,.row 17 Ab (P++(Aq lt L R++B)))]:=by
 have hin:∀ x y:LineM,Be [] (first++[Ab x,Ab y]++cap)=true:=fun x y=>My hc rfl
 have hc':(SV.clo (.func f) first cap).inn [0]=true:=De _ hc
 have hok:∀ a b n:Int,Be [0] [.osl 0,Aa a,Aa b,Aa n,.clo (.func f) first cap]=true:=fun a b n=>by simp only[Be,hc'];rfl
 intro N
 induction N with
 | zero=>intro P L R B h _ _ _ _ h1;omega
 | succ N ih =>
  intro P L R B hN hQL hQR hL hR hL0 hR0 hl a m b ha hm1 hb1
  have hll:P.length+L.length+R.length+B.length<1000000:=by simp only[List.length_append]at hl;omega
  by_cases hl1:L.length=1
  ·obtain ⟨x,rfl⟩:=List.length_eq_one_iff.1 hl1
   exact Yr c Q f first cap hc hf lt hlt ho P R B x (hQL x qd) hQR hR hl a m b ha hm1 hb1
  by_cases hr1:R.length=1
  ·obtain ⟨y,rfl⟩:=List.length_eq_one_iff.1 hr1
   exact Yq c Q f first cap hc hf lt hlt ho P L B y (hQR y qd) hQL hL j_ hl a m b ha hm1 hb1
  obtain ⟨mid,hmid⟩:∃ mid,mid=(a+b) / 2:=⟨_,rfl⟩
  have hhm:=Hv a b mid hmid j_
  obtain ⟨d,hd⟩:∃ d,mid=a+d:=⟨mid-a,by omega⟩
  obtain ⟨D,hD⟩:∃ D,P++(L++(R++B))=D:=⟨_,rfl⟩
  have hdl:D.length=P.length+L.length+R.length+B.length:=by rw[← hD];simp;omega
  have el:∀ (k:Nat) (hk:k<L.length) (z:Int) (hz:z=((a+k:Nat):Int)) (h:z.toNat<D.length),D[z.toNat]'h=L[k]:=fun k hk z hz h=>by
   subst hD;subst hm1;subst ha;subst hz
   simp only[Int.toNat_natCast]
   rw[List.getElem_append_right j_]
   simp only[Nat.add_sub_cancel_left]
   rw[List.getElem_append_left hk]
  have er:∀ (k:Nat) (hk:k<R.length) (z:Int) (hz:z=((m+k:Nat):Int)) (h:z.toNat<D.length),D[z.toNat]'h=R[k]:=fun k hk z hz h=>by
   subst hD;subst hm1;subst ha;subst hz
   simp only[Int.toNat_natCast]
   rw[List.getElem_append_right j_]
   simp only[show P.length+L.length+k-P.length=L.length+k by omega]
   rw[List.getElem_append_right j_]
   simp only[Nat.add_sub_cancel_left]
   rw[List.getElem_append_left hk]
  rw[hD]
  have hfin:∀ i,CutI lt L R d (i,i)→Aq lt L R=Aq lt (L.take i) (R.take (d-i))++Aq lt (L.drop i) (R.drop (d-i)):=fun i hi=>by
   refine Le ho hL hR i (d-i) ?_ ?_
   ·exact hi.h1
   ·exact hi.h2
  have htarget:P++(Aq lt L R++B)=P++(Aq lt L R++B):=rfl
  refine He Γ hm 100 F169 Tryz.ntmps169 q_ fun F hF=>by
   refine T ?_
   by_cases hc1:mid<m
   rotate_left
   refine⟨fun h=>absurd (of_decide_eq_true h) j_,fun h=>?_⟩
   clear h
   refine T ?_
   refine A7 (CutI lt L R d) (fun q=>[(0,.osl 0),(1,Aa a),(2,Aa m),(3,Aa b),(4,.clo (.func f) first cap),(18,Aa (mid:Nat)),(19,Aa ((mid+m:Nat):Int)),(20,Aa ((a+q.1:Nat):Int)),(21,Aa ((a+q.2:Nat):Int)),(22,Aa ((mid+m-1:Nat):Int))]) (fun _=>[(0,.row 17 Ab D)]) (fun q=>q.2-q.1) (0,L.length) [] ⟨Nat.zero_le _,Nat.le_refl _,by dsimp only;omega,by dsimp only;omega,.inl q_,.inl (Nat.le_refl _)⟩
    ⟨⟨rfl,rfl,rfl,rfl,rfl,rfl,rfl,rfl,A0 _,hc',congrArg Aa j_,rfl,congrArg Aa j_,rfl,rfl,rfl,congrArg Aa (by dsimp only;omega),rfl,congrArg Aa j_,rfl,trivial⟩,⟨.inl rfl,rfl,trivial⟩,rfl,rfl⟩ ?_
   rotate_left
   refine⟨fun h=>?_,fun h=>absurd (of_decide_eq_false h) j_⟩
   clear h
   refine T ?_
   refine A7 (CutI lt L R d) (fun q=>[(0,.osl 0),(1,Aa a),(2,Aa m),(3,Aa b),(4,.clo (.func f) first cap),(18,Aa (mid:Nat)),(19,Aa ((mid+m:Nat):Int)),(20,Aa ((a+q.1:Nat):Int)),(21,Aa ((a+q.2:Nat):Int)),(22,Aa ((mid+m-1:Nat):Int))]) (fun _=>[(0,.row 17 Ab D)]) (fun q=>q.2-q.1) (d-R.length,d) [] ⟨Nat.sub_le _ _,by dsimp only;omega,Nat.le_refl _,by dsimp only;omega,(by show _∨_;dsimp only;omega),.inr (.inl (Nat.sub_self _))⟩
    ⟨⟨rfl,rfl,rfl,rfl,rfl,rfl,rfl,rfl,A0 _,hc',congrArg Aa j_,rfl,congrArg Aa j_,rfl,congrArg Aa (by dsimp only;omega),rfl,congrArg Aa (by dsimp only;omega),rfl,congrArg Aa j_,rfl,trivial⟩,⟨.inl rfl,rfl,trivial⟩,rfl,rfl⟩ ?_
   all_goals
    rintro ⟨i,r⟩ hq
    have hfi:=hfin i
    obtain ⟨g1,g2,g3,g4,g5,g6⟩:=hq
    dsimp only at g1 g2 g3 g4 g5 g6 ⊢
    refine T ?_
    refine⟨fun h=>?_,fun h=>?_⟩
    ·have hsr:i<r:=qA h
     clear h hfi
     obtain ⟨k,hk⟩:∃ k,k=(i+r) / 2:=⟨_,rfl⟩
     have hhs:=Hv (a+i) (a+r) (a+k) j_ j_
     obtain ⟨j,hj⟩:∃ j,d=k+j+1:=⟨d-k-1,by omega⟩
     have hkl:k<L.length:=by omega
     have hkr:j<R.length:=by omega
     have hzr:((mid+m-1:Nat):Int)-Eu ((a+i:Nat):Int) ((a+r:Nat):Int)=((m+j:Nat):Int):=by show _-IntKind.i64.wrap _=_;rw[hhs];omega
     have b1:(((mid+m-1:Nat):Int)-Eu ((a+i:Nat):Int) ((a+r:Nat):Int)).toNat<D.length:=by rw[hzr];omega
     have b2:(Eu ((a+i:Nat):Int) ((a+r:Nat):Int)).toNat<D.length:=by show (IntKind.i64.wrap _).toNat<_;rw[hhs];omega
     have e1:=er j hkr _ hzr b1
     have e2:=el k hkl _ hhs b2
     have hcc:lt R[j] L[k]=decide (c (D[(((mid+m-1:Nat):Int)-Eu ((a+i:Nat):Int) ((a+r:Nat):Int)).toNat]'b1) (D[(Eu ((a+i:Nat):Int) ((a+r:Nat):Int)).toNat]'b2)<0):=by rw[e1,e2,← hlt]
     have q1:=hf (D[(((mid+m-1:Nat):Int)-Eu ((a+i:Nat):Int) ((a+r:Nat):Int)).toNat]'b1) (D[(Eu ((a+i:Nat):Int) ((a+r:Nat):Int)).toNat]'b2) (by rw[e1];exact hQR _ (List.getElem_mem _)) (by rw[e2];exact hQL _ (List.getElem_mem _))
     refine T ?_
     refine Ll q1 q_ q_ q_ (by simp only[hin];rfl) y_ q_ ?_
     cases hcv:lt R[j] L[k]
     ·rw[hcv]at hcc
      refine T ?_
      refine⟨fun _=>?_,fun h=>?_⟩
      ·refine T ?_
       refine As (k+1,r) [] ⟨by dsimp only;omega,g2,g3,by dsimp only;omega,.inr (.inr ⟨by dsimp only;omega,by dsimp only;omega,Nat.succ_pos _,by
        have e:d-(k+1)=j:=by omega
        simp only[e,Nat.add_sub_cancel]
        exact hcv⟩),g6⟩ (by dsimp only;omega) ⟨⟨q_,q_,q_,q_,q_,q_,q_,q_,A0 _,hc',q_,q_,q_,q_,congrArg Aa (by dsimp only;omega),q_,q_,q_,q_,q_,z_⟩,⟨.inl q_,q_,z_⟩,q_,q_⟩
      ·rw[← hcc]at h;cases h
     ·rw[hcv]at hcc
      refine T ?_
      refine⟨fun h=>?_,fun _=>?_⟩
      ·rw[← hcc]at h;cases h
      ·refine T ?_
       refine As (i,k) [] ⟨by dsimp only;omega,by dsimp only;omega,by dsimp only;omega,g4,g5,.inr (.inr ⟨hkl,by dsimp only;omega,by dsimp only;omega,by
        have e:d-k-1=j:=by omega
        simp only[e]
        exact hcv⟩)⟩ (by dsimp only;omega) ⟨⟨q_,q_,q_,q_,q_,q_,q_,q_,A0 _,hc',q_,q_,q_,q_,q_,q_,congrArg Aa (by dsimp only;omega),q_,q_,q_,z_⟩,⟨.inl q_,q_,z_⟩,q_,q_⟩
    ·have hsr:i=r:=qB h
     subst hsr
     clear h er el
     have hcut:=hfi ⟨g1,g2,g3,g4,g5,g6⟩
     clear hfi
     have hLL:=List.take_append_drop i L
     have hRR:=List.take_append_drop (d-i) R
     have k1:(L.take i).length=i:=by rw[List.length_take];omega
     have k2:(L.drop i).length=L.length-i:=List.length_drop
     have k3:(R.take (d-i)).length=d-i:=by rw[List.length_take];omega
     have k4:(R.drop (d-i)).length=R.length-(d-i):=List.length_drop
     have m1:∀ x∈L.take i,Q x:=fun x hx=>hQL x (List.mem_of_mem_take hx)
     have m2:∀ x∈L.drop i,Q x:=fun x hx=>hQL x (List.mem_of_mem_drop hx)
     have m3:∀ x∈R.take (d-i),Q x:=fun x hx=>hQR x (List.mem_of_mem_take hx)
     have m4:∀ x∈R.drop (d-i),Q x:=fun x hx=>hQR x (List.mem_of_mem_drop hx)
     have s1:Srt lt (L.take i):=hL.sublist (List.take_sublist _ _)
     have s2:Srt lt (L.drop i):=hL.sublist (List.drop_sublist _ _)
     have s3:Srt lt (R.take (d-i)):=hR.sublist (List.take_sublist _ _)
     have s4:Srt lt (R.drop (d-i)):=hR.sublist (List.drop_sublist _ _)
     have hY0:P++(L.take i++(L.drop i++(R.take (d-i)++(R.drop (d-i)++B))))=D:=by
      rw[← hD,← List.append_assoc (L.take i),hLL,← List.append_assoc (R.take (d-i)),hRR]
     clear hD hLL hRR
     rw[hcut,List.append_assoc (Aq lt (L.take i) (R.take (d-i)))]
     clear hcut
     generalize L.take i=L1 at *
     generalize L.drop i=L2 at *
     generalize R.take (d-i)=R1 at *
     generalize R.drop (d-i)=R2 at *
     clear g5 g6 hdl hl1 hr1 hhm
     have hsz:P.length+L1.length+R1.length+L2.length+R2.length+B.length<1000000:=by omega
     obtain ⟨j,hj⟩:∃ j,d=i+j:=⟨d-i,by omega⟩
     have hLi:L1.length+L2.length=L.length:=by omega
     have hRi:R1.length+R2.length=R.length:=by omega
     have k1:L1.length=i:=k1
     have k3:R1.length=j:=by omega
     have hdN:d≤N:=by omega
     have hdN2:L.length+R.length≤N+d:=by omega
     clear k2 k4 g1 g2 g3 g4 hc1 hmid hL0 hR0 hll hl
     have hkk:=hok
     by_cases hrot:0<L2.length∧0<R1.length
     rotate_left
     have hY:P++(L1++(R1++(L2++(R2++B))))=D:=by
      rw[← hY0]
      rcases Nat.eq_zero_or_pos L2.length with h | h
      ·rw[List.eq_nil_of_length_eq_zero h];simp
      ·rw[List.eq_nil_of_length_eq_zero (show R1.length=0 by omega)];simp
     obtain ⟨cur,rfl⟩:∃ cur,cur=D:=⟨D,rfl⟩
     clear hY0
     by_cases hl2:L2.length=0
     clear hrot
     refine T ?_
     rotate_left
     have hl3:R1.length=0:=by omega
     clear hrot
     refine T ?_
     rotate_left
     have q:=Abx (P++L1) L2 R1 (R2++B) f first cap hc' hrot.1 hrot.2 (by simp only[List.length_append];omega) m (m+j) (by simp only[List.length_append];omega) j_
     rw[show (P++L1).length=a+i by simp only[List.length_append];omega,show ((m+j:Nat):Int)=((mid+m:Nat):Int)-((a+i:Nat):Int) by omega]at q
     simp only[List.append_assoc]at q
     rw[hY0]at q
     obtain ⟨cur,hY⟩:∃ cur,P++(L1++(R1++(L2++(R2++B))))=cur:=⟨_,rfl⟩
     rw[hY]at q
     have hok:=hkk ((a+i:Nat):Int) m (((mid+m:Nat):Int)-((a+i:Nat):Int))
     clear hY0
     refine T ?_
     refine X (Ad [] q_ F229 q (Bh _) ⟨q_,z_⟩ (by simp only[Ct,Obs.keys,List.map_cons,List.map_nil,hok];rfl) ⟨.inl q_,z_⟩) ?_
     all_goals
      by_cases hc2:0<L1.length∧0<R1.length
      rotate_left
      have hY2:P++(Aq lt L1 R1++(L2++(R2++B)))=cur:=by
       rw[← hY]
       rcases Nat.eq_zero_or_pos L1.length with h | h
       ·rw[List.eq_nil_of_length_eq_zero h,Bb];rfl
       ·rw[List.eq_nil_of_length_eq_zero (show R1.length=0 by omega),Bu];rfl
      obtain ⟨cur2,rfl⟩:∃ cur2,cur2=cur:=⟨cur,rfl⟩
      clear hY
      by_cases hc3:L1.length=0
      clear hc2
      refine T ?_
      rotate_left
      have hc4:R1.length=0:=by omega
      clear hc2
      refine T ?_
      rotate_left
      first
      | (exfalso;omega)
      | (have q:=ih P L1 R1 (L2++(R2++B)) j_ m1 m3 s1 s3 hc2.1 hc2.2 (by simp only[List.length_append];omega) a (a+i) mid ha j_ j_
         rw[hY]at q
         obtain ⟨cur2,hY2⟩:∃ cur2,P++(Aq lt L1 R1++(L2++(R2++B)))=cur2:=⟨_,rfl⟩
         rw[hY2]at q
         have hok:=hkk (a:Int) ((a+i:Nat):Int) mid
         clear hY
         refine T ?_
         refine X (Ad [] q_ F169 q (Bh _) ⟨q_,z_⟩ (by simp only[Ct,Obs.keys,List.map_cons,List.map_nil,hok];rfl) ⟨.inl q_,z_⟩) ?_)
     all_goals
      by_cases hc5:0<L2.length∧0<R2.length
      rotate_left
      have hY3:P++(Aq lt L1 R1++(Aq lt L2 R2++B))=cur2:=by
       rw[← hY2]
       rcases Nat.eq_zero_or_pos L2.length with h | h
       ·rw[List.eq_nil_of_length_eq_zero h,Bb];rfl
       ·rw[List.eq_nil_of_length_eq_zero (show R2.length=0 by omega),Bu];rfl
      by_cases hc6:L2.length=0
      clear hc5
      refine T ?_
      exact Bl q_ .nil [] [(0,.row 17 Ab (P++(Aq lt L1 R1++(Aq lt L2 R2++B))))] (fun _ h=>h) q_ q_ ⟨z_,⟨.inl (congrArg (Ob.row 17 Ab) hY3),q_,z_⟩,q_,q_⟩
      have hc7:R2.length=0:=by omega
      clear hc5
      refine T ?_
      exact Bl q_ .nil [] [(0,.row 17 Ab (P++(Aq lt L1 R1++(Aq lt L2 R2++B))))] (fun _ h=>h) q_ q_ ⟨z_,⟨.inl (congrArg (Ob.row 17 Ab) hY3),q_,z_⟩,q_,q_⟩
      first
      | (exfalso;omega)
      | (have hml:=Er lt L1 R1
         have q:=ih (P++Aq lt L1 R1) L2 R2 B j_ m2 m4 s2 s4 hc5.1 hc5.2 (by simp only[List.length_append];omega) mid (m+j) b (by simp only[List.length_append];omega) j_ j_
         rw[show ((m+j:Nat):Int)=((mid+m:Nat):Int)-((a+i:Nat):Int) by omega]at q
         simp only[List.append_assoc]at q
         rw[hY2]at q
         have hok:=hkk (mid:Int) (((mid+m:Nat):Int)-((a+i:Nat):Int)) b
         refine T ?_
         refine X (Ad [] q_ F169 q (Bh _) ⟨q_,z_⟩ (by simp only[Ct,Obs.keys,List.map_cons,List.map_nil,hok];rfl) ⟨.inl q_,z_⟩) ?_
         exact E0)
def Acj (lt:LineM→LineM→Bool) (s:Nat) (M Y:List LineM):Prop:=Y.length≤M.length∧bs lt s M=Y++bs lt s (M.drop Y.length)
def StbI (M:List LineM) (s:Nat):Prop:=20≤s∧s<2 * M.length+21
theorem Ws (c:LineM→LineM→Int) (Q:LineM→Prop) (f:FuncId) (first cap:List SV) (hc:(SV.clo (.func f) first cap).inn []=true) (hf:∀ a b,Q a→Q b→Ms Tryz.prog f (first++[Ab a,Ab b]++cap) (Aa (c a b)))
  (lt:LineM→LineM→Bool) (hlt:(fun x y=>decide (c x y<0))=lt) (ho:Ordy lt) (M:List LineM) (hQ:∀ x∈M,Q x) (hl:M.length<100000) :
  Sy.Spec Tryz.prog 101 [.osl 0,Aa M.length,.clo (.func f) first cap] [(0,.row 17 Ab M)] (.tup []) [(0,.row 17 Ab (Au lt M))]:=cT F101 Tryz.ntmps101 fun F hF=>by
 have hc':(SV.clo (.func f) first cap).inn [0]=true:=De _ hc
 have hok3:∀ a b:Int,Be [0] [.osl 0,Aa a,Aa b,.clo (.func f) first cap]=true:=fun a b=>by simp only[Be,hc'];rfl
 have hok4:∀ a b n:Int,Be [0] [.osl 0,Aa a,Aa b,Aa n,.clo (.func f) first cap]=true:=fun a b n=>by simp only[Be,hc'];rfl
 refine T ?_
 refine A7 (Acj lt 20 M) (fun Y=>[(0,.osl 0),(1,Aa M.length),(2,.clo (.func f) first cap),(6,Aa 20),(7,Aa Y.length),(8,Aa ((Y.length+20:Nat):Int))]) (fun Y=>[(0,.row 17 Ab (Y++M.drop Y.length))]) (fun Y=>M.length-Y.length) [] [] ⟨Nat.zero_le _,q_⟩ ⟨⟨q_,q_,q_,q_,A0 _,hc',q_,q_,q_,q_,q_,q_,z_⟩,⟨.inl q_,q_,z_⟩,q_,q_⟩ ?_
 intro Y hY
 obtain ⟨hY1,hY2⟩:=hY
 have hdl:(M.drop Y.length).length=M.length-Y.length:=List.length_drop
 refine T ?_
 refine⟨fun h=>?_,fun h=>?_⟩
 ·have hlt2:Y.length+20≤M.length:=qA h
  have hbm:=K4 lt (l:=M.drop Y.length) (s:=20) qc j_
  have hsp:=List.take_append_drop 20 (M.drop Y.length)
  have htl:((M.drop Y.length).take 20).length=20:=by rw[List.length_take];omega
  have q:=Vf c Q f first cap hc hf Y ((M.drop Y.length).take 20) ((M.drop Y.length).drop 20) (fun x hx=>hQ x (List.mem_of_mem_drop (List.mem_of_mem_take hx))) (by rw[hsp,List.length_append];omega) Y.length (Y.length+20) rfl (by rw[htl])
  rw[hsp,hlt]at q
  have hok:=hok3 Y.length ((Y.length+20:Nat):Int)
  have hsl:=Cp lt ((M.drop Y.length).take 20)
  rw[List.drop_drop]at hbm q
  rw[htl]at hsl
  generalize Au lt ((M.drop Y.length).take 20)=Z at *
  have hYS:(Y++Z).length=Y.length+20:=by rw[List.length_append];omega
  have hI:Acj lt 20 M (Y++Z):=⟨by omega,by rw[hY2,hbm,hYS,List.append_assoc]⟩
  clear h hbm hsp htl hY2
  refine T ?_
  refine X (Ad [] q_ F168 q (Bh _) ⟨q_,z_⟩ (by simp only[Ct,Obs.keys,List.map_cons,List.map_nil,hok];rfl) ⟨.inl q_,z_⟩) ?_
  refine As (Y++Z) [] hI j_ ⟨⟨q_,q_,q_,q_,A0 _,hc',q_,q_,congrArg Aa j_,q_,congrArg Aa j_,q_,z_⟩,⟨.inl (congrArg (Ob.row 17 Ab) (by rw[hYS,List.append_assoc])),q_,z_⟩,q_,q_⟩
 ·have hlt2:¬ Y.length+20≤M.length:=qB h
  have hbf:=Iq lt (l:=M.drop Y.length) (s:=20) j_
  have q:=Vf c Q f first cap hc hf Y (M.drop Y.length) [] (fun x hx=>hQ x (List.mem_of_mem_drop hx)) (by rw[List.append_nil,List.length_append];omega) Y.length M.length rfl j_
  rw[List.append_nil,List.append_nil,hlt,← hbf,← hY2]at q
  have hok:=hok3 Y.length M.length
  clear h hbf hY2
  refine T ?_
  refine X (Ad [] q_ F168 q (Bh _) ⟨q_,z_⟩ (by simp only[Ct,Obs.keys,List.map_cons,List.map_nil,hok];rfl) ⟨.inl q_,z_⟩) ?_
  clear q hok hdl hY1 hlt2
  refine A7 (StbI M) (fun s=>[(0,.osl 0),(1,Aa M.length),(2,.clo (.func f) first cap),(6,Aa (s:Nat))]) (fun s=>[(0,.row 17 Ab (bs lt s M))]) (fun s=>2 * M.length+21-s) 20 [] ⟨by omega,by omega⟩ ⟨⟨q_,q_,q_,q_,A0 _,hc',q_,q_,z_⟩,⟨.inl q_,q_,z_⟩,q_,q_⟩ ?_
  rintro s ⟨hs1,hs2⟩
  refine T ?_
  refine⟨fun h=>?_,fun h=>?_⟩
  rotate_left
  ·rw[← Iq lt (l:=M) (s:=s) (qB h)]
   refine T ?_
   exact Bl q_ .nil [] [(0,.row 17 Ab (bs lt s M))] (fun _ h=>h) q_ q_ ⟨z_,⟨.inl q_,q_,z_⟩,q_,q_⟩
  have hsm:s<M.length:=qA h
  clear h
  refine T ?_
  refine A7 (Acj lt (2 * s) M) (fun Y=>[(0,.osl 0),(1,Aa M.length),(2,.clo (.func f) first cap),(6,Aa (s:Nat)),(7,Aa Y.length),(8,Aa ((Y.length+2 * s:Nat):Int))]) (fun Y=>[(0,.row 17 Ab (Y++bs lt s (M.drop Y.length)))]) (fun Y=>M.length-Y.length) [] [] ⟨Nat.zero_le _,q_⟩ ⟨⟨q_,q_,q_,q_,A0 _,hc',q_,q_,q_,q_,congrArg Aa (by simp only[List.length_nil];omega),q_,z_⟩,⟨.inl q_,q_,z_⟩,q_,q_⟩ ?_
  intro Y hY
  obtain ⟨hY1,hY2⟩:=hY
  have hdl:(M.drop Y.length).length=M.length-Y.length:=List.length_drop
  refine T ?_
  refine⟨fun h=>?_,fun h=>?_⟩
  ·have hlt2:Y.length+2 * s≤M.length:=qA h
   obtain ⟨hb1,hb2⟩:=bs_two ho (l:=M.drop Y.length) (s:=s) j_ j_
   have l1:=Cp lt ((M.drop Y.length).take s)
   have l2:=Cp lt (((M.drop Y.length).drop s).take s)
   have l3:=bs_len lt s _ ((M.drop Y.length).drop (2 * s)) rfl
   have t1:((M.drop Y.length).take s).length=s:=by rw[List.length_take];omega
   have t2:(((M.drop Y.length).drop s).take s).length=s:=by rw[List.length_take,List.length_drop];omega
   have t3:((M.drop Y.length).drop (2 * s)).length=M.length-Y.length-2 * s:=by rw[List.length_drop];omega
   have w1:=Co ho ((M.drop Y.length).take s)
   have w2:=Co ho (((M.drop Y.length).drop s).take s)
   have v1:∀ x∈Au lt ((M.drop Y.length).take s),Q x:=fun x hx=>hQ x (List.mem_of_mem_drop (List.mem_of_mem_take (C0 lt _ x hx)))
   have v2:∀ x∈Au lt (((M.drop Y.length).drop s).take s),Q x:=fun x hx=>hQ x (List.mem_of_mem_drop (List.mem_of_mem_drop (List.mem_of_mem_take (C0 lt _ x hx))))
   have hdd:(M.drop Y.length).drop (2 * s)=M.drop (Y.length+2 * s):=List.drop_drop ..
   rw[hdd]at hb1 hb2 l3 t3
   clear hdd
   rw[hb2]at hY2
   rw[hb1]
   generalize Au lt ((M.drop Y.length).take s)=L at *
   generalize Au lt (((M.drop Y.length).drop s).take s)=R at *
   have hml:=Er lt L R
   have q:=Qq c Q f first cap hc hf lt hlt ho _ Y L R (bs lt s (M.drop (Y.length+2 * s))) (Nat.le_refl _) v1 v2 w1 w2 j_ j_ (by simp only[List.length_append];omega) Y.length (Y.length+s) (Y.length+2 * s) rfl j_ j_
   rw[show ((Y.length+s:Nat):Int)=(Y.length:Int)+(s:Int) by omega]at q
   have hok:=hok4 Y.length ((Y.length:Int)+(s:Int)) ((Y.length+2 * s:Nat):Int)
   have hYS:(Y++Aq lt L R).length=Y.length+2 * s:=by rw[List.length_append];omega
   have hI:Acj lt (2 * s) M (Y++Aq lt L R):=⟨by omega,by rw[hY2,hYS,List.append_assoc]⟩
   clear h hb1 hb2 hY2 w1 w2 v1 v2
   refine T ?_
   refine X (Ad [] q_ F169 q (Bh _) ⟨q_,z_⟩ (by simp only[Ct,Obs.keys,List.map_cons,List.map_nil,hok];rfl) ⟨.inl q_,z_⟩) ?_
   refine As (Y++Aq lt L R) [] hI j_ ⟨⟨q_,q_,q_,q_,A0 _,hc',q_,q_,congrArg Aa j_,q_,congrArg Aa j_,q_,z_⟩,⟨.inl (congrArg (Ob.row 17 Ab) (by rw[hYS,List.append_assoc])),q_,z_⟩,q_,q_⟩
  ·have hlt2:¬ Y.length+2 * s≤M.length:=qB h
   clear h
   by_cases hm2:Y.length+s<M.length
   rotate_left
   ·have e1:=Iq lt (l:=M.drop Y.length) (s:=s) j_
    have e2:=Iq lt (l:=M.drop Y.length) (s:=2 * s) j_
    rw[e2,← e1]at hY2
    refine T ?_
    refine As (2 * s) [] ⟨by omega,by omega⟩ j_ ⟨⟨q_,q_,q_,q_,A0 _,hc',congrArg Aa j_,q_,z_⟩,⟨.inl (congrArg (Ob.row 17 Ab) hY2),q_,z_⟩,q_,q_⟩
   obtain ⟨hb1,hb2⟩:=Acb ho (l:=M.drop Y.length) (s:=s) j_ j_ j_
   have l1:=Cp lt ((M.drop Y.length).take s)
   have l2:=Cp lt ((M.drop Y.length).drop s)
   have t1:((M.drop Y.length).take s).length=s:=by rw[List.length_take];omega
   have t2:((M.drop Y.length).drop s).length=M.length-Y.length-s:=by rw[List.length_drop];omega
   have w1:=Co ho ((M.drop Y.length).take s)
   have w2:=Co ho ((M.drop Y.length).drop s)
   have v1:∀ x∈Au lt ((M.drop Y.length).take s),Q x:=fun x hx=>hQ x (List.mem_of_mem_drop (List.mem_of_mem_take (C0 lt _ x hx)))
   have v2:∀ x∈Au lt ((M.drop Y.length).drop s),Q x:=fun x hx=>hQ x (List.mem_of_mem_drop (List.mem_of_mem_drop (C0 lt _ x hx)))
   rw[hb2]at hY2
   rw[hb1]
   generalize Au lt ((M.drop Y.length).take s)=L at *
   generalize Au lt ((M.drop Y.length).drop s)=R at *
   have hml:=Er lt L R
   have q:=Qq c Q f first cap hc hf lt hlt ho _ Y L R [] (Nat.le_refl _) v1 v2 w1 w2 j_ j_ (by simp only[List.length_append,List.length_nil];omega) Y.length (Y.length+s) M.length rfl j_ j_
   rw[show ((Y.length+s:Nat):Int)=(Y.length:Int)+(s:Int) by omega,List.append_nil,List.append_nil,← hY2]at q
   have hok:=hok4 Y.length ((Y.length:Int)+(s:Int)) M.length
   clear hb1 hb2 hY2 w1 w2 v1 v2
   refine T ?_
   refine X (Ad [] q_ F169 q (Bh _) ⟨q_,z_⟩ (by simp only[Ct,Obs.keys,List.map_cons,List.map_nil,hok];rfl) ⟨.inl q_,z_⟩) ?_
   refine As (2 * s) [] ⟨by omega,by omega⟩ j_ ⟨⟨q_,q_,q_,q_,A0 _,hc',congrArg Aa j_,q_,z_⟩,⟨.inl q_,q_,z_⟩,q_,q_⟩
theorem Aab (c:LineM→LineM→Int) (Q:LineM→Prop) (f:FuncId) (first cap:List SV) (hc:(SV.clo (.func f) first cap).inn []=true) (hf:∀ a b,Q a→Q b→Ms Tryz.prog f (first++[Ab a,Ab b]++cap) (Aa (c a b)))
  (lt:LineM→LineM→Bool) (hlt:(fun x y=>decide (c x y<0))=lt) (ho:Ordy lt) (M:List LineM) (hQ:∀ x∈M,Q x) (hl:M.length<100000) :
  Sy.Spec Tryz.prog 36 [.osl 0,.clo (.func f) first cap] [(0,.row 17 Ab M)] (.tup []) [(0,.row 17 Ab (Au lt M))]:=cT F36 Tryz.ntmps36 fun F hF=>by
 have hc':(SV.clo (.func f) first cap).inn [0]=true:=De _ hc
 have hok:Be [0] [.osl 0,Aa M.length,.clo (.func f) first cap]=true:=by simp only[Be,hc'];rfl
 have q:=Ws c Q f first cap hc hf lt hlt ho M hQ hl
 refine T ?_
 refine X (Ad [] q_ F101 q (Bh _) ⟨q_,z_⟩ (by simp only[Ct,Obs.keys,List.map_cons,List.map_nil,hok];rfl) ⟨.inl q_,z_⟩) ?_
 exact Bl q_ .nil [] [(0,.row 17 Ab (Au lt M))] (fun _ h=>h) q_ q_ ⟨z_,⟨.inl q_,q_,z_⟩,q_,q_⟩
theorem Lk (l:List Int) (hl:l.length<2147483648):Sy.Spec Tryz.prog 99 [.sl 1 Aa l] [] (.sl 1 Aa l) []:=cT F99 Tryz.ntmps99 fun F hF=>by
 conv=>whnf
 refine X4 q_ (.inl q_) q_ q_ q_ .sl q_ q_ ?_
 intro b hb
 cases b
 ·refine oF ?_
  refine Cc (Ai Γ.toTy 7 q_ q_ q_ q_ q_ (.lit (e:=Aa) (l:=[]) q_ q_) .sl qd (by simp;omega) (by simp;omega)) q_ q_ ?_
  refine Bf 7 q_ ?_
  refine oO ?_
  exact dN
 ·have h0:l=[]:=List.eq_nil_of_length_eq_zero (hb rfl)
  subst h0
  refine oT ?_
  refine Bw 2 1 Aa q_ ?_
  exact dN
theorem Zt (l:List Int) (hl:l.length<2147483648):Sy.Spec Tryz.prog 100 [.sl 1 A1 l] [] (.sl 1 A1 l) []:=cT F100 Tryz.ntmps100 fun F hF=>by
 conv=>whnf
 refine X4 q_ (.inl q_) q_ q_ q_ .sl q_ q_ ?_
 intro b hb
 cases b
 ·refine oF ?_
  refine Cc (Ai Γ.toTy 7 q_ q_ q_ q_ q_ (.lit (e:=A1) (l:=[]) q_ q_) .sl qd (by simp;omega) (by simp;omega)) q_ q_ ?_
  refine Bf 7 q_ ?_
  refine oO ?_
  exact dN
 ·have h0:l=[]:=List.eq_nil_of_length_eq_zero (hb rfl)
  subst h0
  refine oT ?_
  refine Bw 2 1 A1 q_ ?_
  exact dN
theorem Yv (l:LineM) (h:LineFin l):Sy.Spec Tryz.prog 35 [Ab l] [] (Ab l) []:=cT F35 Tryz.ntmps35 fun F hF=>by
 have ht:=h.t;have hi:=h.i;have he:=h.e;have ha:=h.a
 refine T ?_
 refine C (Lk l.tagged j_) F99 ?_
 refine C (Lk l.imports j_) F99 ?_
 refine C (Lk l.exports j_) F99 ?_
 refine C (Zt l.addrs j_) F100 ?_
 exact D
theorem Q6 (M:List LineM) (h:∀ x∈M,LineFin x) (hl:M.length<1000000):Sy.Spec Tryz.prog 39 [.sl 17 Ab M,.clo (.func 38) [] []] [] (Af (Cz M)) []:=cT F39 Tryz.ntmps39 fun F hF=>by
 refine T ?_
 refine A7 (fun i:Int=>-1≤i∧i+1≤M.length∧∀ j (hj:j+1<M.length),i≤j→Cj M[j+1] M[j]=false) (fun i=>[(0,.sl 17 Ab M),(1,.clo (.func 38) [] []),(5,Aa i)]) (fun _=>[]) (fun i=>(i+1).toNat) ((M.length:Int)-1) [] ⟨by omega,by omega,fun j hj h1=>by omega⟩ U ?_
 rintro i ⟨h1,h2,h3⟩
 refine T ?_
 refine⟨fun h4=>?_,fun h4=>?_⟩
 ·have hi:0<i:=by have:=of_decide_eq_true h4;omega
  clear h4
  have b1:i.toNat<M.length:=by omega
  have b2:(i-1).toNat<M.length:=by omega
  have g1:0≤i:=by omega
  have g2:0≤i-1:=by omega
  have q:=E5 (M[i.toNat]'b1) (M[(i-1).toNat]'b2) (h _ (List.getElem_mem _)) (h _ (List.getElem_mem _))
  have hB:Cj (M[i.toNat]'b1) (M[(i-1).toNat]'b2)=decide (Jf (M[i.toNat]'b1) (M[(i-1).toNat]'b2)<0):=rfl
  have hk:i.toNat=(i-1).toNat+1:=by omega
  cases hd:decide (Jf (M[i.toNat]'b1) (M[(i-1).toNat]'b2)<0) with
  | true =>
   rw[hd]at hB
   have hO:Cz M=false:=Un (j:=(i-1).toNat) j_ (by simp only[hk]at hB;exact hB)
   rw[hO]
   clear hB h3
   generalize Jf (M[i.toNat]'b1) (M[(i-1).toNat]'b2)=z at *
   refine T ?_
   refine Ll ⟨⟨_,_,F38⟩,q⟩ q_ q_ q_ q_ y_ q_ ?_
   refine T ?_
   exact D
  | false =>
   rw[hd]at hB
   generalize hz:Jf (M[i.toNat]'b1) (M[(i-1).toNat]'b2)=z at *
   refine T ?_
   refine Ll ⟨⟨_,_,F38⟩,q⟩ q_ q_ q_ q_ y_ q_ ?_
   refine T ?_
   refine As (i-1) [] ⟨by omega,by omega,fun j hj h9=>?_⟩ j_ U
   by_cases hji:i≤j
   ·exact h3 j hj hji
   ·have hj2:j=(i-1).toNat:=by omega
    subst hj2
    simp only[hk]at hB;exact hB
 ·have hi:i≤0:=by have:=of_decide_eq_false h4;omega
  have hO:Cz M=true:=Ki fun j hj=>h3 j hj j_
  rw[hO]
  clear h4 h3
  refine T ?_
  exact D
theorem Aam (M:List LineM) (h:∀ x∈M,LineFin x) (hl:M.length<1000000):Sy.Spec Tryz.prog 17 [.sl 17 Ab M] [] (Af (Cz M)) []:=cT F17 Tryz.ntmps17 fun F hF=>by
 have q:=Q6 M h hl
 generalize Cz M=r at *
 refine T ?_
 refine C q F39 ?_
 exact D
end Go.Sy.YtgblchnfjbkipaaGreatDoor
