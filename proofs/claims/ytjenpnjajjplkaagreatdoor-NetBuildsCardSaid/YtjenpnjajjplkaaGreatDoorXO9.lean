/-
  NB17 Sy36 Sy37 NB18 NB19 I27 I28 Sy38 Sy39 Sy40 I29 I30 I50 NB20 I51 I52 I47 I48 I49 I43 I53: parts of a proof, joined by program.
-/
import Derived.Test.YtjenpnjajjplkaaGreatDoorXO8
import Derived.Test.YtjenpnjajjplkaaGreatDoorXO7
import Derived.Laws.LoneSync
import Derived.Tactics
import Derived.Tactics2
import Derived.Defers
import Derived.Laws.Pointers
import Derived.RegionTactic
import Derived.RegionCalls
import Derived.ChangeAlike
import Derived.Laws.NewBlocks
import Derived.Test.YtjenpnjajjplkaaGreatDoorXO6
import Derived.Test.YtjenpnjajjplkaaGreatDoorXO2
import Derived.Test.YtjenpnjajjplkaaGreatDoorXO5
import Derived.Test.YtjenpnjajjplkaaGreatDoorXO3
set_option linter.all false
set_option linter.unusedVariables false
set_option linter.unusedSimpArgs false
set_option linter.deprecated false
namespace Go.Sy.YtjenpnjajjplkaaGreatDoor
open Go.Proofs
attribute [local irreducible] Go.Sy.G Go.Sy.DR
set_option maxRecDepth 100000
set_option maxHeartbeats 4000000
def S5 (dn lk:Int) (M:List LineM) (n:Net) (row e:Int):List SV:=[.val (.int .u32 dn),.val (.int .i32 lk),.val (.int .u32 0),.sl 17 Al M]++Bj n++[Aa row,Aa e]
def Ey (dn lk:Int) (M:List LineM) (x:Net × Int × Int):Obs:=[(0,.box (S5 dn lk M x.1 x.2.1 x.2.2))]
theorem Anw {n:Net} (h:(meshNT n).2.2=0):(meshNT n).2.1=0:=by
 unfold meshNT at h ⊢
 split
 ·rfl
 rename_i h1
 rw[if_neg h1]at h
 split at h
 ·cases h
 ·rename_i h2
  split at h
  ·cases h
  ·rename_i h3
   rw[if_neg h3]
theorem Agn (M:List LineM) (hM:∀ l∈M,LineW l) (hl:M.length<2147483648) (dn lk:Int):Sy.Spec Tryz.prog 112 [.ptr 0 0] (Ey dn lk M (emptyN,0,0)) (.tup []) (Ey dn lk M (Co M)):=cT F112 Tryz.ntmps112 fun F hF=>by
 refine T ?_
 refine Au (fun x:Nat × Net=>x.1≤M.length∧x.2.Fin∧Ha x.2∧Co M=Hw x.2 (M.drop x.1)) (fun x=>[(0,.ptr 0 0),(9,.sl 17 Al M),(10,Aa M.length),(11,Aa x.1)]) (fun x=>Ey dn lk M (x.2,0,0)) (fun x=>M.length-x.1) (0,emptyN) [] ⟨by omega,Hf,(fun x hx=>by cases hx),rfl⟩ U ?_
 rintro ⟨j,n⟩ ⟨hj,hn,ha,hI⟩
 dsimp only at hj hn ha hI ⊢
 refine T ?_
 refine⟨fun h=>?_,fun h=>?_⟩
 ·have hlt:j<M.length:=qA h
  have hj0:((j:Nat):Int).toNat<M.length:=hlt
  clear h
  have hw:=hM _ (List.getElem_mem hj0)
  have q:=Ap9 n hn ha _ hw
  have hp:=Aa9 hn ha hw
  rw[List.drop_eq_getElem_cons hlt,Hw]at hI
  refine T ?_
  refine cD q F206 ?_
  refine T ?_
  refine⟨fun h=>?_,fun h=>?_⟩
  ·have hne:(putT n (M[((j:Nat):Int).toNat]'hj0)).2≠0:=by intro e;rw[e]at h;cases h
   have he:=hp.none hne
   have hI2:Co M=(emptyN,(M[((j:Nat):Int).toNat]'hj0).row,(putT n (M[((j:Nat):Int).toNat]'hj0)).2):=hI.trans (if_pos hne)
   rw[hI2,← he]
   clear h
   refine T ?_
   exact done Y .nil [] (Ey dn lk M ((putT n (M[((j:Nat):Int).toNat]'hj0)).1,(M[((j:Nat):Int).toNat]'hj0).row,(putT n (M[((j:Nat):Int).toNat]'hj0)).2)) (fun _ h=>h) Y Y U
  ·have he:(putT n (M[((j:Nat):Int).toNat]'hj0)).2=0:=by simpa using h
   have hI2:Co M=Hw (putT n (M[((j:Nat):Int).toNat]'hj0)).1 (M.drop (j+1)):=hI.trans (if_neg (fun hh=>hh he))
   clear h
   refine T ?_
   exact Ae (j+1,(putT n (M[((j:Nat):Int).toNat]'hj0)).1) [] ⟨hlt,hp.fin,hp.addrs,hI2⟩ (by dsimp only;omega) ⟨⟨Y,Y,Y,Y,Y,Y,Y,Y,q_⟩,⟨.inl (congrArg (fun e:Int=>Ob.box (S5 dn lk M (putT n (M[((j:Nat):Int).toNat]'hj0)).1 0 e)) he.symm),Y,q_⟩,Y,Y⟩
 ·have hje:j=M.length:=qB h
  clear h
  rw[hje,List.drop_length,Hw]at hI
  rw[hI]
  have qm:=meshS n hn
  have hf:=finishT.eq_1 n
  refine T ?_
  refine C qm F23 ?_
  refine T ?_
  refine⟨fun h=>?_,fun h=>?_⟩
  ·have hne:(meshNT n).2.2≠0:=by intro e;rw[e]at h;cases h
   rw[if_pos hne]at hf
   rw[hf]
   clear h
   refine T ?_
   exact done Y .nil [] (Ey dn lk M (meshNT n)) (fun _ h=>h) Y Y U
  have he:(meshNT n).2.2=0:=by simpa using h
  clear h
  have hrow:(meshNT n).2.1=0:=Anw he
  rw[if_neg (by rw[he];decide)]at hf
  have ql:=loopS (meshNT n).1 (Qc hn)
  refine T ?_
  refine C ql F24 ?_
  refine T ?_
  refine⟨fun h=>?_,fun h=>?_⟩
  ·rw[if_pos h]at hf
   rw[hf]
   clear h
   refine T ?_
   refine Ag 0 (S5 dn lk M emptyN (loopT (meshNT n).1).1 38) Y (.cons (.refl _) (.cons (.refl _) (.cons (.refl _) (.cons (.refl _) (.cons .nil (.cons .nil (.cons .nil (.cons .nil (.cons .nil (.cons .nil (.cons .nil (.cons .nil (.cons (.refl _) (.cons (.refl _) .nil)))))))))))))) ?_
   exact C3 Y .nil [] (Ey dn lk M (emptyN,(loopT (meshNT n).1).1,38)) (fun _ h=>h) Y Y U
  ·rw[if_neg (by rw[h];decide)]at hf
   rw[hf]
   clear h
   refine T ?_
   exact C3 Y .nil [] (Ey dn lk M ((meshNT n).1,0,0)) (fun _ h=>h) Y Y ⟨q_,⟨.inl (congrArg (fun a:Int × Int=>Ob.box (S5 dn lk M (meshNT n).1 a.1 a.2)) (Prod.ext hrow.symm he.symm:((0:Int),(0:Int))=(meshNT n).2)),Y,q_⟩,Y,Y⟩
end Go.Sy.YtjenpnjajjplkaaGreatDoor
namespace Go.Sy
theorem VwL.get {s:SS} {V:List Nat}:∀ {l m:List SV} (_:VwL s V l m) {i:Nat} {y:SV},Ir m i=some y→∃ x,Ir l i=some x∧Vw s V x y
 | _,_,.nil,i,y,h=>by cases i<;>simp[Ir]at h
 | _,_,.cons (x:=x) h0 hs,0,y,h=>by
  simp only[Ir,Option.some.injEq]at h
  subst h
  exact⟨x,Y,h0⟩
 | _,_,.cons h0 hs,i+1,y,h=>VwL.get hs (i:=i) h
theorem VwL.len {s:SS} {V:List Nat}:∀ {l m:List SV} (_:VwL s V l m),m.length=l.length
 | _,_,.nil=>rfl
 | _,_,.cons _ hs=>by simp[VwL.len hs]
theorem RdL.setI {κ:Ka} {w:World} {x:SV} {v:Value} (hx:Rd κ w x v):∀ {l:List SV} {cs:List Value} (i:Nat),RdL κ w l cs→RdL κ w (l.set i x) (cs.set i v)
 | [],cs,i,h=>by simp only[RdL]at h;subst h;simp[RdL]
 | y::l,cs,0,h=>by
  simp only[RdL]at h
  obtain ⟨u,r,rfl,h1,h2⟩:=h
  simp only[List.set_cons_zero,RdL]
  exact⟨v,r,Y,hx,h2⟩
 | y::l,cs,i+1,h=>by
  simp only[RdL]at h
  obtain ⟨u,r,rfl,h1,h2⟩:=h
  simp only[List.set_cons_succ,RdL]
  exact⟨u,_,Y,h1,h2.setI hx i⟩
theorem H7 {κ:Ka} {w:World} {k:Nat} {l:List SV} (hi:Inv κ w) (h:ObOK κ w k (.box l)) {off:Nat} {x:SV} {v:Value} (_hx:x.plain=true) (hv:∀ κ w,Rd κ w x v) (h1:v.oneCell'=true) :
  ∃ b,κ k=.blk b∧(∀ j y,Ir l j=some y→∃ u,w.cell? ⟨b,j,none⟩=some u∧Rd κ w y u)∧(∀ j,j<l.length→w.frozen? ⟨b,j,none⟩=false) ∧
   Step (·=k) κ w κ (w.setCell ⟨b,off,none⟩ v)∧Inv κ (w.setCell ⟨b,off,none⟩ v)∧ObOK κ (w.setCell ⟨b,off,none⟩ v) k (.box (l.set off x)):=by
 obtain ⟨b,cs,T,fr,e1,e2,e3,e4,e5⟩:=h
 have hsame:(w.setCell ⟨b,off,none⟩ v).heap[b]? = some (.cells (cs.set off v).toArray T fr):=by
  simp[World.setCell,Array.getElem?_modify,e2]
 have hoth:∀ j,j≠b→(w.setCell ⟨b,off,none⟩ v).heap[j]? = w.heap[j]?:=fun j hj=>heap_setCell_other w ⟨b,off,none⟩ j v hj
 obtain ⟨st,inv⟩:=Kb (w':=w.setCell ⟨b,off,none⟩ v) hi (k:=k) (b:=b) (by rw[e1];rfl) rfl rfl rfl qe hoth
 have hlen:=e5.length
 refine⟨b,e1,fun j y hy=>?_,fun j hj=>?_,st,inv,b,_,T,fr,e1,hsame,by rw[List.length_set];exact e3,?_,(RdL.step st _ _ e5).setI (hv _ _) off⟩
 ·obtain ⟨u,hu,hr⟩:=e5.get hy
  exact⟨u,by rw[cell_of_row w b j cs.toArray T fr e2,List.getElem?_toArray];exact hu,hr⟩
 ·obtain ⟨lo,hi'⟩:=fr
  simp only[World.frozen?,e2]
  rcases e3 with h | h
  ·simp only at h;subst h;simp
  ·simp only at h;simp;omega
 ·intro c hc
  rcases List.mem_or_eq_of_mem_set hc with h | h
  ·exact e4 c h
  ·rw[h];exact h1
theorem Zh {P:Program} {o:Oper} {s:SS} {f:FuncId} {ik:IntKind} {ts:Array TypeId} {x:Operand} {k off:Nat} {l:List SV} {v:Int}
  (hf:∀ (a:Addr) (x:Int) (w:World),w.cell? a=some (.int ik x)→(callFunc f #[.pointer (some a)]).run P w=.ok (.value (.int ik x)) w)
  (h:o.op=.call ⟨.value (.func f),#[x],ts⟩) (hx:ev s x=.ptr k off) (hk:s.h k=.box l) (hy:Ir l off=some (.val (.int ik v))):Good P o s ⟨.val (.int ik v),[k],[]⟩ :=
 Good.pure fun κ a w hi hr ho=>by
  have h1:=hr x (by simp[h,Op.operands,Call.operands])
  rw[hx]at h1
  have h2:=ho k qe
  rw[hk]at h2
  obtain ⟨b,cs,T,fr,e1,e2,e3,e4,e5⟩:=h2
  simp only[Rd,e1]at h1
  obtain ⟨u,hu,hr2⟩:=e5.get hy
  have hc:w.cell? ⟨b,off,none⟩=some (.int ik v):=by rw[cell_of_row w b off cs.toArray T fr e2,List.getElem?_toArray,hu,hr2.val]
  have hrun:=hf ⟨b,off,none⟩ v w hc
  refine⟨.int ik v,?_,by simp only[Rd]⟩
  have hev:a.eval (.func f)=.func (.func f) #[] #[]:=rfl
  simp[execOp,h,resolve,hev,Deferred.ofValue,invoke,h1,hrun]
end Go.Sy
namespace Go.Sy.YtjenpnjajjplkaaGreatDoor
open Go.Proofs
attribute [local irreducible] Go.Sy.G Go.Sy.DR
set_option maxRecDepth 100000
set_option maxHeartbeats 4000000
theorem Aje (a:Addr) (x:Int) (w:World) (hc:w.cell? a=some (.int .u32 x)):(callFunc 276 #[.pointer (some a)]).run Tryz.prog w=.ok (.value (.int .u32 x)) w :=
 run_call_load Tryz.func276 j_ j_ j_ .u32 j_ hc
theorem Qt (w:World):(callFunc 396 #[]).run Tryz.prog w=.ok (.value (.tuple #[])) w:=run_call_mark0 Tryz.func396 j_ j_ j_ .disable j_ w
theorem Tg (w:World):(callFunc 398 #[]).run Tryz.prog w=.ok (.value (.tuple #[])) w:=run_call_mark0 Tryz.func398 j_ j_ j_ .enable j_ w
theorem Y2 (a:Addr) (w:World):(callFunc 399 #[.pointer (some a)]).run Tryz.prog w=.ok (.value (.tuple #[])) w:=run_call_marked Tryz.func399 j_ j_ j_ .acquire j_ a w
theorem Y1 (a:Addr) (w:World):(callFunc 401 #[.pointer (some a)]).run Tryz.prog w=.ok (.value (.tuple #[])) w:=run_call_marked Tryz.func401 j_ j_ j_ .releaseMerge j_ a w
theorem V9 (a:Addr) (x:Value) (u:FrameMode) (w:World) (hc:w.cell? a=some x) (hz:w.frozen? a=false) :
  CallsD Tryz.prog 279 #[.pointer (some a),.bool true] u w fun e u' w'=>u'=u∧(e=.returned (.tuple #[])∧w'=w.drew.setCell a (.int .u32 1)):=by
 have hc':w.drew.cell? a=some x:=by go_simp
 have hz':w.drew.frozen? a=false:=by go_simp
 have hst:=run_call_store (P:=Tryz.prog) Tryz.func335 j_ j_ j_ j_ (k:=.u32) (y:=1) hc' hz'
 go_enter_d Tryz.func279,Tryz.ntmps279
 go_wp2
 go_region_calls
 all_goals (go_end0;exact⟨rfl,rfl⟩)
theorem Uh (a:Addr) (u:FrameMode) (w:World) (hc:w.cell? a=some (.int .i32 1)) (hz:w.frozen? a=false) :
  CallsD Tryz.prog 278 #[.pointer (some a)] u w fun e u' w'=>u'=u∧(e=.returned (.tuple #[])∧w'=w.setCell a (.int .i32 0)):=by
 have hd:=Qt
 have he:=Tg
 have hr:=Y1
 have hadd:=run_call_add (P:=Tryz.prog) Tryz.func402 j_ j_ j_ .i32 j_ (y:=-1) (s:=0) hc hz (by simp[go_sem];rfl)
 have hcv:=run_convert_to_unsafe (P:=Tryz.prog) (src:=388) (dst:=380) Tryz.underlying388 Tryz.underlying380 j_ hc
 go_enter_d Tryz.func278,Tryz.ntmps278
 go_wp2
 go_end0
 go_wp2
 go_end0
 exact⟨Y,Y⟩
theorem Ahv (a:Addr) (w:World) (hc:w.cell? a=some (.int .i32 0)) (hz:w.frozen? a=false) :
  Calls Tryz.prog 277 #[.pointer (some a)] w fun e w'=>e=.returned (.tuple #[])∧w'=w.setCell a (.int .i32 1):=by
 have hd:=Qt
 have he:=Tg
 have ha:=Y2
 have hcas:=run_call_cas_hit (P:=Tryz.prog) Tryz.func397 j_ j_ j_ .i32 j_ (y:=1) hc hz
 have hc':(w.setCell a (.int .i32 1)).cell? a=some (.int .i32 1):=World.cell?_setCell_same w a _ hc
 have hcv:=run_convert_to_unsafe (P:=Tryz.prog) (src:=388) (dst:=380) Tryz.underlying388 Tryz.underlying380 j_ hc'
 go_enter Tryz.func277,Tryz.ntmps277
 go_wp2
 first | go_end0 | (simp only[Exit.inBlock,Exit.then];refine bodyPost_ret (results_none rfl _ _ _) rfl ?_) | refine bodyPost_ret (results_none rfl _ _ _) rfl ?_
 go_wp2
 go_end0
 exact⟨Y,Y⟩
theorem Ctx.behindN {K:Nat→Prop} {κ κ2:Ka} {w w1 w2:World} (s:Step K κ w κ w1) (c:Ctx ⟨w1,κ,[]⟩ κ2 w2):Ctx ⟨w,κ,[]⟩ κ2 w2 where
 size:=Nat.le_trans s.size c.size
 os:=c.os.trans s.os
 tape:=c.tape.trans s.tape
 output:=c.output.trans s.output
 M:=c.M
 old:=fun b hb h=>by
  refine(c.old b (Nat.lt_of_lt_of_le hb s.size) h).trans ?_
  by_cases hm:κ.M b
  ·exact s.mkeep b hm
  ·exact s.blk b hb (fun ho=>by
    rcases ho with ⟨k,hk⟩ | ho
    ·exact h k hk
    ·exact hm ho)
 own:=fun k b hk=>by
  rcases c.own k b hk with h | h
  ·exact .inl (Nat.le_trans s.size h)
  ·exact .inr h
 nam:=c.nam
theorem Aij {κ:Ka} {w:World} (hi:Inv κ w):Step (fun _=>False) κ w κ w.drew∧Inv κ w.drew:=by
 have g:=Grew.drew w
 exact⟨⟨g.size,g.os,g.tape,g.output,Y,fun b _=>rfl,fun b _ _=>rfl,fun _ _ _ _=>rfl,fun _ _=>rfl,fun _ h=>h.elim,fun _ h=>.inl h⟩,⟨hi.inj,hi.bnd,hi.apart,hi.mbnd⟩⟩
theorem Aj8 (M:List LineM) (hM:∀ l∈M,LineW l) (hl:M.length<2147483648) :
  Sy.Spec Tryz.prog 205 [.ptr 0 0,.clo (.func 112) [.ptr 0 0] []] (Ey 0 0 M (emptyN,0,0)) (.tup []) (Ey 1 0 M (Co M)):=by
 intro κ w vs hi hnew hvs hok
 have o1:=hok (0,.box (S5 0 0 M emptyN 0 0)) (by simp[Ey])
 obtain ⟨b,e1,c1,c2,st1,inv1,ob1⟩:=H7 (off:=1) (x:=.val (.int .i32 1)) (v:=.int .i32 1) hi o1 rfl (fun _ _=>by simp only[Rd]) rfl
 simp only[RdL,Rd,e1]at hvs
 obtain ⟨v0,r0,rfl,rfl,v1,r1,rfl,⟨fs,cs,rfl,hfs,hcs⟩,rfl⟩:=hvs
 obtain ⟨p3,q3,rfl,rfl,rfl⟩:=hfs
 subst hcs
 have hcl:=Agn M hM hl 0 1 κ (w.setCell ⟨b,1,none⟩ (.int .i32 1)) [.pointer (some ⟨b,0,none⟩)] inv1 hnew (by simp only[RdL,Rd,e1];exact⟨_,_,rfl,rfl,rfl⟩) (fun p hp=>by
  simp only[Ey,List.mem_cons,List.not_mem_nil,or_false]at hp
  rw[hp]
  exact ob1)
 obtain ⟨u1,hu1,hr1⟩:=c1 0 (.val (.int .u32 0)) rfl
 obtain ⟨u2,hu2,hr2⟩:=c1 1 (.val (.int .i32 0)) rfl
 rw[hr1.val]at hu1
 rw[hr2.val]at hu2
 have f1:=c2 0 (show 0<14 by decide)
 have f2:=c2 1 (show 1<14 by decide)
 have hl:=Aje ⟨b,0,none⟩ 0 (w.setCell ⟨b,1,none⟩ (.int .i32 1)) ((World.cell?_setCell_other _ ⟨b,1,none⟩ ⟨b,0,none⟩ _ qe).trans hu1)
 have hnot:∀ (x:Bool) (w:World),(Op.unary .not (.bool x)).run Tryz.prog w=.ok (.bool (!x)) w:=fun _ _=>rfl
 go_enter_defers Tryz.func205,Tryz.ntmps205
 go_wp2_with (first | (go_at_call 277;refine(Ahv ⟨b,1,none⟩ _ (by assumption) (by assumption)).mono ?_;rintro e w' ⟨rfl,rfl⟩) | (go_at_call 112;refine hcl.mono ?_;rintro e w' ⟨v,κ2,rfl,hc2,hi2,hv2,ok2⟩) | (go_at_call 204;go_in))
 have p1:=ok2 (0,.box (S5 0 1 M (Co M).1 (Co M).2.1 (Co M).2.2)) (by simp[Ey])
 have k1:κ2 0=.blk b:=by
  obtain ⟨bb,_,_,_,q1,_⟩:=id p1
  rcases hc2.nam 0 (by rw[e1];intro h;cases h) with h | h
  ·rw[h];exact e1
  ·rw[h]at q1;cases q1
 obtain ⟨ba,a1,a2,a3,_,_,_⟩:=H7 (off:=0) (x:=.val (.int .u32 1)) (v:=.int .u32 1) hi2 p1 rfl (fun _ _=>by simp only[Rd]) rfl
 rw[k1]at a1
 cases a1
 obtain ⟨std,invd⟩:=Aij hi2
 have p2:=ObOK.step std (k:=0) (fun h=>h) _ p1
 obtain ⟨ba,a1,_,_,st3,inv3,ob3⟩:=H7 (off:=0) (x:=.val (.int .u32 1)) (v:=.int .u32 1) invd p2 rfl (fun _ _=>by simp only[Rd]) rfl
 rw[k1]at a1
 cases a1
 have ob3:ObOK κ2 (w'.drew.setCell ⟨b,0,none⟩ (.int .u32 1)) 0 (.box (S5 1 1 M (Co M).1 (Co M).2.1 (Co M).2.2)):=ob3
 obtain ⟨ba,a1,a4,a5,st4,inv4,ob4⟩:=H7 (off:=1) (x:=.val (.int .i32 0)) (v:=.int .i32 0) inv3 ob3 rfl (fun _ _=>by simp only[Rd]) rfl
 rw[k1]at a1
 cases a1
 have ob4:ObOK κ2 ((w'.drew.setCell ⟨b,0,none⟩ (.int .u32 1)).setCell ⟨b,1,none⟩ (.int .i32 0)) 0 (.box (S5 1 0 M (Co M).1 (Co M).2.1 (Co M).2.2)):=ob4
 obtain ⟨v1,hv1,hr1⟩:=a2 0 (.val (.int .u32 0)) rfl
 rw[hr1.val]at hv1
 obtain ⟨v2,hv2,hr2⟩:=a4 1 (.val (.int .i32 1)) rfl
 rw[hr2.val]at hv2
 refine leaves_cons (f:=279) (args:=#[.pointer (some ⟨b,0,none⟩),.bool true]) qe (by simp[go_sem]) ?_
 refine(V9 ⟨b,0,none⟩ (.int .u32 0) .returning _ hv1 (a3 0 (show 0<14 by decide))).mono ?_
 rintro e u' w'' ⟨rfl,rfl,rfl⟩
 refine leaves_cons (f:=278) (args:=#[.pointer (some ⟨b,1,none⟩)]) (by simp[settle]) (by simp[go_sem]) ?_
 refine(Uh ⟨b,1,none⟩ _ _ hv2 (a5 1 (show 1<14 by decide))).mono ?_
 rintro e u' w'' ⟨rfl,rfl,rfl⟩
 have hst:Step (·=0) κ2 w' κ2 ((w'.drew.setCell ⟨b,0,none⟩ (.int .u32 1)).setCell ⟨b,1,none⟩ (.int .i32 0)):=(std.weaken (fun _ h=>h.elim)).trans (st3.trans st4)
 refine⟨.tuple #[],by simp[results,Tryz.results205],.tuple #[],κ2,Y,Ctx.behindN st1 (hc2.step inv4 hst),inv4,⟨[],Y,Y⟩,fun p hp=>?_⟩
 simp only[Ey,List.mem_cons,List.not_mem_nil,or_false]at hp
 rw[hp]
 exact ob4
theorem Aj9 (M:List LineM) (dn lk:Int) (x:Net × Int × Int):Sy.Spec Tryz.prog 204 [.ptr 0 0] (Ey dn lk M x) (Ab (dn != 0)) (Ey dn lk M x):=cT F204 Tryz.ntmps204 fun F hF=>by
 ((conv=>whnf);repeat((first|refine aF ?_|refine aT ?_);(first|refine rG Γ hm ?_|refine rD Γ hm j_ ?_);conv=>whnf))
 refine C0 (Zh Aje Y Y Y Y) Y Y ?_
 ((first|refine rG Γ hm ?_|refine rD Γ hm j_ ?_);(conv=>whnf);repeat((first|refine aF ?_|refine aT ?_);(first|refine rG Γ hm ?_|refine rD Γ hm j_ ?_);conv=>whnf))
 exact done Y (.cons .tmp .nil) [] (Ey dn lk M x) (fun _ h=>h) Y Y U
theorem App (M:List LineM) (hM:∀ l∈M,LineW l) (hl:M.length<2147483648) :
  Sy.Spec Tryz.prog 111 [.ptr 0 0,.clo (.func 112) [.ptr 0 0] []] (Ey 0 0 M (emptyN,0,0)) (.tup []) (Ey 1 0 M (Co M)):=cT F111 Tryz.ntmps111 fun F hF=>by
 have q1:Sy.Spec Tryz.prog 204 [.ptr 0 0] (Ey 0 0 M (emptyN,0,0)) (Ab false) (Ey 0 0 M (emptyN,0,0)):=Aj9 M 0 0 (emptyN,0,0)
 have q2:=Aj8 M hM hl
 ((conv=>whnf);repeat((first|refine aF ?_|refine aT ?_);(first|refine rG Γ hm ?_|refine rD Γ hm j_ ?_);conv=>whnf))
 refine X (Af [] Y F204 q1 Y W Y V) ?_
 ((first|refine rG Γ hm ?_|refine rD Γ hm j_ ?_);(conv=>whnf);repeat((first|refine aF ?_|refine aT ?_);(first|refine rG Γ hm ?_|refine rD Γ hm j_ ?_);conv=>whnf))
 refine X (Af [] Y F205 q2 Y W Y V) ?_
 ((first|refine rG Γ hm ?_|refine rD Γ hm j_ ?_);(conv=>whnf);repeat((first|refine aF ?_|refine aT ?_);(first|refine rG Γ hm ?_|refine rD Γ hm j_ ?_);conv=>whnf))
 exact C3 Y .nil [] (Ey 1 0 M (Co M)) (fun _ h=>h) Y Y U
theorem Amq (M:List LineM) (hM:∀ l∈M,LineW l) (hl:M.length<2147483648):Sy.Spec Tryz.prog 33 [.ptr 0 0] (Ey 0 0 M (emptyN,0,0)) (.tup [Aj (Co M).1,Aa (Co M).2.1,Aa (Co M).2.2]) (Ey 1 0 M (Co M)):=cT F33 Tryz.ntmps33 fun F hF=>by
 have q:=App M hM hl
 refine T ?_
 refine X (Af [] Y F111 q Y W Y V) ?_
 refine T ?_
 exact done Y (.cons (.cell Y Y Y Y) (.cons .tmp (.cons .tmp .nil))) [] (Ey 1 0 M (Co M)) (fun _ h=>h) Y Y U
theorem Z0 (M:List LineM) (hM:∀ l∈M,LineW l) (hl:M.length<2147483648):Sy.Spec Tryz.prog 13 [.sl 17 Al M] [] (.tup [Aj (Co M).1,Aa (Co M).2.1,Aa (Co M).2.2]) []:=cT F13 Tryz.ntmps13 fun F hF=>by
 have q:=Amq M hM hl
 refine T ?_
 refine Ag 8 (S5 0 0 M emptyN 0 0) Y (.cons (.refl _) (.cons (.refl _) (.cons (.refl _) (.cons (.refl _) (.cons .nil (.cons .nil (.cons .nil (.cons .nil (.cons .nil (.cons .nil (.cons .nil (.cons .nil (.cons (.refl _) (.cons (.refl _) .nil)))))))))))))) ?_
 refine X (Af [(0,8)] Y F33 q Y W Y V) ?_
 refine T ?_
 exact D
def Jn (e:Int) (l:List (Bool × Int)):Int:=l.foldl (fun e x=>An e x.1 x.2) e
theorem Vy:∀ (l:List (Bool × Int)) (e:Int),(∀ x∈l,x.2≠0)→Jn e l=if e=0 then Bc l else e
 | [],e,_=>by
  show e=_
  split
  ·rename_i h;rw[h];rfl
  ·rfl
 | (b,c)::l,e,h=>by
  have hc:=h (b,c) qe
  have ih:=Vy l (An e b c) (fun x hx=>h x (by simp[hx]))
  show Jn (An e b c) l=_
  rw[ih,Bc]
  dsimp only at hc
  by_cases he:e=0
  ·subst he
   cases b with
   | true=>simp[An,hc]
   | false=>simp[An]
  ·have:An e b c=e:=by rw[An,if_neg (fun x=>he x.2)]
   rw[this,if_neg he,if_neg he]
theorem Dm (l:List (Bool × Int)) (h:∀ x∈l,x.2≠0):Bc l=Jn 0 l:=by rw[Vy l 0 h,if_pos rfl]
theorem Qe (e:Int) (a b:List (Bool × Int)):Jn e (a++b)=Jn (Jn e a) b:=List.foldl_append
abbrev rlO (w:List ByteArray) (i:Nat) (e:Int) (l:LineM):Obs:=[(0,.box [.sl 1 Ad w,Aa i,Aa e]),(1,.box (Bi l))]
def Anh (w:List ByteArray):Nat:=if wdT w 4=accessT then 6 else if wdT w 4=trunkT then 7 else 5
theorem Vs (most:Int) (s:ByteArray):(listR most s).1.length≤16:=by
 rw[listR]
 split
 ·simp
 ·rw[Dr]
  cases h:B5 (fun p=>numR p 1 most) [] (Bd 44 s) with
  | mk l b =>
   cases b with
   | true=>exact(Im _ _ _ _ h List.Pairwise.nil y_).2.1
   | false =>
    have:∀ (ps:List ByteArray) (out r:List Int),B5 (fun p=>numR p 1 most) out ps=(r,false)→r=[]:=by
     intro ps
     induction ps with
     | nil=>intro out r h;rw[B5]at h;simp at h
     | cons p ps ih =>
      intro out r h
      rw[B5]at h
      split at h
      ·simp at h;exact h
      ·exact ih _ _ h
    rw[this _ _ _ h];simp
set_option maxRecDepth 100000 in
theorem Aps (w:List ByteArray) (e:Int) (l:LineM) (hw:w.length≤1000000) (hs:∀ s∈w,s.size≤40) (h4:4<w.length) (ha:wdT w 4=accessT→5<w.length) (htr:wdT w 4=trunkT→6<w.length) (hl0:l.vlan=0∧l.tagged=[]) :
  Sy.Spec Tryz.prog 236 [.ptr 0 0,.ptr 1 0] (rlO w 4 e l) (.tup []) (rlO w (Anh w) (Jn e ((Cj w).2.2++[(!(membersB (Cj w).1 (Cj w).2.1),21)])) { l with vlan:=(Cj w).1,tagged:=(Cj w).2.1 }):=cT F236 Tryz.ntmps236 fun F hF=>by
 obtain ⟨row,kind,dev,port,peer,far,name,mac,addr,bits,vlan,num,cost,tagged,imports,exports,addrs⟩:=l
 obtain ⟨g1,g2⟩:=hl0
 dsimp only at g1 g2
 subst g1 g2
 have q0:Sy.Spec Tryz.prog 238 [.ptr 0 0] (rdO w 4 e) (Ad (wdT w 4)) (rdO w 5 e):=Ky w 4 e h4 hw
 rw[Anh,Cj,Qe]
 by_cases c1:wdT w 4=accessT
 ·have b1:(wdT w 4 == (⟨#[97,99,99,101,115,115]⟩:ByteArray))=true:=Ca c1
  have q1:=Tf w 5 e (ha c1) hw
  rw[if_pos c1,if_pos c1]
  have q2:=Ib ⟨row,kind,dev,port,peer,far,name,mac,addr,bits,(Bl (wdT w 5)).1,num,cost,[],imports,exports,addrs⟩ (by simp[At])
  dsimp only at q2 ⊢
  have hf1:Jn e [(!(Bl (wdT w 5)).2,21)]=An e (!(Bl (wdT w 5)).2) 21:=rfl
  rw[hf1]
  have q3:=fun b=>Hv w 6 (An e (!(Bl (wdT w 5)).2) 21) b 21
  generalize An e (!(Bl (wdT w 5)).2) 21=e1 at *
  generalize (Bl (wdT w 5)).1=v at *
  have hf2:Jn e1 [(!(membersB v []),21)]=An e1 (!(membersB v [])) 21:=rfl
  rw[hf2]
  have q3:=q3 (!(membersB v []))
  generalize An e1 (!(membersB v [])) 21=e2 at *
  generalize membersB v []=mb at *
  refine T ?_
  refine X (Af [] Y F238 q0 Y W Y V) ?_
  refine X (Af [] Y F232 q1 Y W Y V) ?_
  refine C q2 F302 ?_
  refine X (Af [] Y F235 q3 Y W Y V) ?_
  exact C3 Y .nil [] (rlO w 6 e2 ⟨row,kind,dev,port,peer,far,name,mac,addr,bits,v,num,cost,[],imports,exports,addrs⟩) (fun _ h=>h) Y Y U
 ·have b1:(wdT w 4 == (⟨#[97,99,99,101,115,115]⟩:ByteArray))=false:=Cw c1
  rw[if_neg c1,if_neg c1]
  by_cases c2:wdT w 4=trunkT
  ·have b2:(wdT w 4 == (⟨#[116,114,117,110,107]⟩:ByteArray))=true:=Ca c2
   have h6:=htr c2
   have h5:((5:Nat):Int).toNat<w.length:=by show 5<w.length;omega
   have e5:w[((5:Nat):Int).toNat]'h5=wdT w 5:=(Ch z_).symm
   rw[if_pos c2,if_pos c2]
   by_cases c3:wdT w 5=dash
   ·have b3:(w[((5:Nat):Int).toNat]'h5 == (⟨#[45]⟩:ByteArray))=true:=Ca (by rw[e5];exact c3)
    rw[if_pos c3]
    have q1:=Wm w 6 e 4094 h6 hw hs
    have q2:=Ib ⟨row,kind,dev,port,peer,far,name,mac,addr,bits,0,num,cost,(listR 4094 (wdT w 6)).1,imports,exports,addrs⟩ (by have:=Vs 4094 (wdT w 6);simp only[At];omega)
    dsimp only at q2 ⊢
    have hf1:Jn e [(!(listR 4094 (wdT w 6)).2,21)]=An e (!(listR 4094 (wdT w 6)).2) 21:=rfl
    rw[hf1]
    have q3:=fun b=>Hv w 7 (An e (!(listR 4094 (wdT w 6)).2) 21) b 21
    generalize An e (!(listR 4094 (wdT w 6)).2) 21=e1 at *
    generalize (listR 4094 (wdT w 6)).1=v at *
    have hf2:Jn e1 [(!(membersB 0 v),21)]=An e1 (!(membersB 0 v)) 21:=rfl
    rw[hf2]
    have q3:=q3 (!(membersB 0 v))
    generalize An e1 (!(membersB 0 v)) 21=e2 at *
    generalize membersB 0 v=mb at *
    refine T ?_
    refine X (Af [] Y F238 q0 Y W Y V) ?_
    refine X (Af [] Y F241 q1 Y W Y V) ?_
    refine C q2 F302 ?_
    refine X (Af [] Y F235 q3 Y W Y V) ?_
    exact C3 Y .nil [] (rlO w 7 e2 ⟨row,kind,dev,port,peer,far,name,mac,addr,bits,0,num,cost,v,imports,exports,addrs⟩) (fun _ h=>h) Y Y U
   ·have b3:(w[((5:Nat):Int).toNat]'h5 == (⟨#[45]⟩:ByteArray))=false:=Cw (by rw[e5];exact c3)
    rw[if_neg c3]
    have q4:=Tf w 5 e z_ hw
    have hf1:Jn e [(!(Bl (wdT w 5)).2,21),(!(listR 4094 (wdT w 6)).2,21)]=An (An e (!(Bl (wdT w 5)).2) 21) (!(listR 4094 (wdT w 6)).2) 21:=rfl
    dsimp only
    rw[hf1]
    generalize An e (!(Bl (wdT w 5)).2) 21=e0 at *
    have q1:=Wm w 6 e0 4094 h6 hw hs
    have q2:=Ib ⟨row,kind,dev,port,peer,far,name,mac,addr,bits,(Bl (wdT w 5)).1,num,cost,(listR 4094 (wdT w 6)).1,imports,exports,addrs⟩ (by have:=Vs 4094 (wdT w 6);simp only[At];omega)
    dsimp only at q2
    have q3:=fun b=>Hv w 7 (An e0 (!(listR 4094 (wdT w 6)).2) 21) b 21
    generalize An e0 (!(listR 4094 (wdT w 6)).2) 21=e1 at *
    generalize (listR 4094 (wdT w 6)).1=v at *
    generalize (Bl (wdT w 5)).1=u at *
    have hf2:Jn e1 [(!(membersB u v),21)]=An e1 (!(membersB u v)) 21:=rfl
    rw[hf2]
    have q3:=q3 (!(membersB u v))
    generalize An e1 (!(membersB u v)) 21=e2 at *
    generalize membersB u v=mb at *
    refine T ?_
    refine X (Af [] Y F238 q0 Y W Y V) ?_
    refine X (Af [] Y F232 q4 Y W Y V) ?_
    refine X (Af [] Y F241 q1 Y W Y V) ?_
    refine C q2 F302 ?_
    refine X (Af [] Y F235 q3 Y W Y V) ?_
    exact C3 Y .nil [] (rlO w 7 e2 ⟨row,kind,dev,port,peer,far,name,mac,addr,bits,u,num,cost,v,imports,exports,addrs⟩) (fun _ h=>h) Y Y U
  ·have b2:(wdT w 4 == (⟨#[116,114,117,110,107]⟩:ByteArray))=false:=Cw c2
   rw[if_neg c2,if_neg c2]
   have q2:=Ib ⟨row,kind,dev,port,peer,far,name,mac,addr,bits,0,num,cost,[],imports,exports,addrs⟩ (by simp[At])
   dsimp only at q2 ⊢
   have hf2:Jn (Jn e []) [(!(membersB 0 []),21)]=An e (!(membersB 0 [])) 21:=rfl
   rw[hf2]
   have q3:=Hv w 5 e (!(membersB 0 [])) 21
   generalize An e (!(membersB 0 [])) 21=e2 at *
   generalize membersB 0 []=mb at *
   refine T ?_
   refine X (Af [] Y F238 q0 Y W Y V) ?_
   refine C q2 F302 ?_
   refine X (Af [] Y F235 q3 Y W Y V) ?_
   exact C3 Y .nil [] (rlO w 5 e2 ⟨row,kind,dev,port,peer,far,name,mac,addr,bits,0,num,cost,[],imports,exports,addrs⟩) (fun _ h=>h) Y Y U
theorem Vt (s:ByteArray):0≤kindL s∧kindL s≤9:=by
 rw[kindL]
 repeat' split
 all_goals decide
theorem Hr {k:Int} {w:List ByteArray} (h:manyB k w=true):(k=1∨k=6∨k=7→w.length=4)∧(k=3∨k=4∨k=8∨k=9→w.length=5)∧(k=5→w.length=3)∧(k=2→6≤w.length∧w.length≤7∧(wdT w 4=trunkT→w.length=7))∧k≠0:=by
 rw[manyB]at h
 by_cases h0:k=0
 ·rw[if_pos h0]at h;cases h
 rw[if_neg h0]at h
 by_cases h2:k=2
 ·rw[if_pos h2]at h
  by_cases h6:w.length<6
  ·rw[if_pos h6]at h;cases h
  rw[if_neg h6]at h
  refine⟨fun x=>by omega,fun x=>by omega,fun x=>by omega,fun _=>?_,h0⟩
  by_cases ca:wdT w 4=accessT
  ·rw[if_pos ca]at h
   have:=of_decide_eq_true h
   refine⟨by omega,by omega,fun x=>?_⟩
   rw[ca]at x
   exact absurd x Va
  ·rw[if_neg ca]at h
   by_cases ctr:wdT w 4=trunkT
   ·rw[if_pos ctr]at h
    have:=of_decide_eq_true h
    exact⟨by omega,by omega,fun _=>this⟩
   ·rw[if_neg ctr]at h
    have:=of_decide_eq_true h
    exact⟨by omega,by omega,fun x=>absurd x ctr⟩
 rw[if_neg h2]at h
 by_cases h3:k=3∨k=4∨k=8∨k=9
 ·rw[if_pos h3]at h
  have:=of_decide_eq_true h
  exact⟨fun x=>by omega,fun _=>this,fun x=>by omega,fun x=>by omega,h0⟩
 rw[if_neg h3]at h
 by_cases h5:k=5
 ·rw[if_pos h5]at h
  have:=of_decide_eq_true h
  exact⟨fun x=>by omega,fun x=>by omega,fun _=>this,fun x=>by omega,h0⟩
 rw[if_neg h5]at h
 have:=of_decide_eq_true h
 exact⟨fun _=>this,fun x=>by omega,fun x=>by omega,fun x=>absurd x h2,h0⟩
theorem Agj (w:List ByteArray) (row:Int) (hw:w.length≤1000000) (hs:∀ s∈w,s.size≤40) (hne:0<w.length) (hk:kindL (wdT w 0)=1) (hmy:manyB 1 w=true) :
  Sy.Spec Tryz.prog 146 [.sl 1 Ad w,Aa row] [] (.tup [Al (Bt w row).1,Aa (Bt w row).2]) []:=cT F146 Tryz.ntmps146 fun F hF=>by
 have hn0:(0:Int).toNat<w.length:=hne
 have f0:((w.length:Int) == 0)=false:=by rw[beq_eq_false_iff_ne];omega
 have hx0:w[(0:Int).toNat]'hn0=wdT w 0:=(Ch hne).symm
 have qk:Sy.Spec Tryz.prog 230 [Ad (w[(0:Int).toNat]'hn0)] [] (Aa 1) []:=by
  have:=Ew (wdT w 0)
  rw[hk]at this
  rw[hx0];exact this
 have qm:=Ev 1 y_ w hw
 rw[hmy]at qm
 have hml:=Hr hmy
 have hsT:Bt w row=if Bc (A5 w row).2≠0 then (lineZ,Bc (A5 w row).2) else ((A5 w row).1,0):=by
  rw[Bt,if_neg]
  rintro (hh | hh)
  ·rw[hh]at hne;simp at hne
  ·rw[hk,hmy]at hh;cases hh
 have hfe:=Dm _ (D0 w row)
 have hl:w.length=4:=hml.1 y_
 have q1:=Eg w 1 (0:Int) z_ hw hs
 obtain ⟨e1,he1⟩:∃ e,An (0:Int) (!(nameB (wdT w 1))) 20=e:=⟨_,rfl⟩
 rw[he1]at q1
 have q2:=O9 w 2 e1 0 65535 z_ hw
 obtain ⟨e2,he2⟩:∃ e,An e1 (!(numR (wdT w 2) 0 65535).2) 21=e:=⟨_,rfl⟩
 rw[he2]at q2
 have q3:=Am1 w 3 e2 z_ hw hs
 obtain ⟨e3,he3⟩:∃ e,An e2 (macE (wdT w 3)) 21=e:=⟨_,rfl⟩
 rw[he3]at q3
 have hR:A5 w row=({ lineZ with row:=row,kind:=1,dev:=wdT w 1,num:=(numR (wdT w 2) 0 65535).1,mac:=(macR (wdT w 3)).1 },[((!(nameB (wdT w 1))),20),((!(numR (wdT w 2) 0 65535).2),21),((macE (wdT w 3)),21)]):=by
  unfold A5
  simp only[hk]
  rfl
 rw[hR]at hsT hfe
 have hfe:Bc _=e3:=hfe.trans (by
  show An (An (An ((0:Int)) (!(nameB (wdT w 1))) 20) (!(numR (wdT w 2) 0 65535).2) 21) (macE (wdT w 3)) 21=_
  rw[he1,he2,he3])
 rw[hfe]at hsT
 rw[hsT]
 generalize e3=eN at *
 refine T ?_
 refine C qk F230 ?_
 refine C qm F229 ?_
 refine C qk F230 ?_
 refine Ag 9 (Bi { lineZ with row:=row,kind:=1 }) rfl (.cons (.refl _) (.cons (.refl _) (.cons (.refl _) (.cons (.refl _) (.cons (.refl _) (.cons (.refl _) (.cons (.refl _) (.cons (.refl _) (.cons (.refl _) (.cons (.refl _) (.cons (.refl _) (.cons (.refl _) (.cons (.refl _) (.cons .nil (.cons .nil (.cons .nil (.cons .nil .nil))))))))))))))))) ?_
 refine T ?_
 refine X (Ax [(0,31)] (A0 Y Y F231) q1 Y W Y V) ?_
 refine X (Af [(0,31)] Y F233 q2 Y W Y V) ?_
 refine X (Af [(0,31)] Y F234 q3 Y W Y V) ?_
 cases hz:(eN != 0)
 ·have hz0:eN=0:=by simpa using hz
  rw[if_neg (by rw[hz0];simp)]
  refine T ?_
  exact D
 ·have hz0:eN≠0:=by simpa using hz
  rw[if_pos hz0]
  refine T ?_
  refine Ag 4 (Bi lineZ) Y (.cons (.refl _) (.cons (.refl _) (.cons (.refl _) (.cons (.refl _) (.cons (.refl _) (.cons (.refl _) (.cons (.refl _) (.cons (.refl _) (.cons (.refl _) (.cons (.refl _) (.cons (.refl _) (.cons (.refl _) (.cons (.refl _) (.cons .nil (.cons .nil (.cons .nil (.cons .nil .nil))))))))))))))))) ?_
  refine T ?_
  exact D
theorem Agh (w:List ByteArray) (row:Int) (hw:w.length≤1000000) (hs:∀ s∈w,s.size≤40) (hne:0<w.length) (hk:kindL (wdT w 0)=3) (hmy:manyB 3 w=true) :
  Sy.Spec Tryz.prog 146 [.sl 1 Ad w,Aa row] [] (.tup [Al (Bt w row).1,Aa (Bt w row).2]) []:=cT F146 Tryz.ntmps146 fun F hF=>by
 have hn0:(0:Int).toNat<w.length:=hne
 have f0:((w.length:Int) == 0)=false:=by rw[beq_eq_false_iff_ne];omega
 have hx0:w[(0:Int).toNat]'hn0=wdT w 0:=(Ch hne).symm
 have qk:Sy.Spec Tryz.prog 230 [Ad (w[(0:Int).toNat]'hn0)] [] (Aa 3) []:=by
  have:=Ew (wdT w 0)
  rw[hk]at this
  rw[hx0];exact this
 have qm:=Ev 3 y_ w hw
 rw[hmy]at qm
 have hml:=Hr hmy
 have hsT:Bt w row=if Bc (A5 w row).2≠0 then (lineZ,Bc (A5 w row).2) else ((A5 w row).1,0):=by
  rw[Bt,if_neg]
  rintro (hh | hh)
  ·rw[hh]at hne;simp at hne
  ·rw[hk,hmy]at hh;cases hh
 have hfe:=Dm _ (D0 w row)
 have hl:w.length=5:=hml.2.1 y_
 have q1:=Eg w 1 (0:Int) z_ hw hs
 obtain ⟨e1,he1⟩:∃ e,An (0:Int) (!(nameB (wdT w 1))) 20=e:=⟨_,rfl⟩
 rw[he1]at q1
 have q2:=Eg w 2 e1 z_ hw hs
 obtain ⟨e2,he2⟩:∃ e,An e1 (!(nameB (wdT w 2))) 20=e:=⟨_,rfl⟩
 rw[he2]at q2
 have q3:=Eg w 3 e2 z_ hw hs
 obtain ⟨e3,he3⟩:∃ e,An e2 (!(nameB (wdT w 3))) 20=e:=⟨_,rfl⟩
 rw[he3]at q3
 have q4:=Eg w 4 e3 z_ hw hs
 obtain ⟨e4,he4⟩:∃ e,An e3 (!(nameB (wdT w 4))) 20=e:=⟨_,rfl⟩
 rw[he4]at q4
 have hR:A5 w row=({ lineZ with row:=row,kind:=3,dev:=wdT w 1,port:=wdT w 2,peer:=wdT w 3,far:=wdT w 4 },[((!(nameB (wdT w 1))),20),((!(nameB (wdT w 2))),20),((!(nameB (wdT w 3))),20),((!(nameB (wdT w 4))),20)]):=by
  unfold A5
  simp only[hk]
  rfl
 rw[hR]at hsT hfe
 have hfe:Bc _=e4:=hfe.trans (by
  show An (An (An (An ((0:Int)) (!(nameB (wdT w 1))) 20) (!(nameB (wdT w 2))) 20) (!(nameB (wdT w 3))) 20) (!(nameB (wdT w 4))) 20=_
  rw[he1,he2,he3,he4])
 rw[hfe]at hsT
 rw[hsT]
 generalize e4=eN at *
 refine T ?_
 refine C qk F230 ?_
 refine C qm F229 ?_
 refine C qk F230 ?_
 refine Ag 9 (Bi { lineZ with row:=row,kind:=3 }) rfl (.cons (.refl _) (.cons (.refl _) (.cons (.refl _) (.cons (.refl _) (.cons (.refl _) (.cons (.refl _) (.cons (.refl _) (.cons (.refl _) (.cons (.refl _) (.cons (.refl _) (.cons (.refl _) (.cons (.refl _) (.cons (.refl _) (.cons .nil (.cons .nil (.cons .nil (.cons .nil .nil))))))))))))))))) ?_
 refine T ?_
 refine X (Ax [(0,31)] (A0 Y Y F231) q1 Y W Y V) ?_
 refine X (Ax [(0,31)] (A0 Y Y F231) q2 Y W Y V) ?_
 refine X (Ax [(0,31)] (A0 Y Y F231) q3 Y W Y V) ?_
 refine X (Ax [(0,31)] (A0 Y Y F231) q4 Y W Y V) ?_
 cases hz:(eN != 0)
 ·have hz0:eN=0:=by simpa using hz
  rw[if_neg (by rw[hz0];simp)]
  refine T ?_
  exact D
 ·have hz0:eN≠0:=by simpa using hz
  rw[if_pos hz0]
  refine T ?_
  refine Ag 4 (Bi lineZ) Y (.cons (.refl _) (.cons (.refl _) (.cons (.refl _) (.cons (.refl _) (.cons (.refl _) (.cons (.refl _) (.cons (.refl _) (.cons (.refl _) (.cons (.refl _) (.cons (.refl _) (.cons (.refl _) (.cons (.refl _) (.cons (.refl _) (.cons .nil (.cons .nil (.cons .nil (.cons .nil .nil))))))))))))))))) ?_
  refine T ?_
  exact D
theorem Agg (w:List ByteArray) (row:Int) (hw:w.length≤1000000) (hs:∀ s∈w,s.size≤40) (hne:0<w.length) (hk:kindL (wdT w 0)=4) (hmy:manyB 4 w=true) :
  Sy.Spec Tryz.prog 146 [.sl 1 Ad w,Aa row] [] (.tup [Al (Bt w row).1,Aa (Bt w row).2]) []:=cT F146 Tryz.ntmps146 fun F hF=>by
 have hn0:(0:Int).toNat<w.length:=hne
 have f0:((w.length:Int) == 0)=false:=by rw[beq_eq_false_iff_ne];omega
 have hx0:w[(0:Int).toNat]'hn0=wdT w 0:=(Ch hne).symm
 have qk:Sy.Spec Tryz.prog 230 [Ad (w[(0:Int).toNat]'hn0)] [] (Aa 4) []:=by
  have:=Ew (wdT w 0)
  rw[hk]at this
  rw[hx0];exact this
 have qm:=Ev 4 y_ w hw
 rw[hmy]at qm
 have hml:=Hr hmy
 have hsT:Bt w row=if Bc (A5 w row).2≠0 then (lineZ,Bc (A5 w row).2) else ((A5 w row).1,0):=by
  rw[Bt,if_neg]
  rintro (hh | hh)
  ·rw[hh]at hne;simp at hne
  ·rw[hk,hmy]at hh;cases hh
 have hfe:=Dm _ (D0 w row)
 have hl:w.length=5:=hml.2.1 y_
 have q1:=Eg w 1 (0:Int) z_ hw hs
 obtain ⟨e1,he1⟩:∃ e,An (0:Int) (!(nameB (wdT w 1))) 20=e:=⟨_,rfl⟩
 rw[he1]at q1
 have q2:=Tf w 2 e1 z_ hw
 obtain ⟨e2,he2⟩:∃ e,An e1 (!(Bl (wdT w 2)).2) 21=e:=⟨_,rfl⟩
 rw[he2]at q2
 have q3:=Am1 w 3 e2 z_ hw hs
 obtain ⟨e3,he3⟩:∃ e,An e2 (macE (wdT w 3)) 21=e:=⟨_,rfl⟩
 rw[he3]at q3
 have q4:=Eg w 4 e3 z_ hw hs
 obtain ⟨e4,he4⟩:∃ e,An e3 (!(nameB (wdT w 4))) 20=e:=⟨_,rfl⟩
 rw[he4]at q4
 have hR:A5 w row=({ lineZ with row:=row,kind:=4,dev:=wdT w 1,vlan:=(Bl (wdT w 2)).1,mac:=(macR (wdT w 3)).1,port:=wdT w 4 },[((!(nameB (wdT w 1))),20),((!(Bl (wdT w 2)).2),21),((macE (wdT w 3)),21),((!(nameB (wdT w 4))),20)]):=by
  unfold A5
  simp only[hk]
  rfl
 rw[hR]at hsT hfe
 have hfe:Bc _=e4:=hfe.trans (by
  show An (An (An (An ((0:Int)) (!(nameB (wdT w 1))) 20) (!(Bl (wdT w 2)).2) 21) (macE (wdT w 3)) 21) (!(nameB (wdT w 4))) 20=_
  rw[he1,he2,he3,he4])
 rw[hfe]at hsT
 rw[hsT]
 generalize e4=eN at *
 refine T ?_
 refine C qk F230 ?_
 refine C qm F229 ?_
 refine C qk F230 ?_
 refine Ag 9 (Bi { lineZ with row:=row,kind:=4 }) rfl (.cons (.refl _) (.cons (.refl _) (.cons (.refl _) (.cons (.refl _) (.cons (.refl _) (.cons (.refl _) (.cons (.refl _) (.cons (.refl _) (.cons (.refl _) (.cons (.refl _) (.cons (.refl _) (.cons (.refl _) (.cons (.refl _) (.cons .nil (.cons .nil (.cons .nil (.cons .nil .nil))))))))))))))))) ?_
 refine T ?_
 refine X (Ax [(0,31)] (A0 Y Y F231) q1 Y W Y V) ?_
 refine X (Ax [(0,31)] (A0 Y Y F232) q2 Y W Y V) ?_
 refine X (Af [(0,31)] Y F234 q3 Y W Y V) ?_
 refine X (Ax [(0,31)] (A0 Y Y F231) q4 Y W Y V) ?_
 cases hz:(eN != 0)
 ·have hz0:eN=0:=by simpa using hz
  rw[if_neg (by rw[hz0];simp)]
  refine T ?_
  exact D
 ·have hz0:eN≠0:=by simpa using hz
  rw[if_pos hz0]
  refine T ?_
  refine Ag 4 (Bi lineZ) Y (.cons (.refl _) (.cons (.refl _) (.cons (.refl _) (.cons (.refl _) (.cons (.refl _) (.cons (.refl _) (.cons (.refl _) (.cons (.refl _) (.cons (.refl _) (.cons (.refl _) (.cons (.refl _) (.cons (.refl _) (.cons (.refl _) (.cons .nil (.cons .nil (.cons .nil (.cons .nil .nil))))))))))))))))) ?_
  refine T ?_
  exact D
theorem Age (w:List ByteArray) (row:Int) (hw:w.length≤1000000) (hs:∀ s∈w,s.size≤40) (hne:0<w.length) (hk:kindL (wdT w 0)=6) (hmy:manyB 6 w=true) :
  Sy.Spec Tryz.prog 146 [.sl 1 Ad w,Aa row] [] (.tup [Al (Bt w row).1,Aa (Bt w row).2]) []:=cT F146 Tryz.ntmps146 fun F hF=>by
 have hn0:(0:Int).toNat<w.length:=hne
 have f0:((w.length:Int) == 0)=false:=by rw[beq_eq_false_iff_ne];omega
 have hx0:w[(0:Int).toNat]'hn0=wdT w 0:=(Ch hne).symm
 have qk:Sy.Spec Tryz.prog 230 [Ad (w[(0:Int).toNat]'hn0)] [] (Aa 6) []:=by
  have:=Ew (wdT w 0)
  rw[hk]at this
  rw[hx0];exact this
 have qm:=Ev 6 y_ w hw
 rw[hmy]at qm
 have hml:=Hr hmy
 have hsT:Bt w row=if Bc (A5 w row).2≠0 then (lineZ,Bc (A5 w row).2) else ((A5 w row).1,0):=by
  rw[Bt,if_neg]
  rintro (hh | hh)
  ·rw[hh]at hne;simp at hne
  ·rw[hk,hmy]at hh;cases hh
 have hfe:=Dm _ (D0 w row)
 have hl:w.length=4:=hml.1 y_
 have q1:=Eg w 1 (0:Int) z_ hw hs
 obtain ⟨e1,he1⟩:∃ e,An (0:Int) (!(nameB (wdT w 1))) 20=e:=⟨_,rfl⟩
 rw[he1]at q1
 have q2:=Tf w 2 e1 z_ hw
 obtain ⟨e2,he2⟩:∃ e,An e1 (!(Bl (wdT w 2)).2) 21=e:=⟨_,rfl⟩
 rw[he2]at q2
 have q3:=Am0 w 3 e2 z_ hw
 obtain ⟨e3,he3⟩:∃ e,An e2 (!(Hy (wdT w 3)).2) 21=e:=⟨_,rfl⟩
 rw[he3]at q3
 have hR:A5 w row=({ lineZ with row:=row,kind:=6,dev:=wdT w 1,vlan:=(Bl (wdT w 2)).1,num:=(Hy (wdT w 3)).1 },[((!(nameB (wdT w 1))),20),((!(Bl (wdT w 2)).2),21),((!(Hy (wdT w 3)).2),21)]):=by
  unfold A5
  simp only[hk]
  rfl
 rw[hR]at hsT hfe
 have hfe:Bc _=e3:=hfe.trans (by
  show An (An (An ((0:Int)) (!(nameB (wdT w 1))) 20) (!(Bl (wdT w 2)).2) 21) (!(Hy (wdT w 3)).2) 21=_
  rw[he1,he2,he3])
 rw[hfe]at hsT
 rw[hsT]
 generalize e3=eN at *
 refine T ?_
 refine C qk F230 ?_
 refine C qm F229 ?_
 refine C qk F230 ?_
 refine Ag 9 (Bi { lineZ with row:=row,kind:=6 }) rfl (.cons (.refl _) (.cons (.refl _) (.cons (.refl _) (.cons (.refl _) (.cons (.refl _) (.cons (.refl _) (.cons (.refl _) (.cons (.refl _) (.cons (.refl _) (.cons (.refl _) (.cons (.refl _) (.cons (.refl _) (.cons (.refl _) (.cons .nil (.cons .nil (.cons .nil (.cons .nil .nil))))))))))))))))) ?_
 refine T ?_
 refine X (Ax [(0,31)] (A0 Y Y F231) q1 Y W Y V) ?_
 refine X (Ax [(0,31)] (A0 Y Y F232) q2 Y W Y V) ?_
 refine X (Af [(0,31)] Y F239 q3 Y W Y V) ?_
 cases hz:(eN != 0)
 ·have hz0:eN=0:=by simpa using hz
  rw[if_neg (by rw[hz0];simp)]
  refine T ?_
  exact D
 ·have hz0:eN≠0:=by simpa using hz
  rw[if_pos hz0]
  refine T ?_
  refine Ag 4 (Bi lineZ) Y (.cons (.refl _) (.cons (.refl _) (.cons (.refl _) (.cons (.refl _) (.cons (.refl _) (.cons (.refl _) (.cons (.refl _) (.cons (.refl _) (.cons (.refl _) (.cons (.refl _) (.cons (.refl _) (.cons (.refl _) (.cons (.refl _) (.cons .nil (.cons .nil (.cons .nil (.cons .nil .nil))))))))))))))))) ?_
  refine T ?_
  exact D
theorem Agc (w:List ByteArray) (row:Int) (hw:w.length≤1000000) (hs:∀ s∈w,s.size≤40) (hne:0<w.length) (hk:kindL (wdT w 0)=8) (hmy:manyB 8 w=true) :
  Sy.Spec Tryz.prog 146 [.sl 1 Ad w,Aa row] [] (.tup [Al (Bt w row).1,Aa (Bt w row).2]) []:=cT F146 Tryz.ntmps146 fun F hF=>by
 have hn0:(0:Int).toNat<w.length:=hne
 have f0:((w.length:Int) == 0)=false:=by rw[beq_eq_false_iff_ne];omega
 have hx0:w[(0:Int).toNat]'hn0=wdT w 0:=(Ch hne).symm
 have qk:Sy.Spec Tryz.prog 230 [Ad (w[(0:Int).toNat]'hn0)] [] (Aa 8) []:=by
  have:=Ew (wdT w 0)
  rw[hk]at this
  rw[hx0];exact this
 have qm:=Ev 8 y_ w hw
 rw[hmy]at qm
 have hml:=Hr hmy
 have hsT:Bt w row=if Bc (A5 w row).2≠0 then (lineZ,Bc (A5 w row).2) else ((A5 w row).1,0):=by
  rw[Bt,if_neg]
  rintro (hh | hh)
  ·rw[hh]at hne;simp at hne
  ·rw[hk,hmy]at hh;cases hh
 have hfe:=Dm _ (D0 w row)
 have hl:w.length=5:=hml.2.1 y_
 have q1:=Eg w 1 (0:Int) z_ hw hs
 obtain ⟨e1,he1⟩:∃ e,An (0:Int) (!(nameB (wdT w 1))) 20=e:=⟨_,rfl⟩
 rw[he1]at q1
 have q2:=Eg w 2 e1 z_ hw hs
 obtain ⟨e2,he2⟩:∃ e,An e1 (!(nameB (wdT w 2))) 20=e:=⟨_,rfl⟩
 rw[he2]at q2
 have q3:=Wm w 3 e2 65535 z_ hw hs
 obtain ⟨e3,he3⟩:∃ e,An e2 (!(listR 65535 (wdT w 3)).2) 21=e:=⟨_,rfl⟩
 rw[he3]at q3
 have q4:=Wm w 4 e3 65535 z_ hw hs
 obtain ⟨e4,he4⟩:∃ e,An e3 (!(listR 65535 (wdT w 4)).2) 21=e:=⟨_,rfl⟩
 rw[he4]at q4
 have hR:A5 w row=({ lineZ with row:=row,kind:=8,dev:=wdT w 1,name:=wdT w 2,imports:=(listR 65535 (wdT w 3)).1,exports:=(listR 65535 (wdT w 4)).1 },[((!(nameB (wdT w 1))),20),((!(nameB (wdT w 2))),20),((!(listR 65535 (wdT w 3)).2),21),((!(listR 65535 (wdT w 4)).2),21)]):=by
  unfold A5
  simp only[hk]
  rfl
 rw[hR]at hsT hfe
 have hfe:Bc _=e4:=hfe.trans (by
  show An (An (An (An ((0:Int)) (!(nameB (wdT w 1))) 20) (!(nameB (wdT w 2))) 20) (!(listR 65535 (wdT w 3)).2) 21) (!(listR 65535 (wdT w 4)).2) 21=_
  rw[he1,he2,he3,he4])
 rw[hfe]at hsT
 rw[hsT]
 generalize e4=eN at *
 refine T ?_
 refine C qk F230 ?_
 refine C qm F229 ?_
 refine C qk F230 ?_
 refine Ag 9 (Bi { lineZ with row:=row,kind:=8 }) rfl (.cons (.refl _) (.cons (.refl _) (.cons (.refl _) (.cons (.refl _) (.cons (.refl _) (.cons (.refl _) (.cons (.refl _) (.cons (.refl _) (.cons (.refl _) (.cons (.refl _) (.cons (.refl _) (.cons (.refl _) (.cons (.refl _) (.cons .nil (.cons .nil (.cons .nil (.cons .nil .nil))))))))))))))))) ?_
 refine T ?_
 refine X (Ax [(0,31)] (A0 Y Y F231) q1 Y W Y V) ?_
 refine X (Ax [(0,31)] (A0 Y Y F231) q2 Y W Y V) ?_
 refine X (Af [(0,31)] Y F241 q3 Y W Y V) ?_
 refine X (Af [(0,31)] Y F241 q4 Y W Y V) ?_
 cases hz:(eN != 0)
 ·have hz0:eN=0:=by simpa using hz
  rw[if_neg (by rw[hz0];simp)]
  refine T ?_
  exact D
 ·have hz0:eN≠0:=by simpa using hz
  rw[if_pos hz0]
  refine T ?_
  refine Ag 4 (Bi lineZ) Y (.cons (.refl _) (.cons (.refl _) (.cons (.refl _) (.cons (.refl _) (.cons (.refl _) (.cons (.refl _) (.cons (.refl _) (.cons (.refl _) (.cons (.refl _) (.cons (.refl _) (.cons (.refl _) (.cons (.refl _) (.cons (.refl _) (.cons .nil (.cons .nil (.cons .nil (.cons .nil .nil))))))))))))))))) ?_
  refine T ?_
  exact D
theorem Agf (w:List ByteArray) (row:Int) (hw:w.length≤1000000) (hs:∀ s∈w,s.size≤40) (hne:0<w.length) (hk:kindL (wdT w 0)=5) (hmy:manyB 5 w=true) :
  Sy.Spec Tryz.prog 146 [.sl 1 Ad w,Aa row] [] (.tup [Al (Bt w row).1,Aa (Bt w row).2]) []:=cT F146 Tryz.ntmps146 fun F hF=>by
 have hn0:(0:Int).toNat<w.length:=hne
 have f0:((w.length:Int) == 0)=false:=by rw[beq_eq_false_iff_ne];omega
 have hx0:w[(0:Int).toNat]'hn0=wdT w 0:=(Ch hne).symm
 have qk:Sy.Spec Tryz.prog 230 [Ad (w[(0:Int).toNat]'hn0)] [] (Aa 5) []:=by
  have:=Ew (wdT w 0)
  rw[hk]at this
  rw[hx0];exact this
 have qm:=Ev 5 y_ w hw
 rw[hmy]at qm
 have hml:=Hr hmy
 have hsT:Bt w row=if Bc (A5 w row).2≠0 then (lineZ,Bc (A5 w row).2) else ((A5 w row).1,0):=by
  rw[Bt,if_neg]
  rintro (hh | hh)
  ·rw[hh]at hne;simp at hne
  ·rw[hk,hmy]at hh;cases hh
 have hfe:=Dm _ (D0 w row)
 have hl:w.length=3:=hml.2.2.1 rfl
 have q1:=Eg w 1 (0:Int) z_ hw hs
 obtain ⟨e1,he1⟩:∃ e,An (0:Int) (!(nameB (wdT w 1))) 20=e:=⟨_,rfl⟩
 rw[he1]at q1
 have qn:=Ky w 2 e1 z_ hw
 have hsz:(wdT w 2).size≤40:=by rw[Ch (by omega:2<w.length)];exact hs _ (List.getElem_mem _)
 have qa:=U8 (wdT w 2) z_
 have q2:=Hv w 3 e1 (!((Bo (wdT w 2)).2 && decide ((Bo (wdT w 2)).1≠0))) 21
 obtain ⟨e2,he2⟩:∃ e,An e1 (!((Bo (wdT w 2)).2 && decide ((Bo (wdT w 2)).1≠0))) 21=e:=⟨_,rfl⟩
 rw[he2]at q2
 have hR:A5 w row=({ lineZ with row:=row,kind:=5,dev:=wdT w 1,addr:=(Bo (wdT w 2)).1 },[((!(nameB (wdT w 1))),20),((!((Bo (wdT w 2)).2 && decide ((Bo (wdT w 2)).1≠0))),21)]):=by
  unfold A5
  simp only[hk]
  rfl
 rw[hR]at hsT hfe
 have hfe:Bc _=e2:=hfe.trans (by
  show An (An ((0:Int)) (!(nameB (wdT w 1))) 20) (!((Bo (wdT w 2)).2 && decide ((Bo (wdT w 2)).1≠0))) 21=_
  rw[he1,he2])
 rw[hfe]at hsT
 rw[hsT]
 generalize e2=eN at *
 clear hR hsT hfe he2
 generalize Bo (wdT w 2)=rt at *
 obtain ⟨av,ok⟩:=rt
 dsimp only at qa q2 ⊢
 cases ok
 ·have q2:Sy.Spec Tryz.prog 235 [.ptr 0 0,Ab true,Aa 21] (rdO w 3 e1) (.tup []) (rdO w 3 eN):=q2
  refine T ?_
  refine C qk F230 ?_
  refine C qm F229 ?_
  refine C qk F230 ?_
  refine Ag 9 (Bi { lineZ with row:=row,kind:=5 }) rfl (.cons (.refl _) (.cons (.refl _) (.cons (.refl _) (.cons (.refl _) (.cons (.refl _) (.cons (.refl _) (.cons (.refl _) (.cons (.refl _) (.cons (.refl _) (.cons (.refl _) (.cons (.refl _) (.cons (.refl _) (.cons (.refl _) (.cons .nil (.cons .nil (.cons .nil (.cons .nil .nil))))))))))))))))) ?_
  refine T ?_
  refine X (Ax [(0,31)] (A0 Y Y F231) q1 Y W Y V) ?_
  refine X (Af [(0,31)] Y F238 qn Y W Y V) ?_
  refine C qa F237 ?_
  refine X (Af [(0,31)] Y F235 q2 Y W Y V) ?_
  cases hz:(eN != 0)
  ·have hz0:eN=0:=by simpa using hz
   rw[if_neg (by rw[hz0];simp)]
   refine T ?_
   exact D
  ·have hz0:eN≠0:=by simpa using hz
   rw[if_pos hz0]
   refine T ?_
   refine Ag 4 (Bi lineZ) Y (.cons (.refl _) (.cons (.refl _) (.cons (.refl _) (.cons (.refl _) (.cons (.refl _) (.cons (.refl _) (.cons (.refl _) (.cons (.refl _) (.cons (.refl _) (.cons (.refl _) (.cons (.refl _) (.cons (.refl _) (.cons (.refl _) (.cons .nil (.cons .nil (.cons .nil (.cons .nil .nil))))))))))))))))) ?_
   refine T ?_
   exact D
 ·have hb:(!(true && decide (av≠0)))=(av == 0):=by
   by_cases h:av=0
   ·rw[h];rfl
   ·rw[decide_eq_true h,beq_eq_false_iff_ne.2 h];rfl
  rw[hb]at q2
  refine T ?_
  refine C qk F230 ?_
  refine C qm F229 ?_
  refine C qk F230 ?_
  refine Ag 9 (Bi { lineZ with row:=row,kind:=5 }) rfl (.cons (.refl _) (.cons (.refl _) (.cons (.refl _) (.cons (.refl _) (.cons (.refl _) (.cons (.refl _) (.cons (.refl _) (.cons (.refl _) (.cons (.refl _) (.cons (.refl _) (.cons (.refl _) (.cons (.refl _) (.cons (.refl _) (.cons .nil (.cons .nil (.cons .nil (.cons .nil .nil))))))))))))))))) ?_
  refine T ?_
  refine X (Ax [(0,31)] (A0 Y Y F231) q1 Y W Y V) ?_
  refine X (Af [(0,31)] Y F238 qn Y W Y V) ?_
  refine C qa F237 ?_
  refine X (Af [(0,31)] Y F235 q2 Y W Y V) ?_
  cases hz:(eN != 0)
  ·have hz0:eN=0:=by simpa using hz
   rw[if_neg (by rw[hz0];simp)]
   refine T ?_
   exact D
  ·have hz0:eN≠0:=by simpa using hz
   rw[if_pos hz0]
   refine T ?_
   refine Ag 4 (Bi lineZ) Y (.cons (.refl _) (.cons (.refl _) (.cons (.refl _) (.cons (.refl _) (.cons (.refl _) (.cons (.refl _) (.cons (.refl _) (.cons (.refl _) (.cons (.refl _) (.cons (.refl _) (.cons (.refl _) (.cons (.refl _) (.cons (.refl _) (.cons .nil (.cons .nil (.cons .nil (.cons .nil .nil))))))))))))))))) ?_
   refine T ?_
   exact D
theorem Agd (w:List ByteArray) (row:Int) (hw:w.length≤1000000) (hs:∀ s∈w,s.size≤40) (hne:0<w.length) (hk:kindL (wdT w 0)=7) (hmy:manyB 7 w=true) :
  Sy.Spec Tryz.prog 146 [.sl 1 Ad w,Aa row] [] (.tup [Al (Bt w row).1,Aa (Bt w row).2]) []:=cT F146 Tryz.ntmps146 fun F hF=>by
 have hn0:(0:Int).toNat<w.length:=hne
 have f0:((w.length:Int) == 0)=false:=by rw[beq_eq_false_iff_ne];omega
 have hx0:w[(0:Int).toNat]'hn0=wdT w 0:=(Ch hne).symm
 have qk:Sy.Spec Tryz.prog 230 [Ad (w[(0:Int).toNat]'hn0)] [] (Aa 7) []:=by
  have:=Ew (wdT w 0)
  rw[hk]at this
  rw[hx0];exact this
 have qm:=Ev 7 y_ w hw
 rw[hmy]at qm
 have hml:=Hr hmy
 have hsT:Bt w row=if Bc (A5 w row).2≠0 then (lineZ,Bc (A5 w row).2) else ((A5 w row).1,0):=by
  rw[Bt,if_neg]
  rintro (hh | hh)
  ·rw[hh]at hne;simp at hne
  ·rw[hk,hmy]at hh;cases hh
 have hfe:=Dm _ (D0 w row)
 have hl:w.length=4:=hml.1 y_
 have q1:=Eg w 1 (0:Int) z_ hw hs
 obtain ⟨e1,he1⟩:∃ e,An (0:Int) (!(nameB (wdT w 1))) 20=e:=⟨_,rfl⟩
 rw[he1]at q1
 have q2:=Am0 w 2 e1 z_ hw
 obtain ⟨e2,he2⟩:∃ e,An e1 (!(Hy (wdT w 2)).2) 21=e:=⟨_,rfl⟩
 rw[he2]at q2
 have qn:=Ky w 3 e2 z_ hw
 have hsz:(wdT w 3).size≤40:=by rw[Ch (by omega:3<w.length)];exact hs _ (List.getElem_mem _)
 have qa:=Y8 (wdT w 3) z_
 have hpos:(Bk (wdT w 3)).2=true→0<(Bk (wdT w 3)).1.length:=fun h=>by
  have hp:=Ly h
  rw[Bk,Dr]at hp ⊢
  have:=(Im _ _ _ _ hp List.Pairwise.nil y_).2.2.1
  rw[this,D9];simp
 have q3:=Hv w 4 e2 (!((Bk (wdT w 3)).2 && decide ((Bk (wdT w 3)).1.head? ≠ some 0))) 21
 obtain ⟨e3,he3⟩:∃ e,An e2 (!((Bk (wdT w 3)).2 && decide ((Bk (wdT w 3)).1.head? ≠ some 0))) 21=e:=⟨_,rfl⟩
 rw[he3]at q3
 have hR:A5 w row=({ lineZ with row:=row,kind:=7,dev:=wdT w 1,num:=(Hy (wdT w 2)).1,addrs:=(Bk (wdT w 3)).1 },[((!(nameB (wdT w 1))),20),((!(Hy (wdT w 2)).2),21),((!((Bk (wdT w 3)).2 && decide ((Bk (wdT w 3)).1.head? ≠ some 0))),21)]):=by
  unfold A5
  simp only[hk]
  rfl
 rw[hR]at hsT hfe
 have hfe:Bc _=e3:=hfe.trans (by
  show An (An (An ((0:Int)) (!(nameB (wdT w 1))) 20) (!(Hy (wdT w 2)).2) 21) (!((Bk (wdT w 3)).2 && decide ((Bk (wdT w 3)).1.head? ≠ some 0))) 21=_
  rw[he1,he2,he3])
 rw[hfe]at hsT
 rw[hsT]
 generalize e3=eN at *
 clear hR hsT hfe he3
 generalize Bk (wdT w 3)=rt at *
 obtain ⟨av,ok⟩:=rt
 dsimp only at qa q3 hpos ⊢
 cases ok
 ·have q3:Sy.Spec Tryz.prog 235 [.ptr 0 0,Ab true,Aa 21] (rdO w 4 e2) (.tup []) (rdO w 4 eN):=q3
  refine T ?_
  refine C qk F230 ?_
  refine C qm F229 ?_
  refine C qk F230 ?_
  refine Ag 9 (Bi { lineZ with row:=row,kind:=7 }) rfl (.cons (.refl _) (.cons (.refl _) (.cons (.refl _) (.cons (.refl _) (.cons (.refl _) (.cons (.refl _) (.cons (.refl _) (.cons (.refl _) (.cons (.refl _) (.cons (.refl _) (.cons (.refl _) (.cons (.refl _) (.cons (.refl _) (.cons .nil (.cons .nil (.cons .nil (.cons .nil .nil))))))))))))))))) ?_
  refine T ?_
  refine X (Ax [(0,31)] (A0 Y Y F231) q1 Y W Y V) ?_
  refine X (Af [(0,31)] Y F239 q2 Y W Y V) ?_
  refine X (Af [(0,31)] Y F238 qn Y W Y V) ?_
  refine C qa F240 ?_
  refine X (Af [(0,31)] Y F235 q3 Y W Y V) ?_
  cases hz:(eN != 0)
  ·have hz0:eN=0:=by simpa using hz
   rw[if_neg (by rw[hz0];simp)]
   refine T ?_
   exact D
  ·have hz0:eN≠0:=by simpa using hz
   rw[if_pos hz0]
   refine T ?_
   refine Ag 4 (Bi lineZ) Y (.cons (.refl _) (.cons (.refl _) (.cons (.refl _) (.cons (.refl _) (.cons (.refl _) (.cons (.refl _) (.cons (.refl _) (.cons (.refl _) (.cons (.refl _) (.cons (.refl _) (.cons (.refl _) (.cons (.refl _) (.cons (.refl _) (.cons .nil (.cons .nil (.cons .nil (.cons .nil .nil))))))))))))))))) ?_
   refine T ?_
   exact D
 ·have h0:(0:Int).toNat<av.length:=hpos rfl
  have hb:(!(true && decide (av.head? ≠ some 0)))=(av[(0:Int).toNat]'h0 == 0):=by
   cases av with
   | nil=>exact absurd h0 qe
   | cons a r =>
    show (!(true && decide (some a≠some 0)))=(a == 0)
    by_cases h:a=0
    ·rw[h];rfl
    ·rw[beq_eq_false_iff_ne.2 h,decide_eq_true (by simpa using h)];rfl
  rw[hb]at q3
  refine T ?_
  refine C qk F230 ?_
  refine C qm F229 ?_
  refine C qk F230 ?_
  refine Ag 9 (Bi { lineZ with row:=row,kind:=7 }) rfl (.cons (.refl _) (.cons (.refl _) (.cons (.refl _) (.cons (.refl _) (.cons (.refl _) (.cons (.refl _) (.cons (.refl _) (.cons (.refl _) (.cons (.refl _) (.cons (.refl _) (.cons (.refl _) (.cons (.refl _) (.cons (.refl _) (.cons .nil (.cons .nil (.cons .nil (.cons .nil .nil))))))))))))))))) ?_
  refine T ?_
  refine X (Ax [(0,31)] (A0 Y Y F231) q1 Y W Y V) ?_
  refine X (Af [(0,31)] Y F239 q2 Y W Y V) ?_
  refine X (Af [(0,31)] Y F238 qn Y W Y V) ?_
  refine C qa F240 ?_
  refine X (Af [(0,31)] Y F235 q3 Y W Y V) ?_
  cases hz:(eN != 0)
  ·have hz0:eN=0:=by simpa using hz
   rw[if_neg (by rw[hz0];simp)]
   refine T ?_
   exact D
  ·have hz0:eN≠0:=by simpa using hz
   rw[if_pos hz0]
   refine T ?_
   refine Ag 4 (Bi lineZ) Y (.cons (.refl _) (.cons (.refl _) (.cons (.refl _) (.cons (.refl _) (.cons (.refl _) (.cons (.refl _) (.cons (.refl _) (.cons (.refl _) (.cons (.refl _) (.cons (.refl _) (.cons (.refl _) (.cons (.refl _) (.cons (.refl _) (.cons .nil (.cons .nil (.cons .nil (.cons .nil .nil))))))))))))))))) ?_
   refine T ?_
   exact D
theorem Abb (s:ByteArray):∃ m:Nat,(prefixR s).1.1=m∧m<4294967296:=by
 rw[prefixR]
 split
 ·exact⟨0,Y,by decide⟩
 ·have h1:=H8 (cutT 47 s).1
  have h2:=Mg (cutT 47 s).1
  exact⟨(Bo (cutT 47 s).1).1.toNat,(Int.toNat_of_nonneg h1).symm,by omega⟩
theorem Agb (w:List ByteArray) (row:Int) (hw:w.length≤1000000) (hs:∀ s∈w,s.size≤40) (hne:0<w.length) (hk:kindL (wdT w 0)=9) (hmy:manyB 9 w=true) :
  Sy.Spec Tryz.prog 146 [.sl 1 Ad w,Aa row] [] (.tup [Al (Bt w row).1,Aa (Bt w row).2]) []:=cT F146 Tryz.ntmps146 fun F hF=>by
 have hn0:(0:Int).toNat<w.length:=hne
 have f0:((w.length:Int) == 0)=false:=by rw[beq_eq_false_iff_ne];omega
 have hx0:w[(0:Int).toNat]'hn0=wdT w 0:=(Ch hne).symm
 have qk:Sy.Spec Tryz.prog 230 [Ad (w[(0:Int).toNat]'hn0)] [] (Aa 9) []:=by
  have:=Ew (wdT w 0)
  rw[hk]at this
  rw[hx0];exact this
 have qm:=Ev 9 y_ w hw
 rw[hmy]at qm
 have hml:=Hr hmy
 have hsT:Bt w row=if Bc (A5 w row).2≠0 then (lineZ,Bc (A5 w row).2) else ((A5 w row).1,0):=by
  rw[Bt,if_neg]
  rintro (hh | hh)
  ·rw[hh]at hne;simp at hne
  ·rw[hk,hmy]at hh;cases hh
 have hfe:=Dm _ (D0 w row)
 have hl:w.length=5:=hml.2.1 y_
 have q1:=Eg w 1 (0:Int) z_ hw hs
 obtain ⟨e1,he1⟩:∃ e,An (0:Int) (!(nameB (wdT w 1))) 20=e:=⟨_,rfl⟩
 rw[he1]at q1
 have q2:=Tf w 2 e1 z_ hw
 obtain ⟨e2,he2⟩:∃ e,An e1 (!(Bl (wdT w 2)).2) 21=e:=⟨_,rfl⟩
 rw[he2]at q2
 have q3:=Eg w 3 e2 z_ hw hs
 obtain ⟨e3,he3⟩:∃ e,An e2 (!(nameB (wdT w 3))) 20=e:=⟨_,rfl⟩
 rw[he3]at q3
 have qn:=Ky w 4 e3 z_ hw
 have hsz:(wdT w 4).size≤40:=by rw[Ch (by omega:4<w.length)];exact hs _ (List.getElem_mem _)
 have qa:=Afk (wdT w 4) z_
 have hrg:=Abb (wdT w 4)
 have q4:=Hv w 5 e3 (!((prefixR (wdT w 4)).2 && subnetB (prefixR (wdT w 4)).1.1 (prefixR (wdT w 4)).1.2)) 21
 obtain ⟨e4,he4⟩:∃ e,An e3 (!((prefixR (wdT w 4)).2 && subnetB (prefixR (wdT w 4)).1.1 (prefixR (wdT w 4)).1.2)) 21=e:=⟨_,rfl⟩
 rw[he4]at q4
 have hR:A5 w row=({ lineZ with row:=row,kind:=9,dev:=wdT w 1,vlan:=(Bl (wdT w 2)).1,name:=wdT w 3,addr:=(prefixR (wdT w 4)).1.1,bits:=(prefixR (wdT w 4)).1.2 },[((!(nameB (wdT w 1))),20),((!(Bl (wdT w 2)).2),21),((!(nameB (wdT w 3))),20),((!((prefixR (wdT w 4)).2 && subnetB (prefixR (wdT w 4)).1.1 (prefixR (wdT w 4)).1.2)),21)]):=by
  unfold A5
  simp only[hk]
  rfl
 rw[hR]at hsT hfe
 have hfe:Bc _=e4:=hfe.trans (by
  show An (An (An (An ((0:Int)) (!(nameB (wdT w 1))) 20) (!(Bl (wdT w 2)).2) 21) (!(nameB (wdT w 3))) 20) (!((prefixR (wdT w 4)).2 && subnetB (prefixR (wdT w 4)).1.1 (prefixR (wdT w 4)).1.2)) 21=_
  rw[he1,he2,he3,he4])
 rw[hfe]at hsT
 rw[hsT]
 generalize e4=eN at *
 clear hR hsT hfe he4
 obtain ⟨m,hm1,hm2⟩:=hrg
 generalize prefixR (wdT w 4)=rt at *
 obtain ⟨⟨av,bv⟩,ok⟩:=rt
 dsimp only at qa q4 hm1 ⊢
 subst hm1
 have qs:=Ve m bv hm2
 generalize subnetB (m:Int) bv=sb at *
 cases ok
 ·have q4:Sy.Spec Tryz.prog 235 [.ptr 0 0,Ab true,Aa 21] (rdO w 5 e3) (.tup []) (rdO w 5 eN):=q4
  refine T ?_
  refine C qk F230 ?_
  refine C qm F229 ?_
  refine C qk F230 ?_
  refine Ag 9 (Bi { lineZ with row:=row,kind:=9 }) rfl (.cons (.refl _) (.cons (.refl _) (.cons (.refl _) (.cons (.refl _) (.cons (.refl _) (.cons (.refl _) (.cons (.refl _) (.cons (.refl _) (.cons (.refl _) (.cons (.refl _) (.cons (.refl _) (.cons (.refl _) (.cons (.refl _) (.cons .nil (.cons .nil (.cons .nil (.cons .nil .nil))))))))))))))))) ?_
  refine T ?_
  refine X (Ax [(0,31)] (A0 Y Y F231) q1 Y W Y V) ?_
  refine X (Ax [(0,31)] (A0 Y Y F232) q2 Y W Y V) ?_
  refine X (Ax [(0,31)] (A0 Y Y F231) q3 Y W Y V) ?_
  refine X (Af [(0,31)] Y F238 qn Y W Y V) ?_
  refine C qa F242 ?_
  refine X (Af [(0,31)] Y F235 q4 Y W Y V) ?_
  cases hz:(eN != 0)
  ·have hz0:eN=0:=by simpa using hz
   rw[if_neg (by rw[hz0];simp)]
   refine T ?_
   exact D
  ·have hz0:eN≠0:=by simpa using hz
   rw[if_pos hz0]
   refine T ?_
   refine Ag 4 (Bi lineZ) Y (.cons (.refl _) (.cons (.refl _) (.cons (.refl _) (.cons (.refl _) (.cons (.refl _) (.cons (.refl _) (.cons (.refl _) (.cons (.refl _) (.cons (.refl _) (.cons (.refl _) (.cons (.refl _) (.cons (.refl _) (.cons (.refl _) (.cons .nil (.cons .nil (.cons .nil (.cons .nil .nil))))))))))))))))) ?_
   refine T ?_
   exact D
 ·have hb:(!(true && sb))=!sb:=rfl
  rw[hb]at q4
  refine T ?_
  refine C qk F230 ?_
  refine C qm F229 ?_
  refine C qk F230 ?_
  refine Ag 9 (Bi { lineZ with row:=row,kind:=9 }) rfl (.cons (.refl _) (.cons (.refl _) (.cons (.refl _) (.cons (.refl _) (.cons (.refl _) (.cons (.refl _) (.cons (.refl _) (.cons (.refl _) (.cons (.refl _) (.cons (.refl _) (.cons (.refl _) (.cons (.refl _) (.cons (.refl _) (.cons .nil (.cons .nil (.cons .nil (.cons .nil .nil))))))))))))))))) ?_
  refine T ?_
  refine X (Ax [(0,31)] (A0 Y Y F231) q1 Y W Y V) ?_
  refine X (Ax [(0,31)] (A0 Y Y F232) q2 Y W Y V) ?_
  refine X (Ax [(0,31)] (A0 Y Y F231) q3 Y W Y V) ?_
  refine X (Af [(0,31)] Y F238 qn Y W Y V) ?_
  refine C qa F242 ?_
  refine C qs F243 ?_
  refine X (Af [(0,31)] Y F235 q4 Y W Y V) ?_
  cases hz:(eN != 0)
  ·have hz0:eN=0:=by simpa using hz
   rw[if_neg (by rw[hz0];simp)]
   refine T ?_
   exact D
  ·have hz0:eN≠0:=by simpa using hz
   rw[if_pos hz0]
   refine T ?_
   refine Ag 4 (Bi lineZ) Y (.cons (.refl _) (.cons (.refl _) (.cons (.refl _) (.cons (.refl _) (.cons (.refl _) (.cons (.refl _) (.cons (.refl _) (.cons (.refl _) (.cons (.refl _) (.cons (.refl _) (.cons (.refl _) (.cons (.refl _) (.cons (.refl _) (.cons .nil (.cons .nil (.cons .nil (.cons .nil .nil))))))))))))))))) ?_
   refine T ?_
   exact D
theorem Agi (w:List ByteArray) (row:Int) (hw:w.length≤1000000) (hs:∀ s∈w,s.size≤40) (hne:0<w.length) (hk:kindL (wdT w 0)=2) (hmy:manyB 2 w=true) :
  Sy.Spec Tryz.prog 146 [.sl 1 Ad w,Aa row] [] (.tup [Al (Bt w row).1,Aa (Bt w row).2]) []:=cT F146 Tryz.ntmps146 fun F hF=>by
 have hn0:(0:Int).toNat<w.length:=hne
 have f0:((w.length:Int) == 0)=false:=by rw[beq_eq_false_iff_ne];omega
 have hx0:w[(0:Int).toNat]'hn0=wdT w 0:=(Ch hne).symm
 have qk:Sy.Spec Tryz.prog 230 [Ad (w[(0:Int).toNat]'hn0)] [] (Aa 2) []:=by
  have:=Ew (wdT w 0)
  rw[hk]at this
  rw[hx0];exact this
 have qm:=Ev 2 y_ w hw
 rw[hmy]at qm
 have hml:=Hr hmy
 have hsT:Bt w row=if Bc (A5 w row).2≠0 then (lineZ,Bc (A5 w row).2) else ((A5 w row).1,0):=by
  rw[Bt,if_neg]
  rintro (hh | hh)
  ·rw[hh]at hne;simp at hne
  ·rw[hk,hmy]at hh;cases hh
 have hfe:=Dm _ (D0 w row)
 have hl:6≤w.length∧w.length≤7∧(wdT w 4=trunkT→w.length=7):=hml.2.2.2.1 rfl
 have q1:=Eg w 1 (0:Int) z_ hw hs
 obtain ⟨e1,he1⟩:∃ e,An (0:Int) (!(nameB (wdT w 1))) 20=e:=⟨_,rfl⟩
 rw[he1]at q1
 have q2:=Eg w 2 e1 z_ hw hs
 obtain ⟨e2,he2⟩:∃ e,An e1 (!(nameB (wdT w 2))) 20=e:=⟨_,rfl⟩
 rw[he2]at q2
 have q3:=O9 w 3 e2 1 65535 z_ hw
 obtain ⟨e3,he3⟩:∃ e,An e2 (!(numR (wdT w 3) 1 65535).2) 21=e:=⟨_,rfl⟩
 rw[he3]at q3
 have q4:=Hv w 4 e3 (decide (wdT w 4≠accessT) && decide (wdT w 4≠trunkT)) 20
 obtain ⟨e4,he4⟩:∃ e,An e3 (decide (wdT w 4≠accessT) && decide (wdT w 4≠trunkT)) 20=e:=⟨_,rfl⟩
 rw[he4]at q4
 have qp:=Aps w e4 { lineZ with row:=row,kind:=2,dev:=wdT w 1,port:=wdT w 2,cost:=(numR (wdT w 3) 1 65535).1 } hw hs z_ (fun x=>by
  have h6:w.length=6:=by
   have hm3:=hmy
   rw[manyB,if_neg y_,if_pos rfl,if_neg z_,if_pos x]at hm3
   exact of_decide_eq_true hm3
  omega) (fun x=>by have:=hl.2.2 x;omega) ⟨rfl,rfl⟩
 have hR:A5 w row=({ lineZ with row:=row,kind:=2,dev:=wdT w 1,port:=wdT w 2,cost:=(numR (wdT w 3) 1 65535).1,vlan:=(Cj w).1,tagged:=(Cj w).2.1 },
   [((!(nameB (wdT w 1))),20),((!(nameB (wdT w 2))),20),((!(numR (wdT w 3) 1 65535).2),21),((decide (wdT w 4≠accessT) && decide (wdT w 4≠trunkT)),20)]++(Cj w).2.2++[(!(membersB (Cj w).1 (Cj w).2.1),21)]):=by
  unfold A5
  simp only[hk]
  rfl
 rw[hR]at hsT hfe
 have hfe:Bc _=Jn e4 ((Cj w).2.2++[(!(membersB (Cj w).1 (Cj w).2.1),21)]):=hfe.trans (by
  rw[Qe,Qe,Qe]
  congr 2
  show An (An (An (An ((0:Int)) (!(nameB (wdT w 1))) 20) (!(nameB (wdT w 2))) 20) (!(numR (wdT w 3) 1 65535).2) 21) (decide (wdT w 4≠accessT) && decide (wdT w 4≠trunkT)) 20=_
  rw[he1,he2,he3,he4])
 rw[hfe]at hsT
 rw[hsT]
 clear hR hsT hfe he4
 dsimp only at qp ⊢
 generalize Jn e4 ((Cj w).2.2++[(!(membersB (Cj w).1 (Cj w).2.1),21)])=eN at *
 generalize Cj w=pr at *
 have hn4:(4:Int).toNat<w.length:=by show 4<w.length;omega
 have hx4:w[(4:Int).toNat]'hn4=wdT w 4:=(Ch z_).symm
 by_cases ca:wdT w 4=accessT
 ·have g1:(!(w[(4:Int).toNat]'hn4 == (⟨#[97,99,99,101,115,115]⟩:ByteArray)))=false:=Hg (by rw[hx4];exact ca)
  have q4:Sy.Spec Tryz.prog 235 [.ptr 0 0,Ab false,Aa 20] (rdO w 4 e3) (.tup []) (rdO w 4 e4):=by
   rw[decide_eq_false (fun x=>x ca)]at q4;exact q4
  refine T ?_
  refine C qk F230 ?_
  refine C qm F229 ?_
  refine C qk F230 ?_
  refine Ag 9 (Bi { lineZ with row:=row,kind:=2 }) rfl (.cons (.refl _) (.cons (.refl _) (.cons (.refl _) (.cons (.refl _) (.cons (.refl _) (.cons (.refl _) (.cons (.refl _) (.cons (.refl _) (.cons (.refl _) (.cons (.refl _) (.cons (.refl _) (.cons (.refl _) (.cons (.refl _) (.cons .nil (.cons .nil (.cons .nil (.cons .nil .nil))))))))))))))))) ?_
  refine T ?_
  refine X (Ax [(0,31)] (A0 Y Y F231) q1 Y W Y V) ?_
  refine X (Ax [(0,31)] (A0 Y Y F231) q2 Y W Y V) ?_
  refine X (Af [(0,31)] Y F233 q3 Y W Y V) ?_
  refine X (Af [(0,31)] Y F235 q4 Y W Y V) ?_
  refine X (Af [(0,31),(1,9)] Y F236 qp Y W Y V) ?_
  cases hz:(eN != 0)
  ·have hz0:eN=0:=by simpa using hz
   rw[if_neg (by rw[hz0];simp)]
   refine T ?_
   exact D
  ·have hz0:eN≠0:=by simpa using hz
   rw[if_pos hz0]
   refine T ?_
   refine Ag 4 (Bi lineZ) Y (.cons (.refl _) (.cons (.refl _) (.cons (.refl _) (.cons (.refl _) (.cons (.refl _) (.cons (.refl _) (.cons (.refl _) (.cons (.refl _) (.cons (.refl _) (.cons (.refl _) (.cons (.refl _) (.cons (.refl _) (.cons (.refl _) (.cons .nil (.cons .nil (.cons .nil (.cons .nil .nil))))))))))))))))) ?_
   refine T ?_
   exact D
 ·have g1:(!(w[(4:Int).toNat]'hn4 == (⟨#[97,99,99,101,115,115]⟩:ByteArray)))=true:=Ko (by rw[hx4];exact ca)
  have hb:(decide (wdT w 4≠accessT) && decide (wdT w 4≠trunkT))=!(w[(4:Int).toNat]'hn4 == (⟨#[116,114,117,110,107]⟩:ByteArray)):=by
   rw[decide_eq_true ca,Bool.true_and,hx4]
   show decide (wdT w 4≠trunkT)=!(wdT w 4 == trunkT)
   by_cases cr:wdT w 4=trunkT
   ·rw[Hg cr,decide_eq_false (fun x:wdT w 4≠trunkT=>x cr)]
   ·rw[Ko cr,decide_eq_true cr]
  rw[hb]at q4
  refine T ?_
  refine C qk F230 ?_
  refine C qm F229 ?_
  refine C qk F230 ?_
  refine Ag 9 (Bi { lineZ with row:=row,kind:=2 }) rfl (.cons (.refl _) (.cons (.refl _) (.cons (.refl _) (.cons (.refl _) (.cons (.refl _) (.cons (.refl _) (.cons (.refl _) (.cons (.refl _) (.cons (.refl _) (.cons (.refl _) (.cons (.refl _) (.cons (.refl _) (.cons (.refl _) (.cons .nil (.cons .nil (.cons .nil (.cons .nil .nil))))))))))))))))) ?_
  refine T ?_
  refine X (Ax [(0,31)] (A0 Y Y F231) q1 Y W Y V) ?_
  refine X (Ax [(0,31)] (A0 Y Y F231) q2 Y W Y V) ?_
  refine X (Af [(0,31)] Y F233 q3 Y W Y V) ?_
  refine X (Af [(0,31)] Y F235 q4 Y W Y V) ?_
  refine X (Af [(0,31),(1,9)] Y F236 qp Y W Y V) ?_
  cases hz:(eN != 0)
  ·have hz0:eN=0:=by simpa using hz
   rw[if_neg (by rw[hz0];simp)]
   refine T ?_
   exact D
  ·have hz0:eN≠0:=by simpa using hz
   rw[if_pos hz0]
   refine T ?_
   refine Ag 4 (Bi lineZ) Y (.cons (.refl _) (.cons (.refl _) (.cons (.refl _) (.cons (.refl _) (.cons (.refl _) (.cons (.refl _) (.cons (.refl _) (.cons (.refl _) (.cons (.refl _) (.cons (.refl _) (.cons (.refl _) (.cons (.refl _) (.cons (.refl _) (.cons .nil (.cons .nil (.cons .nil (.cons .nil .nil))))))))))))))))) ?_
   refine T ?_
   exact D
theorem Aj3 (w:List ByteArray) (row:Int) (hw:w.length≤1000000) (hs:∀ s∈w,s.size≤40):Sy.Spec Tryz.prog 146 [.sl 1 Ad w,Aa row] [] (.tup [Al (Bt w row).1,Aa (Bt w row).2]) []:=by
 by_cases hne:0<w.length
 ·cases hmy:manyB (kindL (wdT w 0)) w with
  | true =>
   have hr:=Vt (wdT w 0)
   have h0:=(Hr hmy).2.2.2.2
   rcases (by omega:kindL (wdT w 0)=1∨kindL (wdT w 0)=2∨kindL (wdT w 0)=3∨kindL (wdT w 0)=4∨kindL (wdT w 0)=5∨kindL (wdT w 0)=6∨kindL (wdT w 0)=7∨kindL (wdT w 0)=8∨kindL (wdT w 0)=9) with h | h | h | h | h | h | h | h | h
   ·exact Agj w row hw hs hne h (by rw[h]at hmy;exact hmy)
   ·exact Agi w row hw hs hne h (by rw[h]at hmy;exact hmy)
   ·exact Agh w row hw hs hne h (by rw[h]at hmy;exact hmy)
   ·exact Agg w row hw hs hne h (by rw[h]at hmy;exact hmy)
   ·exact Agf w row hw hs hne h (by rw[h]at hmy;exact hmy)
   ·exact Age w row hw hs hne h (by rw[h]at hmy;exact hmy)
   ·exact Agd w row hw hs hne h (by rw[h]at hmy;exact hmy)
   ·exact Agc w row hw hs hne h (by rw[h]at hmy;exact hmy)
   ·exact Agb w row hw hs hne h (by rw[h]at hmy;exact hmy)
  | false =>
   have hsT:Bt w row=(lineZ,22):=by rw[Bt,if_pos (.inr hmy)]
   rw[hsT]
   refine Ht Γ hm 100 F146 Tryz.ntmps146 Y fun F hF=>by
    have hn0:(0:Int).toNat<w.length:=hne
    have f0:((w.length:Int) == 0)=false:=by rw[beq_eq_false_iff_ne];omega
    have hx0:w[(0:Int).toNat]'hn0=wdT w 0:=(Ch hne).symm
    have qk:Sy.Spec Tryz.prog 230 [Ad (w[(0:Int).toNat]'hn0)] [] (Aa (kindL (wdT w 0))) []:=by
     rw[hx0];exact Ew (wdT w 0)
    have qm:=Ev (kindL (wdT w 0)) (Vt _) w hw
    rw[hmy]at qm
    refine T ?_
    refine C qk F230 ?_
    refine C qm F229 ?_
    refine Ag 4 (Bi lineZ) Y (.cons (.refl _) (.cons (.refl _) (.cons (.refl _) (.cons (.refl _) (.cons (.refl _) (.cons (.refl _) (.cons (.refl _) (.cons (.refl _) (.cons (.refl _) (.cons (.refl _) (.cons (.refl _) (.cons (.refl _) (.cons (.refl _) (.cons .nil (.cons .nil (.cons .nil (.cons .nil .nil))))))))))))))))) ?_
    refine T ?_
    exact D
 ·have hw0:w=[]:=List.eq_nil_of_length_eq_zero z_
  subst hw0
  have hsT:Bt [] row=(lineZ,22):=by rw[Bt,if_pos (.inl rfl)]
  rw[hsT]
  refine Ht Γ hm 100 F146 Tryz.ntmps146 Y fun F hF=>by
   refine T ?_
   refine Ag 4 (Bi lineZ) Y (.cons (.refl _) (.cons (.refl _) (.cons (.refl _) (.cons (.refl _) (.cons (.refl _) (.cons (.refl _) (.cons (.refl _) (.cons (.refl _) (.cons (.refl _) (.cons (.refl _) (.cons (.refl _) (.cons (.refl _) (.cons (.refl _) (.cons .nil (.cons .nil (.cons .nil (.cons .nil .nil))))))))))))))))) ?_
   refine T ?_
   exact D
end Go.Sy.YtjenpnjajjplkaaGreatDoor
namespace Go.Sy
theorem Ctx.onward {F:Fr} {κ κ2:Ka} {w w2:World} {ds:List Deferred} (c:Ctx F κ w) (c2:Ctx ⟨w,κ,ds⟩ κ2 w2):Ctx F κ2 w2 where
 size:=Nat.le_trans c.size c2.size
 os:=c2.os.trans c.os
 tape:=c2.tape.trans c.tape
 output:=c2.output.trans c.output
 M:=c2.M.trans c.M
 old b hb h:=by
  refine(c2.old b (Nat.lt_of_lt_of_le hb c.size) (fun k hk=>?_)).trans (c.old b hb h)
  rcases c.own k b hk with h1 | ⟨j,h1⟩
  ·exact absurd hb (Nat.not_lt.2 h1)
  ·exact h j h1
 own k b hk:=by
  rcases c2.own k b hk with h | ⟨j,h⟩
  ·exact .inl (Nat.le_trans c.size h)
  ·exact c.own j b h
 nam k hk:=by
  have hn:∀ x,κ k=x→x≠.new→κ2 k=x∨κ2 k=.dead:=fun x hx hne=>by
   have h:κ2 k=κ k∨κ2 k=.dead:=c2.nam k (by show κ k≠.new;rw[hx];exact hne)
   rw[hx]at h
   exact h
  rcases c.nam k hk with h | h
  ·exact hn _ h hk
  ·rcases hn _ h (by intro e;cases e) with h2 | h2
   ·exact .inr h2
   ·exact .inr h2
def Ajs (P:Program) (fn:Func) (F:Fr) (R:SV) (H':Obs):Exit→Act→World→Prop :=
 bodyPostD P fn fun e w'=>∃ v κ',e=.returned v∧Ctx F κ' w'∧Inv κ' w'∧Rd κ' w' R v∧H'.ok κ' w'
theorem Agm {P:Program} (Γ:Ty P) {f:FuncId} {fn:Func} {c:Code} {A:List SV} {H:Obs} {R:SV} {H':Obs} (hf:P.funcs[f]? = some fn) (hb:fn.body=some c) {n:Nat} (hn':fn.ntmps=n) (hn:A.length≤n)
  (h:∀ (F:Fr) (hF:∀ k,F.k0 k≠.new→k∈H.keys),F.ds=[]→G ⟨P,Γ,F,n,Ajs P fn F R H',H.keys,hF⟩ [.code c] ⟨argσ A,mkh H⟩):Spec P f A H R H':=by
 subst hn'
 intro κ w vs hi hnew hA hH
 refine calls_of_wp_defers hf hb ?_
 have hlen:=hA.length
 refine h ⟨w,κ,[]⟩ hnew Y κ _ w ⟨Y,?_,hi,Ctx.refl κ w,?_,?_⟩
 ·simp;omega
 ·intro i
  have:=hA.getD (fn.ntmps-vs.length) i
  have he:(vs.toArray++Array.replicate (fn.ntmps-vs.length) undef)=(vs++List.replicate (fn.ntmps-vs.length) undef).toArray:=by simp
  show Rd κ w _ ((vs.toArray++Array.replicate (fn.ntmps-vs.toArray.size) undef).getD i undef)
  rw[List.size_toArray,he]
  simpa using this
 ·intro k
  exact Ahu hH (fun hk=>Classical.byContradiction fun hne=>hk (hnew k hne))
theorem Alx {P:Program} (Γ:TyE P) (hm:P.follows .mixedOrders=true) (N:Nat) {f:FuncId} {fn:Func} {c:Code} {A:List SV} {H:Obs} {R:SV} {H':Obs} (hF:Fun P f fn c) {n:Nat} (hn':fn.ntmps=n) (hn:Ael A n=true)
  (h:∀ (F:Fr) (hF:∀ k,F.k0 k≠.new→k∈H.keys),F.ds=[]→Ks ⟨P,Γ.toTy,F,n,Ajs P fn F R H',H.keys,hF⟩ Γ N [.code c] ⟨argσ A,mkh H⟩):Sy.Spec P f A H R H' :=
 Agm Γ.toTy hF.1 hF.2 hn' (X3 hn) fun F hF h0=>run Γ hm N (h F hF h0)
theorem Aq4 {C:Cx} {k:List KI} {s:SS} {all:Array Oper} {o:Oper} {rest:List Oper} {x:Operand} {ts:Array TypeId} {g:FuncId} {cap:List SV} (h:o.op=.defer ⟨.value x,#[],ts⟩) (hx:ev s x=.clo (.func g) [] cap) (hd:o.dst=none)
  (hw:E7 C.n all o s=some true) (h0:C.F.ds=[]) (bn:List Nat) (hbn:∀ j,j∉bn→s.h j=.fresh)
  (hg:∀ (F:Fr) (hF:∀ j,F.k0 j≠.new→j∈bn) (cv:List Value),F.ds=[⟨.fn (.func g) cv.toArray,#[]⟩]→RdL F.k0 F.w0 cap cv→(∀ κ w,Ctx F κ w→Ctx C.F κ w)→G ⟨C.P,C.Γ,F,C.n,C.B,bn,hF⟩ (.ops all rest::k) s):G C (.ops all (o::rest)::k) s:=by
 intro κ a w hs
 refine wpList_step fun K hK=>?_
 rw[if_pos (O5 hs (D5 hw).2 (D5 hw).1)]
 have hr:=hs.ev x
 rw[hx]at hr
 simp only[Rd]at hr
 obtain ⟨fs,cs,hv,hfs,hcs⟩:=hr
 simp only[RdL]at hfs
 subst hfs
 have hF:∀ j,κ j≠.new→j∈bn:=fun j hj=>Classical.byContradiction fun hn=>hj (by
  have:=hs.obj j
  rw[hbn j hn]at this
  exact this)
 have hrun:(execOp a.eval o).run C.P w=.ok (.defer ⟨.fn (.func g) cs.toArray,#[]⟩) w:=by
  simp[execOp,h,resolve,Deferred.ofValue,hv]
 show o.upon C.P a K _ ((execOp a.eval o).run C.P w)
 rw[hrun,Oper.upon_defer,hd]
 refine hK _ _ (hg ⟨w,κ,[⟨.fn (.func g) cs.toArray,#[]⟩]⟩ hF cs rfl hcs (fun κ2 w2 c2=>hs.ctx.onward c2) κ { a with defers:=_::a.defers } w ⟨?_,hs.size,hs.inv,?_,hs.slot,hs.obj⟩)
 ·show _::a.defers=_
  rw[hs.defers,h0]
 ·have:=Ctx.refl κ w
  exact⟨this.size,this.os,this.tape,this.output,this.M,this.old,this.own,this.nam⟩
end Go.Sy
namespace Go.Sy.YtjenpnjajjplkaaGreatDoor
open Go.Proofs
attribute [local irreducible] Go.Sy.G Go.Sy.DR
set_option maxRecDepth 100000
set_option maxHeartbeats 4000000
theorem Y0 (ae al:Addr) (e:Int) (x:Value) (u:FrameMode) (w:World) (he:w.cell? ae=some (.int .i64 e)) (hl:w.cell? al=some x) (hz:w.frozen? al=false) :
  CallsD Tryz.prog 144 #[.pointer (some ae),.pointer (some al)] u w fun r u' w'=>u'=u∧(r=.returned (.tuple #[])∧w'=if e=0 then w else w.setCell al (.slice none 0 0)):=by
 by_cases h:e=0
 ·subst h
  go_enter_d Tryz.func144,Tryz.ntmps144
  go_wp2
  go_end0
  exact⟨Y,by simp⟩
 ·rw[if_neg h]
  go_enter_d Tryz.func144,Tryz.ntmps144
  go_wp2
  go_end0
  exact⟨Y,Y⟩
theorem Anf {κ0' κ:Ka} {w0 w:World} {k:Nat} {v:Value} {l:List SV} (h0:Rd κ0' w0 (.ptr k 0) v) (hn:κ0' k≠.new→κ k=κ0' k∨κ k=.dead) (ho:ObOK κ w k (.box l)):∃ b,κ k=.blk b∧v=.pointer (some ⟨b,0,none⟩):=by
 obtain ⟨b,cs,T,fr,e1,_⟩:=ho
 refine⟨b,e1,?_⟩
 have hne:κ0' k≠.new:=fun e=>by simp only[Rd,e]at h0
 rcases hn hne with h | h
 ·rw[e1]at h
  simp only[Rd,← h]at h0
  exact h0
 ·rw[e1]at h;cases h
theorem Apo {F F2:Fr} {n:Nat} {bn:List Nat} {hbn:∀ k,F2.k0 k≠.new→k∈bn} {k:List KI} {s:SS} {L:List LineM} {row e:Int} {cv:List Value} (hd:F2.ds=[⟨.fn (.func 144) cv.toArray,#[]⟩])
  (hcv:RdL F2.k0 F2.w0 [.ptr 4 0,.ptr 2 0] cv) (hctx:∀ κ w,Ctx F2 κ w→Ctx F κ w) (h2:s.h 2=.box [.sl 17 Al L]) (h4:s.h 4=.box [Aa e]) (h3:s.σ 3=Aa row) (p2:s.σ 2=.ptr 2 0) (p4:s.σ 4=.ptr 4 0) :
  G ⟨Tryz.prog,Γ.toTy,F2,n,Ajs Tryz.prog Tryz.f44 F (.tup [.sl 17 Al (if e=0 then L else []),Aa row,Aa e]) [],bn,hbn⟩ (.code .ret::k) s:=by
 refine Arg fun κ a w hs=>?_
 have o2:=hs.obj 2
 rw[h2]at o2
 have o4:=hs.obj 4
 rw[h4]at o4
 simp only[RdL]at hcv
 obtain ⟨v4,r4,rfl,hv4,v2,r2,rfl,hv2,rfl⟩:=hcv
 obtain ⟨b4,k4,rfl⟩:=Anf hv4 (hs.ctx.nam 4) o4
 obtain ⟨b2,k2,rfl⟩:=Anf hv2 (hs.ctx.nam 2) o2
 obtain ⟨b2',e1,c1,c2,st1,inv1,ob1⟩:=H7 (off:=0) (x:=.val (.slice none 0 0)) (v:=.slice none 0 0) hs.inv o2 rfl (fun κ w=>by simp only[Rd]) rfl
 have ob1:ObOK κ (w.setCell ⟨b2',0,none⟩ (.slice none 0 0)) 2 (.box [.sl 17 Al []]):=by
  obtain ⟨b,cs,T,fr,f1,f2,f3,f4,f5⟩:=ob1
  refine⟨b,cs,T,fr,f1,f2,f3,f4,?_⟩
  have f5:RdL κ _ [.val (.slice none 0 0)] cs:=f5
  simp only[RdL,Rd]at f5 ⊢
  obtain ⟨v,r,rfl,rfl,rfl⟩:=f5
  exact⟨_,_,Y,by simp[RdD],Y⟩
 rw[k2]at e1
 cases e1
 obtain ⟨b4',e4,d1,_,_,_,_⟩:=H7 (off:=0) (x:=Aa e) (v:=.int .i64 e) hs.inv o4 rfl (fun κ w=>by simp[Rd,Aa]) rfl
 rw[k4]at e4
 cases e4
 obtain ⟨u4,hu4,hr4⟩:=d1 0 (Aa e) rfl
 have hu4':u4=.int .i64 e:=by simpa [Aa,Rd] using hr4
 subst hu4'
 obtain ⟨u2,hu2,_⟩:=c1 0 _ rfl
 show Leaves Tryz.prog Tryz.f44 a.tmps _ a.defers .returning w
 rw[hs.defers,hd]
 refine leaves_cons (f:=144) (args:=#[.pointer (some ⟨b4,0,none⟩),.pointer (some ⟨b2,0,none⟩)]) qe (by simp[go_sem]) ?_
 refine(Y0 ⟨b4,0,none⟩ ⟨b2,0,none⟩ e u2 .returning w hu4 hu2 (c2 0 qe)).mono ?_
 rintro r u' w'' ⟨rfl,rfl,rfl⟩
 by_cases he:e=0
 ·rw[if_pos he,if_pos he]
  obtain ⟨v,g1,g2⟩:=M3 (P:=Tryz.prog) (Γ:=Γ.toTy) hs (fn:=Tryz.f44) (xs:=[.sl 17 Al L,Aa row,Aa e]) rfl (.cons (.cell p2 h2 rfl rfl) (.cons (h3 ▸ .tmp) (.cons (.cell p4 h4 rfl rfl) .nil)))
  exact⟨v,g1,v,κ,rfl,hctx _ _ hs.ctx,hs.inv,g2,fun p hp=>by cases hp⟩
 ·rw[if_neg he,if_neg he]
  have hs2:St F2 n ⟨s.σ,upd s.h 2 (.box [.sl 17 Al []])⟩ κ a (w.setCell ⟨b2,0,none⟩ (.slice none 0 0)):=⟨hs.defers,hs.size,inv1,hs.ctx.step inv1 st1,fun i=>Rd.step st1 _ _ (hs.slot i),fun j=>by
   show ObOK κ _ j (upd s.h 2 _ j)
   by_cases hj:j=2
   ·subst hj;exact ob1
   ·have:upd s.h 2 (.box [.sl 17 Al []]) j=s.h j:=by
     simp only[upd]
     have:Nat.beq j 2=false:=by
      cases hb:Nat.beq j 2
      ·rfl
      ·exact absurd (Nat.eq_of_beq_eq_true hb) hj
     rw[this];rfl
    rw[this]
    exact ObOK.step st1 (show ¬ j=2 from hj) _ (hs.obj j)⟩
  obtain ⟨v,g1,g2⟩:=M3 (P:=Tryz.prog) (Γ:=Γ.toTy) hs2 (fn:=Tryz.f44) (xs:=[.sl 17 Al [],Aa row,Aa e]) rfl (.cons (.cell p2 rfl rfl rfl) (.cons (h3 ▸ .tmp) (.cons (.cell p4 h4 rfl rfl) .nil)))
  exact⟨v,g1,v,κ,rfl,hctx _ _ hs2.ctx,inv1,g2,fun p hp=>by cases hp⟩
theorem S3 {F F2:Fr} {n:Nat} {bn:List Nat} {hbn:∀ k,F2.k0 k≠.new→k∈bn} {k:List KI} {s:SS} {L L':List LineM} {row e:Int} {cv:List Value} (hd:F2.ds=[⟨.fn (.func 144) cv.toArray,#[]⟩])
  (hcv:RdL F2.k0 F2.w0 [.ptr 4 0,.ptr 2 0] cv) (hctx:∀ κ w,Ctx F2 κ w→Ctx F κ w) (hL:(if e=0 then L else [])=L') (h2:s.h 2=.box [.sl 17 Al L]) (h4:s.h 4=.box [Aa e]) (h3:s.σ 3=Aa row) (p2:s.σ 2=.ptr 2 0) (p4:s.σ 4=.ptr 4 0) :
  G ⟨Tryz.prog,Γ.toTy,F2,n,Ajs Tryz.prog Tryz.f44 F (.tup [.sl 17 Al L',Aa row,Aa e]) [],bn,hbn⟩ (.code .ret::k) s:=by
 subst hL
 exact Apo hd hcv hctx h2 h4 h3 p2 p4
theorem M1:∀ (l cur:List UInt8),∀ s∈Ei cur l,s.size≤cur.length+l.length
 | [],cur,s,hs=>by
  rw[Ei]at hs
  split at hs
  ·cases hs
  ·simp at hs;rw[hs,Bp];simp
 | c::l,cur,s,hs=>by
  rw[Ei]at hs
  split at hs
  ·rcases List.mem_cons.1 hs with hs | hs
   ·rw[hs,Bp];simp
   ·have:=M1 l [] s hs
    simp at this ⊢;omega
  ·have:=M1 l (cur++[c]) s hs
   simp at this ⊢;omega
theorem Vh (b:List UInt8):(rowsT b).1.length≤400∧∀ s∈(rowsT b).1,s.size≤20000:=by
 rw[rowsT]
 split
 ·exact⟨by simp,fun s hs=>by cases hs⟩
 ·rename_i h1
  split
  ·exact⟨by simp,fun s hs=>by cases hs⟩
  ·rename_i h2
   refine⟨by dsimp only;omega,fun s hs=>?_⟩
   have:=M1 b [] s hs
   simp at this;omega
theorem Aau (r:ByteArray) (hr:r.size≤20000):(wordsT r).1.length≤20001∧∀ s∈(wordsT r).1,s.size≤40:=by
 have hl:=Kt r.data.toList []
 have hrs:r.data.toList.length=r.size:=rfl
 rw[wordsT]
 split
 ·rename_i h
  refine⟨by dsimp only;omega,fun s hs=>?_⟩
  rw[List.all_eq_true]at h
  have:=h s hs
  simp only[wordB,Bool.and_eq_true,decide_eq_true_eq]at this
  exact this.1.2
 ·exact⟨by simp,fun s hs=>by cases hs⟩
theorem Ajx (b:List UInt8) (hb:b.length≤1000000):Sy.Spec Tryz.prog 44 [.sl 1 Bn b] [] (.tup [.sl 17 Al (textT b).1,Aa (textT b).2.1,Aa (textT b).2.2]) []:=Alx Γ hm 100 F44 Tryz.ntmps44 rfl fun F hF h0=>by
 have q1:=Alh b hb
 have hres:=textT.eq_1 b
 have hsm:=Vh b
 generalize textT b=res at *
 generalize rowsT b=rt at *
 obtain ⟨rows,e0⟩:=rt
 dsimp only at hres hsm q1
 refine T ?_
 refine Aq4 Y Y Y Y h0 [2,4] (fun j hj=>?_) ?_
 ·simp only[List.mem_cons,List.not_mem_nil,or_false,not_or]at hj
  have n2:Nat.beq j 2=false:=by
   cases hb:Nat.beq j 2
   ·rfl
   ·exact absurd (Nat.eq_of_beq_eq_true hb) hj.1
  have n4:Nat.beq j 4=false:=by
   cases hb:Nat.beq j 4
   ·rfl
   ·exact absurd (Nat.eq_of_beq_eq_true hb) hj.2
  simp[SS.upd,Ms,upd,mkh,n2,n4]
 intro F2 hF2 cv hd hcv hctx
 refine T ?_
 refine C q1 F36 ?_
 cases hz:(e0 != 0)
 rotate_left
 ·have he:e0≠0:=by simpa using hz
  rw[if_pos he]at hres
  subst hres
  refine T ?_
  refine Ag 2 [.sl 17 Al []] Y (.cons .nil .nil) ?_
  exact S3 (L:=[]) hd hcv hctx qe Y Y Y Y Y
 have he0:e0=0:=by simpa using hz
 rw[if_neg (by simp[he0])]at hres
 subst he0
 obtain ⟨hlen,hsz⟩:=hsm
 refine T ?_
 refine Afp 2 0 1000 17 Al Y Y Y Y ?_
 refine Au (fun x:Nat × List LineM=>res=Ju x.1 (rows.drop x.1) x.2∧x.1≤rows.length∧x.2.length≤x.1) (fun x=>[(2,.ptr 2 0),(4,.ptr 4 0),(20,.sl 1 Ad rows),(21,Aa rows.length),(22,Aa x.1)]) (fun x=>[(2,.box [.osl 1000]),(4,.box [Aa 0]),(1000,.row 17 Al x.2)]) (fun x=>rows.length-x.1) (0,[]) [] ⟨hres,by simp,by simp⟩ U ?_
 rintro ⟨j,out⟩ ⟨hI,hj,hol⟩
 dsimp only at hI hj hol ⊢
 refine T ?_
 refine⟨fun h=>?_,fun h=>?_⟩
 ·have hlt:j<rows.length:=qA h
  have hlt0:((j:Nat):Int).toNat<rows.length:=hlt
  have hr:(rows[((j:Nat):Int).toNat]'hlt0).size≤20000:=hsz _ (List.getElem_mem _)
  have hdr:rows.drop j=rows[((j:Nat):Int).toNat]'hlt0::rows.drop (j+1):=List.drop_eq_getElem_cons hlt
  rw[hdr,Ju]at hI
  clear h
  have q2:=Ahx (rows[((j:Nat):Int).toNat]'hlt0) z_
  have hws:=Aau (rows[((j:Nat):Int).toNat]'hlt0) hr
  generalize wordsT (rows[((j:Nat):Int).toNat]'hlt0)=wt at *
  obtain ⟨ws,we⟩:=wt
  dsimp only at hI hws q2
  cases hz:(we != 0)
  rotate_left
  ·have he:we≠0:=by simpa using hz
   rw[if_pos he]at hI
   subst hI
   refine T ?_
   refine C q2 F145 ?_
   refine Ag 2 [.sl 17 Al []] Y (.cons .nil .nil) ?_
   exact S3 (L:=[]) hd hcv hctx qe Y Y Y Y Y
  have he:we=0:=by simpa using hz
  rw[if_neg (by simp[he])]at hI
  by_cases hw0:ws.length=0
  ·rw[if_pos (List.eq_nil_of_length_eq_zero hw0)]at hI
   have f0:((ws.length:Int) == 0)=true:=by rw[hw0];rfl
   refine T ?_
   refine C q2 F145 ?_
   exact Ae (j+1,out) [] ⟨hI,hlt,by dsimp only;omega⟩ (by dsimp only;omega) U
  ·rw[if_neg (fun e=>hw0 (by rw[e];rfl))]at hI
   have f0:((ws.length:Int) == 0)=false:=by rw[beq_eq_false_iff_ne];omega
   have q3:=Aj3 ws ((j:Int)+1) z_ hws.2
   generalize Bt ws ((j:Int)+1)=st at *
   obtain ⟨l,se⟩:=st
   dsimp only at hI q3
   cases hz2:(se != 0)
   rotate_left
   ·have he2:se≠0:=by simpa using hz2
    rw[if_pos he2]at hI
    subst hI
    refine T ?_
    refine C q2 F145 ?_
    refine C q3 F146 ?_
    refine Ac 1000 Y ?_
    exact S3 (L:=out) hd hcv hctx (if_neg he2) Y Y Y Y Y
   ·have he2:se=0:=by simpa using hz2
    rw[if_neg (by simp[he2])]at hI
    refine T ?_
    refine C q2 F145 ?_
    refine C q3 F146 ?_
    refine X (Ak Γ.toTy 56 Y Y Y Y Y (.row Y) (.lit (e:=Al) (l:=[l]) Y Y) qe (by simp;omega) (by simp;omega)) ?_
    exact Ae (j+1,out++[l]) [(1000,56)] ⟨hI,hlt,by simp;omega⟩ (by dsimp only;omega) U
 ·have hje:j=rows.length:=qB h
  subst hje
  rw[List.drop_length,Ju]at hI
  subst hI
  clear h
  refine T ?_
  refine Ac 1000 Y ?_
  exact S3 (L:=out) hd hcv hctx (if_pos Y) Y Y Y Y Y
end Go.Sy.YtjenpnjajjplkaaGreatDoor
namespace Go.Sy.YtjenpnjajjplkaaGreatDoor
open Go.Proofs
set_option maxHeartbeats 4000000
structure LineR (l:LineM):Prop where
 right:B1 l=true
 ok:LineOK l
 vlan:0≤l.vlan∧l.vlan≤4094
 num:0≤l.num∧l.num≤16777215
 cost:0≤l.cost∧l.cost≤65535
 bits:0≤l.bits∧l.bits≤32
 tagged:Du l.tagged 4094=true
 imports:Du l.imports 65535=true
 exports:Du l.exports 65535=true
 addrs:l.addrs.length≤16
 dev:l.dev.size≤12
 port:l.port.size≤12
 peer:l.peer.size≤12
 far:l.far.size≤12
 name:l.name.size≤12
theorem C9 {s:ByteArray} (h:nameB s=true):s.size≤12:=by
 simp only[nameB,Bool.and_eq_true,decide_eq_true_eq]at h
 exact h.2
theorem Xw (s:ByteArray):0≤(macR s).1:=by
 have hd:∀ c,0≤digI c:=fun c=>by
  unfold digI
  split
  ·omega
  ·split<;>omega
 have:∀ i,0≤Ok s i:=fun i=>by
  induction i with
  | zero=>exact Int.le_refl _
  | succ i ih =>
   have h1:=hd (Ai s (3 * i))
   have h2:=hd (Ai s (3 * i+1))
   rw[Ok]
   omega
 unfold macR
 split
 ·exact this 6
 ·exact Int.le_refl _
theorem Aif:(⟨#[]⟩:ByteArray).size=0:=rfl
theorem Qu (s:ByteArray):(0≤(prefixR s).1.1∧(prefixR s).1.1<4294967296):=by
 unfold prefixR
 split
 ·exact⟨Int.le_refl _,by decide⟩
 ·exact⟨H8 _,Mg _⟩
theorem Aao {s:ByteArray} (h:(Bk s).2=true):(Bk s).1.length≤16∧∀ x∈(Bk s).1,0≤x∧x<4294967296:=by
 have hp:=Ly h
 obtain ⟨a,b,c,d⟩:=Im Bo (Bd 44 s) [] (Bk s).1 hp List.Pairwise.nil qe
 refine⟨b,fun x hx=>?_⟩
 rcases d x hx with hh | ⟨p,_,hh⟩
 ·cases hh
 ·have h1:=H8 p
  have h2:=Mg p
  rw[hh]at h1 h2
  exact⟨h1,h2⟩
theorem Kj {s:ByteArray} {hi:Int} (h:(listR hi s).2=true):Du (listR hi s).1 hi=true:=Aqf (Ly h)
theorem Bm (hi:Int):Du [] hi=true:=by simp[Du,S9]
theorem zV:(0:Int)≤0∧(0:Int)≤4094:=by decide
theorem zN:(0:Int)≤0∧(0:Int)≤16777215:=by decide
theorem zC:(0:Int)≤0∧(0:Int)≤65535:=by decide
theorem zB:(0:Int)≤0∧(0:Int)≤32:=by decide
theorem zM:(0:Int)≤0∧(0:Int)<18446744073709551616:=by decide
theorem zA:(0:Int)≤0∧(0:Int)<4294967296:=by decide
theorem zS:(⟨#[]⟩:ByteArray).size≤12:=by decide
theorem Q8 {w:List ByteArray} {row:Int} (h:(Bt w row).2=0):LineR (Bt w row).1:=by
 obtain ⟨g1,g2⟩:=Aj1 h
 rw[g1]
 clear g1 h
 have ez:=Aif
 have o1:∀ {m:Int},0≤m→statB m=true→0≤m∧m<18446744073709551616:=fun a b=>⟨a,by have:=Qs b;omega⟩
 unfold A5 at g2 ⊢
 dsimp only at g2 ⊢
 by_cases h1:kindL (wdT w 0)=1
 ·simp only[if_pos h1,List.mem_cons,List.not_mem_nil,or_false,forall_eq_or_imp,forall_eq,Bool.not_eq_eq_eq_not,Bool.not_false,Bool.and_eq_true]at g2 ⊢
  obtain ⟨b1,b2,b3,b4⟩:=g2
  have c:=Es b2
  have n1:=C9 b1
  exact⟨by simp[B1,A7,b1,b4,within_iff.2 c,Eo],⟨o1 (Xw _) b4,zA,by simp[lineZ]⟩,zV,⟨c.1,by have:=c.2;dsimp only;omega⟩,zC,zB,Bm _,Bm _,Bm _,by simp[lineZ],n1,zS,zS,zS,zS⟩
 by_cases h2:kindL (wdT w 0)=2
 ·simp only[if_neg h1,if_pos h2]at g2 ⊢
  have b1:=g2 (!(nameB (wdT w 1)),20) qe
  have b2:=g2 (!(nameB (wdT w 2)),20) qe
  have b3:=g2 (!(numR (wdT w 3) 1 65535).2,21) qe
  have b4:∀ e∈(Cj w).2.2,e.1=false:=fun e he=>g2 e (by simp[he])
  have b5:=g2 (!(membersB (Cj w).1 (Cj w).2.1),21) qe
  simp only[Bool.not_eq_eq_eq_not,Bool.not_false]at b1 b2 b3 b5
  have c:=Es b3
  have hp:(0≤(Cj w).1∧(Cj w).1≤4094)∧Du (Cj w).2.1 4094=true:=by
   clear b5 g2
   unfold Cj at b4 ⊢
   split
   ·rename_i e
    rw[if_pos e]at b4
    have:=b4 _ (List.mem_singleton.2 rfl)
    simp only[Bool.not_eq_eq_eq_not,Bool.not_false]at this
    have:=Es this
    exact⟨⟨by have:=this.1;dsimp only[Bl];omega,this.2⟩,Bm _⟩
   ·rename_i e
    rw[if_neg e]at b4
    split
    ·rename_i e2
     rw[if_pos e2]at b4
     split
     ·rename_i e3
      rw[if_pos e3]at b4
      have:=b4 _ (List.mem_singleton.2 rfl)
      simp only[Bool.not_eq_eq_eq_not,Bool.not_false]at this
      exact⟨zV,Kj this⟩
     ·rename_i e3
      rw[if_neg e3]at b4
      have a1:=b4 _ (List.mem_cons_self)
      have a2:=b4 _ (List.mem_cons_of_mem _ (List.mem_singleton.2 rfl))
      simp only[Bool.not_eq_eq_eq_not,Bool.not_false]at a1 a2
      have:=Es a1
      exact⟨⟨by have:=this.1;dsimp only[Bl];omega,this.2⟩,Kj a2⟩
    ·exact⟨zV,Bm _⟩
  generalize Cj w=q at *
  obtain ⟨hv,ht⟩:=hp
  exact⟨by simp[B1,A7,b1,b2,b5,ht,within_iff.2 c,within_iff.2 hv,Eo],⟨zM,zA,by simp[lineZ]⟩,hv,zN,⟨by have:=c.1;dsimp only;omega,c.2⟩,zB,ht,Bm _,Bm _,by simp[lineZ],C9 b1,C9 b2,zS,zS,zS⟩
 by_cases h3:kindL (wdT w 0)=3
 ·simp only[if_neg h1,if_neg h2,if_pos h3,List.mem_cons,List.not_mem_nil,or_false,forall_eq_or_imp,forall_eq,Bool.not_eq_eq_eq_not,Bool.not_false,Bool.and_eq_true]at g2 ⊢
  obtain ⟨b1,b2,b3,b4⟩:=g2
  exact⟨by simp[B1,A7,b1,b2,b3,b4,Eo],⟨zM,zA,by simp[lineZ]⟩,zV,zN,zC,zB,Bm _,Bm _,Bm _,by simp[lineZ],C9 b1,C9 b2,C9 b3,C9 b4,zS⟩
 by_cases h4:kindL (wdT w 0)=4
 ·simp only[if_neg h1,if_neg h2,if_neg h3,if_pos h4,List.mem_cons,List.not_mem_nil,or_false,forall_eq_or_imp,forall_eq,Bool.not_eq_eq_eq_not,Bool.not_false,Bool.and_eq_true]at g2 ⊢
  obtain ⟨b1,b2,⟨b3,b4⟩,b5⟩:=g2
  have c:=Es b2
  exact⟨by simp[B1,A7,b1,Aav b2 Y,b4,b5,Eo],⟨o1 (Xw _) b4,zA,by simp[lineZ]⟩,⟨by have:=c.1;dsimp only[Bl];omega,c.2⟩,zN,zC,zB,Bm _,Bm _,Bm _,by simp[lineZ],C9 b1,C9 b5,zS,zS,zS⟩
 by_cases h5:kindL (wdT w 0)=5
 ·simp only[if_neg h1,if_neg h2,if_neg h3,if_neg h4,if_pos h5,List.mem_cons,List.not_mem_nil,or_false,forall_eq_or_imp,forall_eq,Bool.not_eq_eq_eq_not,Bool.not_false,Bool.and_eq_true,decide_eq_true_eq]at g2 ⊢
  obtain ⟨b1,b2,b3⟩:=g2
  exact⟨by simp[B1,A7,b1,b3,Eo],⟨zM,⟨H8 _,Mg _⟩,by simp[lineZ]⟩,zV,zN,zC,zB,Bm _,Bm _,Bm _,by simp[lineZ],C9 b1,zS,zS,zS,zS⟩
 by_cases h6:kindL (wdT w 0)=6
 ·simp only[if_neg h1,if_neg h2,if_neg h3,if_neg h4,if_neg h5,if_pos h6,List.mem_cons,List.not_mem_nil,or_false,forall_eq_or_imp,forall_eq,Bool.not_eq_eq_eq_not,Bool.not_false,Bool.and_eq_true]at g2 ⊢
  obtain ⟨b1,b2,b3⟩:=g2
  have c:=Es b2
  have d:=Es b3
  exact⟨by simp[B1,A7,b1,Aav b2 Y,Ame b3 Y,Eo],⟨zM,zA,by simp[lineZ]⟩,⟨by have:=c.1;dsimp only[Bl];omega,c.2⟩,⟨by have:=d.1;dsimp only[Hy];omega,d.2⟩,zC,zB,Bm _,Bm _,Bm _,by simp[lineZ],C9 b1,zS,zS,zS,zS⟩
 by_cases h7:kindL (wdT w 0)=7
 ·simp only[if_neg h1,if_neg h2,if_neg h3,if_neg h4,if_neg h5,if_neg h6,if_pos h7,List.mem_cons,List.not_mem_nil,or_false,forall_eq_or_imp,forall_eq,Bool.not_eq_eq_eq_not,Bool.not_false,Bool.and_eq_true,decide_eq_true_eq]at g2 ⊢
  obtain ⟨b1,b2,b3,b4⟩:=g2
  have d:=Es b2
  have e:=Aao b3
  exact⟨by simp[B1,A7,b1,Ame b2 Y,Apb (Ly b3) b4,Eo],⟨zM,zA,e.2⟩,zV,⟨by have:=d.1;dsimp only[Hy];omega,d.2⟩,zC,zB,Bm _,Bm _,Bm _,e.1,C9 b1,zS,zS,zS,zS⟩
 by_cases h8:kindL (wdT w 0)=8
 ·simp only[if_neg h1,if_neg h2,if_neg h3,if_neg h4,if_neg h5,if_neg h6,if_neg h7,if_pos h8,List.mem_cons,List.not_mem_nil,or_false,forall_eq_or_imp,forall_eq,Bool.not_eq_eq_eq_not,Bool.not_false,Bool.and_eq_true]at g2 ⊢
  obtain ⟨b1,b2,b3,b4⟩:=g2
  exact⟨by simp[B1,A7,b1,b2,Kj b3,Kj b4,Eo],⟨zM,zA,by simp[lineZ]⟩,zV,zN,zC,zB,Bm _,Kj b3,Kj b4,by simp[lineZ],C9 b1,zS,zS,zS,C9 b2⟩
 ·simp only[if_neg h1,if_neg h2,if_neg h3,if_neg h4,if_neg h5,if_neg h6,if_neg h7,if_neg h8,List.mem_cons,List.not_mem_nil,or_false,forall_eq_or_imp,forall_eq,Bool.not_eq_eq_eq_not,Bool.not_false,Bool.and_eq_true]at g2 ⊢
  obtain ⟨b1,b2,b3,b4,b5⟩:=g2
  have c:=Es b2
  have hb:=Mt b5
  exact⟨by simp[B1,A7,b1,b3,Aav b2 Y,b5,Eo],⟨zM,Qu _,by simp[lineZ]⟩,⟨by have:=c.1;dsimp only[Bl];omega,c.2⟩,zN,zC,⟨by dsimp only;omega,by dsimp only;omega⟩,Bm _,Bm _,Bm _,by simp[lineZ],C9 b1,zS,zS,zS,C9 b3⟩
theorem Agr (l:LineM) (r:Int):B1 { l with row:=r }=B1 l:=by
 by_cases h1:l.kind=1
 ·simp[B1,A7,Jd,h1]
 by_cases h2:l.kind=2
 ·simp[B1,A7,Jd,h1,h2]
 by_cases h3:l.kind=3
 ·simp[B1,A7,Jd,h1,h2,h3]
 by_cases h4:l.kind=4
 ·simp[B1,A7,Jd,h1,h2,h3,h4]
 by_cases h5:l.kind=5
 ·simp[B1,A7,Jd,h1,h2,h3,h4,h5]
 by_cases h6:l.kind=6
 ·simp[B1,A7,Jd,h1,h2,h3,h4,h5,h6]
 by_cases h7:l.kind=7
 ·simp[B1,A7,Jd,h1,h2,h3,h4,h5,h6,h7]
 by_cases h8:l.kind=8
 ·simp[B1,A7,Jd,h1,h2,h3,h4,h5,h6,h7,h8]
 by_cases h9:l.kind=9
 ·simp[B1,A7,Jd,h1,h2,h3,h4,h5,h6,h7,h8,h9]
 simp[B1,A7,Jd,h1,h2,h3,h4,h5,h6,h7,h8,h9]
theorem LineR.row {l:LineM} (h:LineR l) (r:Int):LineR { l with row:=r } :=
 ⟨by rw[Agr];exact h.right,⟨h.ok.mac,h.ok.addr,h.ok.addrs⟩,h.vlan,h.num,h.cost,h.bits,h.tagged,h.imports,h.exports,h.addrs,h.dev,h.port,h.peer,h.far,h.name⟩
theorem Lp:∀ (rs:List ByteArray) (i:Nat) (out:List LineM),(∀ x∈out,LineR x)→∀ x∈(Ju i rs out).1,LineR x
 | [],_,_,h=>by rw[Ju];exact h
 | r::rs,i,out,h=>by
  rw[Ju]
  split
  ·intro x hx;cases hx
  ·split
   ·exact Lp rs (i+1) out h
   ·split
    ·intro x hx;cases hx
    ·rename_i h3
     refine Lp rs (i+1) _ fun x hx=>?_
     rcases List.mem_append.1 hx with hx | hx
     ·exact h x hx
     ·rw[List.mem_singleton.1 hx]
      exact Q8 z_
theorem Afx (b:List UInt8):∀ x∈(textT b).1,LineR x:=by
 unfold textT
 split
 ·intro x hx;cases hx
 ·exact Lp _ 0 [] qe
end Go.Sy.YtjenpnjajjplkaaGreatDoor
namespace Go.Sy.YtjenpnjajjplkaaGreatDoor
open Go.Proofs
attribute [local irreducible] Go.Sy.G Go.Sy.DR
set_option maxRecDepth 100000
set_option maxHeartbeats 4000000
theorem LineR.w {l:LineM} (h:LineR l):LineW l where
 fin:=by
  have e:∀ {l:List Int} {m:Int},Du l m=true→m≤65535→l.length≤100000:=fun {l} {m} hl hm=>by
   rcases listOK_iff.1 hl with h | h
   ·rw[h];exact Nat.zero_le _
   ·have:=(rising_iff.1 h).2.2.2;omega
  exact⟨e h.tagged y_,e h.imports y_,e h.exports y_,by have:=h.addrs;omega⟩
 ok:=h.ok
 dev:=by have:=h.dev;omega
 port:=by have:=h.port;omega
 peer:=by have:=h.peer;omega
 far:=by have:=h.far;omega
 name:=by have:=h.name;omega
theorem Q7:∀ (rs:List ByteArray) (i:Nat) (out:List LineM),(Ju i rs out).1.length≤out.length+rs.length
 | [],_,out=>by rw[Ju];simp
 | r::rs,i,out=>by
  rw[Ju]
  split
  ·simp
  ·split
   ·have:=Q7 rs (i+1) out;rw[List.length_cons];omega
   ·split
    ·simp
    ·have:=Q7 rs (i+1) (out++[(Bt (wordsT r).1 ((i:Int)+1)).1])
     rw[List.length_append,List.length_singleton]at this
     rw[List.length_cons];omega
theorem Amj (b:List UInt8):(textT b).1.length≤400:=by
 have h:=(Vh b).1
 unfold textT
 split
 ·simp
 ·have:=Q7 (rowsT b).1 0 []
  rw[List.length_nil]at this
  omega
theorem Aeb (b:List UInt8) (hb:b.length≤1000000):Sy.Spec Tryz.prog 20 [.sl 1 Bn b] [] (.tup [Aj (netTextT b).1,Aa (netTextT b).2.1,Aa (netTextT b).2.2]) []:=cT F20 Tryz.ntmps20 fun F hF=>by
 have q1:=Ajx b hb
 have q2:=Z0 (textT b).1 (fun x hx=>(Afx b x hx).w) (by have:=Amj b;omega)
 have hres:=netTextT.eq_1 b
 generalize netTextT b=res at *
 generalize textT b=t at *
 refine T ?_
 refine C q1 F44 ?_
 refine T ?_
 refine⟨fun h=>?_,fun h=>?_⟩
 ·have hne:t.2.2≠0:=by intro e;rw[e]at h;cases h
  rw[if_pos hne]at hres
  subst hres
  clear h
  refine T ?_
  refine Ag 2 (Bj emptyN) Y (.cons .nil (.cons .nil (.cons .nil (.cons .nil (.cons .nil (.cons .nil (.cons .nil (.cons .nil .nil)))))))) ?_
  exact D
 ·have he:t.2.2=0:=by simpa using h
  rw[if_neg (fun hh=>hh he)]at hres
  subst hres
  clear h
  refine T ?_
  refine C q2 F13 ?_
  exact D
def Aic : List UInt8 := "device a 1 00:00:00:00:00:01\nport a p 1 access 10".toUTF8.data.toList
def Aor : List UInt8 := "device a 1 00:00:00:00:00:01\ndevice a 1 00:00:00:00:00:02".toUTF8.data.toList
theorem Aqs:(netTextT Aic).2.2=0∧(netTextT Aic).2.1=0∧(netTextT Aic).1.domains.length=1:=by decide +kernel
theorem Aqr:(netTextT Aor).2.2=30∧(netTextT Aor).2.1=2:=by decide +kernel
theorem Amc:Sy.Spec Tryz.prog 17 [] [] (Ab true) []:=cT F17 Tryz.ntmps17 fun F hF=>by
 have q1:=Aeb Aic y_
 have q2:=Aeb Aor y_
 obtain ⟨a1,a2,a3⟩:=Aqs
 obtain ⟨b1,b2⟩:=Aqr
 rw[a1,a2]at q1
 rw[b1,b2]at q2
 have hl1:(((netTextT Aic).1.domains.length:Int) == 1)=true:=by rw[a3];rfl
 generalize (netTextT Aic).1=n1 at *
 generalize (netTextT Aor).1=n2 at *
 refine T ?_
 refine X (K2 Γ.toTy Y Y Y Y Y Y Y) ?_
 refine De 8 Bn Aic Y Y ?_
 refine Ac 8 Y ?_
 refine C q1 F20 ?_
 refine T ?_
 refine X (K2 Γ.toTy Y Y Y Y Y Y Y) ?_
 refine De 15 Bn Aor Y Y ?_
 refine Ac 15 Y ?_
 refine C q2 F20 ?_
 refine T ?_
 exact D
end Go.Sy.YtjenpnjajjplkaaGreatDoor
namespace Go.Sy.YtjenpnjajjplkaaGreatDoor
open Go.Proofs
set_option maxHeartbeats 4000000
def digD (c:UInt8):Int:=if digI c=16 then 0 else digI c
def D8 (s:ByteArray):Nat→Int
 | 0=>0
 | i+1=>if i % 3=2 then D8 s i else D8 s i * 16+digD (Ai s i)
theorem Yn (c:UInt8):0≤digI c∧digI c≤16:=by
 unfold digI
 split
 ·omega
 ·split<;>omega
theorem Sv (c:UInt8):0≤digD c∧digD c≤15:=by
 have:=Yn c
 unfold digD
 split<;>omega
theorem Kz (s:ByteArray):∀ i,0≤D8 s i∧D8 s i<16 ^ i
 | 0=>by simp[D8]
 | i+1=>by
  have ih:=Kz s i
  have h:=Sv (Ai s i)
  have e:(16:Int) ^ (i+1)=16 * 16 ^ i:=by rw[Int.pow_succ];omega
  rw[D8,e]
  split<;>omega
theorem Xz (s:ByteArray):0≤D8 s 17∧D8 s 17<281474976710656:=by
 have h:∀ i,0≤digD (Ai s i)∧digD (Ai s i)≤15:=fun i=>Sv _
 have:=h 0;have:=h 1;have:=h 3;have:=h 4;have:=h 6;have:=h 7;have:=h 9;have:=h 10;have:=h 12;have:=h 13;have:=h 15;have:=h 16
 have e:D8 s 17=((((((((((((0 * 16+digD (Ai s 0)) * 16+digD (Ai s 1)) * 16+digD (Ai s 3)) * 16+digD (Ai s 4)) * 16+digD (Ai s 6)) * 16+digD (Ai s 7)) * 16+digD (Ai s 9)) * 16+digD (Ai s 10)) * 16+digD (Ai s 12)) * 16+digD (Ai s 13)) * 16+digD (Ai s 15)) * 16+digD (Ai s 16)):=rfl
 rw[e]
 omega
theorem Aof:∀ c:Fin 256,digI (UInt8.ofNat c.1)≤15→Dk (digI (UInt8.ofNat c.1)).toNat=UInt8.ofNat c.1:=by decide +kernel
theorem D4 (c:UInt8) (h:digI c≤15):Dk (digI c).toNat=c:=by
 have:=Aof ⟨c.toNat,c.toNat_lt⟩
 simp only[UInt8.ofNat_toNat]at this
 exact this h
theorem list17 {l:List UInt8} (h:l.length=17):∃ a b c d e f g i j k m n o p q r s,l=[a,b,c,d,e,f,g,i,j,k,m,n,o,p,q,r,s]:=by
 rcases l with _ | ⟨a,_ | ⟨b,_ | ⟨c,_ | ⟨d,_ | ⟨e,_ | ⟨f,_ | ⟨g,_ | ⟨i,_ | ⟨j,_ | ⟨k,_ | ⟨m,_ | ⟨n,_ | ⟨o,_ | ⟨p,_ | ⟨q,_ | ⟨r,_ | ⟨s,l⟩⟩⟩⟩⟩⟩⟩⟩⟩⟩⟩⟩⟩⟩⟩⟩⟩
 all_goals simp at h
 subst h
 exact⟨_,_,_,_,_,_,_,_,_,_,_,_,_,_,_,_,_,Y⟩
theorem Aqe {s:ByteArray} (hs:s.size=17) (h:∀ i,i<6→Hh s i=true):A1 (D8 s 17)=s:=by
 have hl:s.data.toList.length=17:=hs
 obtain ⟨a,b,c,d,e,f,g,i,j,k,m,n,o,p,q,r,t,hL⟩:=list17 hl
 obtain rfl:s=mkT [a,b,c,d,e,f,g,i,j,k,m,n,o,p,q,r,t]:=by rw[← Cv s,hL]
 have g0:=h 0 z_;have g1:=h 1 z_;have g2:=h 2 z_;have g3:=h 3 z_;have g4:=h 4 z_;have g5:=h 5 z_
 clear h hs hl hL
 have e0:digI a≤15∧digI b≤15∧c.toNat=58:=by simpa [Hh,Ai,mkT,and_assoc] using g0
 have e1:digI d≤15∧digI e≤15∧f.toNat=58:=by simpa [Hh,Ai,mkT,and_assoc] using g1
 have e2:digI g≤15∧digI i≤15∧j.toNat=58:=by simpa [Hh,Ai,mkT,and_assoc] using g2
 have e3:digI k≤15∧digI m≤15∧n.toNat=58:=by simpa [Hh,Ai,mkT,and_assoc] using g3
 have e4:digI o≤15∧digI p≤15∧q.toNat=58:=by simpa [Hh,Ai,mkT,and_assoc] using g4
 have e5:digI r≤15∧digI t≤15:=by simpa [Hh,Ai,mkT,and_assoc] using g5
 clear g0 g1 g2 g3 g4 g5
 have col:∀ {x:UInt8},x.toNat=58→x=58:=fun hx=>UInt8.toNat_inj.1 hx
 have dd:∀ {x:UInt8},digI x≤15→digD x=digI x:=fun hx=>by unfold digD;rw[if_neg z_]
 have nn:∀ x:UInt8,0≤digI x:=fun x=>(Yn x).1
 have hv:D8 (mkT [a,b,c,d,e,f,g,i,j,k,m,n,o,p,q,r,t]) 17=(((((((((((digI a * 16+digI b) * 16+digI d) * 16+digI e) * 16+digI g) * 16+digI i) * 16+digI k) * 16+digI m) * 16+digI o) * 16+digI p) * 16+digI r) * 16+digI t):=by
  show ((((((((((((0 * 16+digD a) * 16+digD b) * 16+digD d) * 16+digD e) * 16+digD g) * 16+digD i) * 16+digD k) * 16+digD m) * 16+digD o) * 16+digD p) * 16+digD r) * 16+digD t)=_
  rw[dd e0.1,dd e0.2.1,dd e1.1,dd e1.2.1,dd e2.1,dd e2.2.1,dd e3.1,dd e3.2.1,dd e4.1,dd e4.2.1,dd e5.1,dd e5.2]
  omega
 rw[hv]
 have b0:=D4 a e0.1;have b1:=D4 b e0.2.1;have b2:=D4 d e1.1;have b3:=D4 e e1.2.1;have b4:=D4 g e2.1;have b5:=D4 i e2.2.1
 have b6:=D4 k e3.1;have b7:=D4 m e3.2.1;have b8:=D4 o e4.1;have b9:=D4 p e4.2.1;have b10:=D4 r e5.1;have b11:=D4 t e5.2
 have n0:=nn a;have n1:=nn b;have n2:=nn d;have n3:=nn e;have n4:=nn g;have n5:=nn i;have n6:=nn k;have n7:=nn m;have n8:=nn o;have n9:=nn p;have n10:=nn r;have n11:=nn t
 rw[col e0.2.2,col e1.2.2,col e2.2.2,col e3.2.2,col e4.2.2]
 generalize digI a=A at *
 generalize digI b=B at *
 generalize digI d=D at *
 generalize digI e=E at *
 generalize digI g=G' at *
 generalize digI i=I' at *
 generalize digI k=K' at *
 generalize digI m=M' at *
 generalize digI o=O' at *
 generalize digI p=P' at *
 generalize digI r=R' at *
 generalize digI t=T' at *
 generalize hN:(((((((((((A * 16+B) * 16+D) * 16+E) * 16+G') * 16+I') * 16+K') * 16+M') * 16+O') * 16+P') * 16+R') * 16+T')=N
 have y0:Bg N.toNat 0 / 16=A.toNat∧Bg N.toNat 0 % 16=B.toNat:=by
  have:Bg N.toNat 0=N.toNat / 1099511627776 % 256:=rfl
  rw[this];omega
 have y1:Bg N.toNat 1 / 16=D.toNat∧Bg N.toNat 1 % 16=E.toNat:=by
  have:Bg N.toNat 1=N.toNat / 4294967296 % 256:=rfl
  rw[this];omega
 have y2:Bg N.toNat 2 / 16=G'.toNat∧Bg N.toNat 2 % 16=I'.toNat:=by
  have:Bg N.toNat 2=N.toNat / 16777216 % 256:=rfl
  rw[this];omega
 have y3:Bg N.toNat 3 / 16=K'.toNat∧Bg N.toNat 3 % 16=M'.toNat:=by
  have:Bg N.toNat 3=N.toNat / 65536 % 256:=rfl
  rw[this];omega
 have y4:Bg N.toNat 4 / 16=O'.toNat∧Bg N.toNat 4 % 16=P'.toNat:=by
  have:Bg N.toNat 4=N.toNat / 256 % 256:=rfl
  rw[this];omega
 have y5:Bg N.toNat 5 / 16=R'.toNat∧Bg N.toNat 5 % 16=T'.toNat:=by
  have:Bg N.toNat 5=N.toNat / 1 % 256:=rfl
  rw[this];omega
 rw[A1]
 simp only[Qn]
 rw[y0.1,y0.2,y1.1,y1.2,y2.1,y2.2,y3.1,y3.2,y4.1,y4.2,y5.1,y5.2,b0,b1,b2,b3,b4,b5,b6,b7,b8,b9,b10,b11]
 simp
theorem Aqd (s:ByteArray) (hs:s.size=17):macR s=if A1 (D8 s 17)=s then (D8 s 17,true) else (0,false):=by
 obtain ⟨h0,h1⟩:=Xz s
 split
 ·rename_i e
  obtain ⟨k,hk⟩:∃ k:Nat,D8 s 17=k:=⟨(D8 s 17).toNat,by omega⟩
  rw[hk]at e h1 ⊢
  have:=Add k z_
  rwa [e]at this
 ·rename_i e
  rw[macR,if_neg]
  rintro ⟨_,hh⟩
  rw[List.all_eq_true]at hh
  exact e (Aqe hs fun i hi=>hh i (List.mem_range.2 hi))
theorem An0 {s:ByteArray} (hs:s.size≠17):macR s=(0,false):=by rw[macR,if_neg (fun h=>hs h.1)]
def digitsD (s:ByteArray):Int:=if s.size=0∨3<s.size∨Mp s=false then 1000 else if Aw (Hb s s.size)=s then Hb s s.size else 1000
theorem S1 {s:ByteArray} (h:Mp s=true):∃ n:Nat,Hb s s.size=n∧n<10 ^ s.size:=by
 have hd:∀ i,i<s.size→Dd (Ai s i)=true:=by
  rw[Mp,List.all_eq_true]at h
  exact fun i hi=>h i (List.mem_range.2 hi)
 have:=S2 hd
 have e:((10 ^ s.size:Nat):Int)=10 ^ s.size:=by simp
 exact⟨(Hb s s.size).toNat,by omega,by omega⟩
theorem Li {c:UInt8} (h:48≤c.toNat∧c.toNat≤57) {n:Nat} (hn:n=c.toNat-48):UInt8.ofNat (48+n)=c:=by
 subst hn
 have e:48+(c.toNat-48)=c.toNat:=by omega
 rw[e]
 exact UInt8.ofNat_toNat
theorem Sd {u:Nat} (h:u<10):revDigs u=[UInt8.ofNat (48+u)]:=by rw[revDigs,if_pos h]
theorem Se {u:Nat} (h:¬ u<10):revDigs u=UInt8.ofNat (48+u % 10)::revDigs (u / 10):=by rw[revDigs,if_neg h]
theorem Anq {s:ByteArray} (h1:s.size≠0) (h2:s.size≤3) (hd:Mp s=true) (h0:¬ (1<s.size∧(Ai s 0).toNat=48)):Aw (Hb s s.size)=s:=by
 obtain ⟨n,hn,_⟩:=S1 hd
 have hb:∀ i,i<s.size→48≤(Ai s i).toNat∧(Ai s i).toNat≤57:=by
  rw[Mp,List.all_eq_true]at hd
  exact fun i hi=>digB_iff.1 (hd i (List.mem_range.2 hi))
 have hL:s.data.toList.length=s.size:=rfl
 rw[hn,Dq]
 have hsz:s.size=1∨s.size=2∨s.size=3:=by omega
 rcases hsz with e | e | e
 ·have b0:=hb 0 z_
  rw[e]at hn hL
  have hv:Hb s 1=10 * 0+(((Ai s 0).toNat:Int)-48):=rfl
  have hn':n=(Ai s 0).toNat-48:=by omega
  match hl:s.data.toList,hL with
  | [a],_ =>
   have:Ai s 0=a:=by simp[Ai,hl]
   rw[this]at hn' b0
   rw[Sd z_,Li b0 hn',← Cv s,hl]
   rfl
 ·have b0:=hb 0 z_
  have b1:=hb 1 z_
  rw[e]at hn hL
  have hv:Hb s 2=10 * (10 * 0+(((Ai s 0).toNat:Int)-48))+(((Ai s 1).toNat:Int)-48):=rfl
  match hl:s.data.toList,hL with
  | [a,b],_ =>
   have t0:Ai s 0=a:=by simp[Ai,hl]
   have t1:Ai s 1=b:=by simp[Ai,hl]
   rw[t0]at b0 hv h0
   rw[t1]at b1 hv
   have h0':a.toNat≠48:=fun x=>h0 ⟨by omega,x⟩
   rw[Se z_,Sd z_,Li b1 z_,Li b0 z_,← Cv s,hl]
   rfl
 ·have b0:=hb 0 z_
  have b1:=hb 1 z_
  have b2:=hb 2 z_
  rw[e]at hn hL
  have hv:Hb s 3=10 * (10 * (10 * 0+(((Ai s 0).toNat:Int)-48))+(((Ai s 1).toNat:Int)-48))+(((Ai s 2).toNat:Int)-48):=rfl
  match hl:s.data.toList,hL with
  | [a,b,c],_ =>
   have t0:Ai s 0=a:=by simp[Ai,hl]
   have t1:Ai s 1=b:=by simp[Ai,hl]
   have t2:Ai s 2=c:=by simp[Ai,hl]
   rw[t0]at b0 hv h0
   rw[t1]at b1 hv
   rw[t2]at b2 hv
   have h0':a.toNat≠48:=fun x=>h0 ⟨by omega,x⟩
   rw[Se z_,Se z_,Sd z_,Li b2 z_,Li b1 z_,Li b0 z_,← Cv s,hl]
   rfl
theorem Um (s:ByteArray) (most:Int):smallT s most=if digitsD s=1000 then (0,false) else (digitsD s,decide (digitsD s≤most)):=by
 unfold digitsD
 by_cases h:s.size=0∨3<s.size∨Mp s=false
 ·rw[if_pos h,if_pos rfl,smallT,if_pos]
  rcases h with h | h | h
  ·exact .inl h
  ·exact .inr (.inl h)
  ·exact .inr (.inr (.inr h))
 ·rw[if_neg h]
  simp only[not_or,Bool.not_eq_false]at h
  obtain ⟨n,hn,hlt⟩:=S1 h.2.2
  have hn3:n<1000:=Nat.lt_of_lt_of_le hlt (Nat.pow_le_pow_right y_ (by omega:s.size≤3))
  by_cases e:Aw (Hb s s.size)=s
  ·rw[if_pos e,if_neg z_,hn]
   rw[hn,Dq]at e
   have:=Sa n most hn3
   rwa [e]at this
  ·rw[if_neg e,if_pos rfl,smallT,if_pos]
   by_cases h0:1<s.size∧(Ai s 0).toNat=48
   ·exact .inr (.inr (.inl h0))
   ·exact absurd (Anq h.1 z_ h.2.2 h0) e
theorem La (s:ByteArray):0≤digitsD s∧digitsD s≤1000:=by
 unfold digitsD
 split
 ·omega
 ·rename_i h
  simp only[not_or,Bool.not_eq_false]at h
  obtain ⟨n,hn,hlt⟩:=S1 h.2.2
  have hn3:n<1000:=Nat.lt_of_lt_of_le hlt (Nat.pow_le_pow_right y_ (by omega:s.size≤3))
  split<;>omega
theorem Xp (s:ByteArray):Le s=decide (digitsD s≤255):=by
 rw[Le,Um]
 split
 ·rename_i h;rw[h];rfl
 ·rfl
theorem Zy {s:ByteArray} (h:Le s=true):(smallT s 255).1=digitsD s∧0≤digitsD s∧digitsD s≤255:=by
 rw[Xp]at h
 have h:=of_decide_eq_true h
 rw[Um,if_neg z_]
 exact⟨Y,(La s).1,h⟩
def H9 (l:List ByteArray):Int:=l.foldl (fun a x=>a * 256+digitsD x) 0
theorem Mi (l:List ByteArray) (x:ByteArray):H9 (l++[x])=H9 l * 256+digitsD x:=by
 rw[H9,List.foldl_append];rfl
theorem Jr:∀ (k:Nat) (l:List ByteArray),l.length=k→(∀ x∈l,Le x=true)→0≤H9 l∧H9 l<256 ^ k
 | 0,l,hl,_=>by
  rw[List.length_eq_zero_iff.1 hl]
  simp[H9]
 | k+1,l,hl,h=>by
  have hne:l≠[]:=fun e=>by rw[e]at hl;cases hl
  have e:=List.dropLast_concat_getLast hne
  have h1:=Jr k l.dropLast (by rw[List.length_dropLast];omega) fun c hc=>h c (List.dropLast_subset l hc)
  have h2:=Zy (h _ (List.getLast_mem hne))
  rw[← e,Mi,Int.pow_succ]
  omega
theorem Aaq:∀ (k:Nat) (l:List ByteArray),l.length=k→k≤4→(∀ x∈l,Le x=true)→O3 l=H9 l
 | 0,l,hl,_,_=>by
  rw[List.length_eq_zero_iff.1 hl]
  rfl
 | k+1,l,hl,hk,h=>by
  have hne:l≠[]:=fun e=>by rw[e]at hl;cases hl
  have e:=List.dropLast_concat_getLast hne
  have hld:l.dropLast.length=k:=by rw[List.length_dropLast];omega
  have hsub:∀ c∈l.dropLast,Le c=true:=fun c hc=>h c (List.dropLast_subset l hc)
  have h1:=Aaq k l.dropLast hld z_ hsub
  have h2:=Zy (h _ (List.getLast_mem hne))
  have h3:=Jr k l.dropLast hld hsub
  have h4:(256:Int) ^ k≤16777216:=by
   have:k=0∨k=1∨k=2∨k=3:=by omega
   rcases this with rfl | rfl | rfl | rfl<;>decide
  obtain ⟨u,hu⟩:∃ u:Nat,H9 l.dropLast=u:=⟨(H9 l.dropLast).toNat,by omega⟩
  obtain ⟨v,hv⟩:∃ v:Nat,digitsD (l.getLast hne)=v:=⟨(digitsD (l.getLast hne)).toNat,by omega⟩
  rw[← e,Mi,Mh,h1,h2.1,hu,hv,Lm u v z_ z_]
  rw[Int.natCast_add,Int.natCast_mul]
  rfl
theorem Akf {s:ByteArray} (h1:(Bd 46 s).length=4) (h2:∀ x∈Bd 46 s,Le x=true):Bo s=(H9 (Bd 46 s),true):=by
 rw[Bo,if_pos ⟨h1,List.all_eq_true.2 h2⟩,Aaq 4 _ h1 z_ h2]
theorem Amx {s:ByteArray} (h:(Bd 46 s).length≠4∨∃ x∈Bd 46 s,Le x=false):Bo s=(0,false):=by
 rw[Bo,if_neg]
 rintro ⟨a,b⟩
 rcases h with h | ⟨x,hx,h⟩
 ·exact h a
 ·rw[List.all_eq_true.1 b x hx]at h;cases h
theorem Q9 (d:UInt8):∀ (r cur:List UInt8),∃ p t,By d cur r=mkT (cur++p)::t
 | [],cur=>⟨[],[],by rw[By,List.append_nil]⟩
 | c::r,cur=>by
  rw[By]
  split
  ·exact⟨[],_,by rw[List.append_nil]⟩
  ·obtain ⟨p,t,e⟩:=Q9 d r (cur++[c])
   exact⟨c::p,t,by rw[e,List.append_assoc];rfl⟩
theorem An2 {l:List UInt8} (h:3<l.length):Le (mkT l)=false:=by
 rw[Xp,digitsD,if_pos (.inr (.inl (by rw[Bp];exact h)))]
 rfl
theorem Z9 (one:ByteArray→Int × Bool):∀ (ps:List ByteArray) (out r:List Int),B5 one out ps=(r,true)→r=out++ps.map (fun p=>(one p).1)∧∀ p∈ps,(one p).2=true
 | [],out,r,h=>by
  rw[B5]at h
  simp only[Prod.mk.injEq,and_true]at h
  exact⟨by simp[h],by simp⟩
 | p::ps,out,r,h=>by
  rw[B5]at h
  split at h
  ·simp at h
  ·rename_i hn
   simp only[not_or,Bool.not_eq_false]at hn
   obtain ⟨a,b⟩:=Z9 one ps _ r h
   refine⟨by rw[a,List.append_assoc];rfl,fun q hq=>?_⟩
   rcases List.mem_cons.1 hq with rfl | hq
   ·exact hn.1
   ·exact b q hq
theorem So (one:ByteArray→Int × Bool):∀ (ps:List ByteArray) (out:List Int),(B5 one out ps).2=false→B5 one out ps=([],false)
 | [],out,h=>by rw[B5]at h;cases h
 | p::ps,out,h=>by
  rw[B5]at h ⊢
  split
  ·rfl
  ·rename_i hn
   rw[if_neg hn]at h
   exact So one ps _ h
theorem Aaa (one:ByteArray→Int × Bool):∀ (ps:List ByteArray) (out:List Int),(∀ p∈ps,(one p).2=true)→Ach (out++ps.map (fun p=>(one p).1))→(out++ps.map (fun p=>(one p).1)).length≤16→B5 one out ps=(out++ps.map (fun p=>(one p).1),true)
 | [],out,_,_,_=>by rw[B5,List.map_nil,List.append_nil]
 | p::ps,out,h1,h2,h3=>by
  have e:out++(p::ps).map (fun p=>(one p).1)=(out++[(one p).1])++ps.map (fun p=>(one p).1):=by simp
  rw[B5,if_neg,Aaa one ps _ (fun q hq=>h1 q (by simp[hq])) (by rw[← e];exact h2) (by rw[← e];exact h3),e]
  rintro (hh | hh | ⟨y,hy,hyx⟩)
  ·rw[h1 p qe]at hh;cases hh
  ·simp only[List.length_append,List.length_map,List.length_cons]at h3;omega
  ·have hm:=List.mem_of_getLast? hy
   have:=(List.pairwise_append.1 h2).2.2 y hm (one p).1 qe
   omega
theorem Aln (hi:Int) (s:ByteArray):Dr (fun p=>numR p 1 hi) s=if (∀ p∈Bd 44 s,(numR p 1 hi).2=true)∧Df ((Bd 44 s).map fun p=>(numR p 1 hi).1) 1 hi=true then ((Bd 44 s).map (fun p=>(numR p 1 hi).1),true) else ([],false):=by
 unfold Dr
 have hne:0<(Bd 44 s).length:=by rw[D9];omega
 split
 ·rename_i h
  obtain ⟨h1,h2⟩:=h
  have h3:=rising_iff.1 h2
  rw[Aaa _ _ [] h1 (by simpa using h3.1) (by simpa using h3.2.2.2)]
  rfl
 ·rename_i h
  refine So _ _ _ ?_
  cases hg:(B5 (fun p=>numR p 1 hi) [] (Bd 44 s)).2 with
  | false=>rfl
  | true =>
   exfalso
   have hp:=Ly hg
   obtain ⟨a,b⟩:=Z9 _ _ _ _ hp
   obtain ⟨c,d,e,_⟩:=Im _ _ _ _ hp List.Pairwise.nil qe
   rw[List.nil_append]at a
   rw[a]at c d
   refine h ⟨b,rising_iff.2 ⟨c,fun x hx=>?_,by simpa using hne,d⟩⟩
   obtain ⟨p,hp',rfl⟩:=List.mem_map.1 hx
   exact Es (b p hp')
end Go.Sy.YtjenpnjajjplkaaGreatDoor
namespace Go.Sy.YtjenpnjajjplkaaGreatDoor
open Go.Proofs
set_option maxHeartbeats 400000
def formD (w:List ByteArray):List UInt8 :=
 if kindL (wdT w 0)=1 then [78,80,77] else if kindL (wdT w 0)=3 then [78,78,78,78] else if kindL (wdT w 0)=4 then [78,86,77,78]
 else if kindL (wdT w 0)=5 then [78,65] else if kindL (wdT w 0)=6 then [78,86,73] else if kindL (wdT w 0)=7 then [78,73,76]
 else if kindL (wdT w 0)=8 then [78,78,82,82] else if kindL (wdT w 0)=9 then [78,86,78,83]
 else if kindL (wdT w 0)=2 then (if w.length=7∧wdT w 4≠accessT then [78,78,67,75,87,84] else if w.length=6∧wdT w 4≠trunkT then [78,78,67,75,86] else [])
 else []
def nameD (s:ByteArray) (at':Nat) (l:LineM):LineM :=
 if at'=0 then { l with dev:=s } else if l.kind=8∨l.kind=9 then { l with name:=s } else if at'=1 then { l with port:=s } else if at'=2 then { l with peer:=s } else if at'=3 then { l with far:=s } else l
def Jo (b:Bool):Int:=if b=true then 0 else 21
def Br (k:UInt8) (s:ByteArray) (at':Nat) (l:LineM):LineM × Int :=
 if k=78 then (if nameB s=false then (l,20) else (nameD s at' l,0))
 else if k=75 then (l,if s≠accessT∧s≠trunkT then 20 else 0)
 else if k=80 then ({ l with num:=(numR s 0 65535).1 },Jo (numR s 0 65535).2)
 else if k=67 then ({ l with cost:=(numR s 1 65535).1 },Jo (numR s 1 65535).2)
 else if k=77 then ({ l with mac:=(macR s).1 },Jo ((macR s).2 && statB (macR s).1))
 else if k=86 then ({ l with vlan:=(Bl s).1 },Jo (Bl s).2)
 else if k=87 then ({ l with vlan:=(Bl s).1 },Jo ((Bl s).2 || decide (s=dash)))
 else if k=84 then ({ l with tagged:=(listR 4094 s).1 },Jo (listR 4094 s).2)
 else if k=73 then ({ l with num:=(Hy s).1 },Jo (Hy s).2)
 else if k=65 then ({ l with addr:=(Bo s).1 },Jo ((Bo s).2 && decide (0<(Bo s).1)))
 else if k=76 then ({ l with addrs:=(Bk s).1 },Jo ((Bk s).2 && decide (0<(Bk s).1.headD 0)))
 else if k=82 then ({ l with imports:=l.exports,exports:=(listR 65535 s).1 },Jo (listR 65535 s).2)
 else if k=83 then ({ l with addr:=(prefixR s).1.1,bits:=(prefixR s).1.2 },Jo ((prefixR s).2 && subnetB (prefixR s).1.1 (prefixR s).1.2))
 else (l,21)
def Jv (row k:Int):LineM:=⟨row,k,⟨#[]⟩,⟨#[]⟩,⟨#[]⟩,⟨#[]⟩,⟨#[]⟩,0,0,0,0,0,0,[],[],[],[]⟩
def Dj:List UInt8→List ByteArray→Nat→LineM→LineM × Int
 | [],_,_,l=>(l,0)
 | _::_,[],_,l=>(l,0)
 | k::f,s::w,at',l=>if (Br k s at' l).2≠0 then (lineZ,(Br k s at' l).2) else Dj f w (if k=78 then at'+1 else at') (Br k s at' l).1
def readD (w:List ByteArray) (row:Int):LineM × Int :=
 if formD w=[]∨w.length≠(formD w).length+1 then (lineZ,22)
 else if (Dj (formD w) (w.drop 1) 0 (Jv row (kindL (wdT w 0)))).2≠0 then (lineZ,(Dj (formD w) (w.drop 1) 0 (Jv row (kindL (wdT w 0)))).2)
 else if kindL (wdT w 0)=2∧membersB (Dj (formD w) (w.drop 1) 0 (Jv row (kindL (wdT w 0)))).1.vlan (Dj (formD w) (w.drop 1) 0 (Jv row (kindL (wdT w 0)))).1.tagged=false then (lineZ,21)
 else ((Dj (formD w) (w.drop 1) 0 (Jv row (kindL (wdT w 0)))).1,0)
theorem Abt (s:ByteArray):0≤kindL s∧kindL s≤9:=by
 unfold kindL
 repeat' split
 all_goals omega
theorem len3 {w:List ByteArray} (h:w.length=3):∃ a b c,w=[a,b,c]:=by match w,h with | [a,b,c],_=>exact⟨a,b,c,rfl⟩
theorem len4 {w:List ByteArray} (h:w.length=4):∃ a b c d,w=[a,b,c,d]:=by match w,h with | [a,b,c,d],_=>exact⟨a,b,c,d,rfl⟩
theorem Aqi {w:List ByteArray} (h:w.length=5):∃ a b c d e,w=[a,b,c,d,e]:=by match w,h with | [a,b,c,d,e],_=>exact⟨a,b,c,d,e,rfl⟩
theorem len6 {w:List ByteArray} (h:w.length=6):∃ a b c d e f,w=[a,b,c,d,e,f]:=by match w,h with | [a,b,c,d,e,f],_=>exact⟨a,b,c,d,e,f,rfl⟩
theorem len7 {w:List ByteArray} (h:w.length=7):∃ a b c d e f g,w=[a,b,c,d,e,f,g]:=by match w,h with | [a,b,c,d,e,f,g],_=>exact⟨a,b,c,d,e,f,g,rfl⟩
theorem Te {w:List ByteArray} {row:Int} (h:formD w=[]∨w.length≠(formD w).length+1):readD w row=(lineZ,22):=by rw[readD,if_pos h]
theorem Aaz {w:List ByteArray} {row:Int} (h:manyB (kindL (wdT w 0)) w=false):Bt w row=(lineZ,22):=by rw[Bt,if_pos (.inr h)]
theorem Ajz {w:List ByteArray} {row:Int} (hw:w≠[]) (h:manyB (kindL (wdT w 0)) w=true):Bt w row=if Bc (A5 w row).2≠0 then (lineZ,Bc (A5 w row).2) else ((A5 w row).1,0):=by
 rw[Bt,if_neg (by simp[hw,h])]
theorem pos_ne (x:Int) (h:0≤x):decide (0<x)=decide (x≠0):=by
 by_cases h0:x=0
 ·subst h0;rfl
 ·rw[decide_eq_true h0,decide_eq_true z_]
theorem Aoh {l:List Int} (h:0<l.length) (hn:∀ x∈l,0≤x):decide (0<l.headD 0)=decide (l.head? ≠ some 0):=by
 match l,h with
 | x::l,_ =>
  have:=hn x qe
  by_cases h0:x=0
  ·subst h0;rfl
  ·rw[List.headD_cons,List.head?_cons,decide_eq_true z_,decide_eq_true (by simpa using h0)]
theorem Afi (s:ByteArray):((Bk s).2 && decide (0<(Bk s).1.headD 0))=((Bk s).2 && decide ((Bk s).1.head? ≠ some 0)):=by
 cases h:(Bk s).2 with
 | false=>rfl
 | true =>
  have hp:=Ly h
  obtain ⟨_,_,c,_⟩:=Im Bo (Bd 44 s) [] (Bk s).1 hp List.Pairwise.nil qe
  have hl:0<(Bk s).1.length:=by rw[c,D9];simp
  rw[Bool.true_and,Bool.true_and,Aoh hl fun x hx=>((Aao h).2 x hx).1]
theorem wkN (s:ByteArray) (n:Nat) (l:LineM):Br 78 s n l=if nameB s=false then (l,20) else (nameD s n l,0):=by simp[Br]
theorem wkK (s:ByteArray) (n:Nat) (l:LineM):Br 75 s n l=(l,if s≠accessT∧s≠trunkT then 20 else 0):=by simp[Br]
theorem wkP (s:ByteArray) (n:Nat) (l:LineM):Br 80 s n l=({ l with num:=(numR s 0 65535).1 },Jo (numR s 0 65535).2):=by simp[Br]
theorem wkC (s:ByteArray) (n:Nat) (l:LineM):Br 67 s n l=({ l with cost:=(numR s 1 65535).1 },Jo (numR s 1 65535).2):=by simp[Br]
theorem wkM (s:ByteArray) (n:Nat) (l:LineM):Br 77 s n l=({ l with mac:=(macR s).1 },Jo ((macR s).2 && statB (macR s).1)):=by simp[Br]
theorem wkV (s:ByteArray) (n:Nat) (l:LineM):Br 86 s n l=({ l with vlan:=(Bl s).1 },Jo (Bl s).2):=by simp[Br]
theorem wkW (s:ByteArray) (n:Nat) (l:LineM):Br 87 s n l=({ l with vlan:=(Bl s).1 },Jo ((Bl s).2 || decide (s=dash))):=by simp[Br]
theorem wkT (s:ByteArray) (n:Nat) (l:LineM):Br 84 s n l=({ l with tagged:=(listR 4094 s).1 },Jo (listR 4094 s).2):=by simp[Br]
theorem wkI (s:ByteArray) (n:Nat) (l:LineM):Br 73 s n l=({ l with num:=(Hy s).1 },Jo (Hy s).2):=by simp[Br]
theorem wkA (s:ByteArray) (n:Nat) (l:LineM):Br 65 s n l=({ l with addr:=(Bo s).1 },Jo ((Bo s).2 && decide (0<(Bo s).1))):=by simp[Br]
theorem wkL (s:ByteArray) (n:Nat) (l:LineM):Br 76 s n l=({ l with addrs:=(Bk s).1 },Jo ((Bk s).2 && decide (0<(Bk s).1.headD 0))):=by simp[Br]
theorem wkR (s:ByteArray) (n:Nat) (l:LineM):Br 82 s n l=({ l with imports:=l.exports,exports:=(listR 65535 s).1 },Jo (listR 65535 s).2):=by simp[Br]
theorem wkS (s:ByteArray) (n:Nat) (l:LineM):Br 83 s n l=({ l with addr:=(prefixR s).1.1,bits:=(prefixR s).1.2 },Jo ((prefixR s).2 && subnetB (prefixR s).1.1 (prefixR s).1.2)):=by simp[Br]
theorem wkA' (s:ByteArray) (n:Nat) (l:LineM):Br 65 s n l=({ l with addr:=(Bo s).1 },Jo ((Bo s).2 && decide ((Bo s).1≠0))):=by rw[wkA,pos_ne _ (H8 s)]
theorem wkL' (s:ByteArray) (n:Nat) (l:LineM):Br 76 s n l=({ l with addrs:=(Bk s).1 },Jo ((Bk s).2 && decide ((Bk s).1.head? ≠ some 0))):=by rw[wkL,Afi]
theorem wkW' (s:ByteArray) (n:Nat) (l:LineM) (h:s≠dash):Br 87 s n l=({ l with vlan:=(Bl s).1 },Jo (Bl s).2):=by rw[wkW,decide_eq_false h,Bool.or_false]
def Oe (o:LineM→LineM × Int) (r:LineM × Int):LineM × Int:=if r.2≠0 then (lineZ,r.2) else o r.1
def Ap5 (l:LineM):LineM × Int:=if membersB l.vlan l.tagged=false then (lineZ,21) else (l,0)
def Tk (L:LineM) (E:List (Bool × Int)):LineM × Int:=if Bc E≠0 then (lineZ,Bc E) else (L,0)
theorem Aho (L:LineM) (e:Int) (he:e≠0) (E:List (Bool × Int)):Tk L ((true,e)::E)=(lineZ,e):=by
 have h:Bc ((true,e)::E)=e:=rfl
 rw[Tk,h,if_pos he]
theorem Ahp (L:LineM) (e:Int) (E:List (Bool × Int)):Tk L ((false,e)::E)=Tk L E:=rfl
theorem Ahm {o:LineM→LineM × Int} {k:UInt8} {f:List UInt8} {s:ByteArray} {w:List ByteArray} {n:Nat} {l:LineM} {e:Int} (he:e≠0) (h:(Br k s n l).2=e):Oe o (Dj (k::f) (s::w) n l)=(lineZ,e):=by
 rw[Dj,h,if_pos he,Oe,if_pos he]
theorem Abd {o:LineM→LineM × Int} {k:UInt8} {f:List UInt8} {s:ByteArray} {w:List ByteArray} {n n':Nat} {l m:LineM} (h:Br k s n l=(m,0)) (hn:(if k=78 then n+1 else n)=n'):Oe o (Dj (k::f) (s::w) n l)=Oe o (Dj f w n' m):=by
 subst hn
 rw[Dj,h,if_neg qe]
theorem Iv {o:LineM→LineM × Int} {f:List UInt8} {s:ByteArray} {w:List ByteArray} {n:Nat} {l L:LineM} {E:List (Bool × Int)} (h:Oe o (Dj f w (n+1) (nameD s n l))=Tk L E):Oe o (Dj (78::f) (s::w) n l)=Tk L ((!(nameB s),20)::E):=by
 cases hb:nameB s with
 | false =>
  rw[Bool.not_false,Aho _ _ y_]
  exact Ahm y_ (by rw[wkN,if_pos hb])
 | true =>
  rw[Bool.not_true,Ahp,← h]
  exact Abd (by rw[wkN,if_neg (by simp[hb])]) Y
theorem Ii {o:LineM→LineM × Int} {k:UInt8} {f:List UInt8} {s:ByteArray} {w:List ByteArray} {n:Nat} {l m L:LineM} {b:Bool} {E:List (Bool × Int)} (hk:(if k=78 then n+1 else n)=n) (hw:Br k s n l=(m,Jo b)) (h:Oe o (Dj f w n m)=Tk L E):Oe o (Dj (k::f) (s::w) n l)=Tk L ((!b,21)::E):=by
 cases b with
 | false =>
  rw[Bool.not_false,Aho _ _ y_]
  exact Ahm y_ (by rw[hw];rfl)
 | true =>
  rw[Bool.not_true,Ahp,← h]
  exact Abd hw hk
theorem Aq9 {o:LineM→LineM × Int} {f:List UInt8} {s:ByteArray} {w:List ByteArray} {n:Nat} {l L:LineM} {E:List (Bool × Int)} (h:(s=accessT∨s=trunkT)→Oe o (Dj f w n l)=Tk L E):Oe o (Dj (75::f) (s::w) n l)=Tk L ((decide (s≠accessT) && decide (s≠trunkT),20)::E):=by
 by_cases hs:s≠accessT∧s≠trunkT
 ·rw[decide_eq_true hs.1,decide_eq_true hs.2,Bool.and_true,Aho _ _ y_]
  exact Ahm y_ (by rw[wkK,if_pos hs])
 ·have hb:(decide (s≠accessT) && decide (s≠trunkT))=false:=by
   rw[Bool.eq_false_iff]
   intro hh
   rw[Bool.and_eq_true,decide_eq_true_eq,decide_eq_true_eq]at hh
   exact hs hh
  rw[hb,Ahp,← h (by
   by_cases h1:s=accessT
   ·exact .inl h1
   ·by_cases h2:s=trunkT
    ·exact .inr h2
    ·exact absurd ⟨h1,h2⟩ hs)]
  exact Abd (by rw[wkK,if_neg hs]) Y
theorem Vo {w:List ByteArray} {n:Nat} {l L:LineM} (h:l=L):Oe (fun l=>(l,0)) (Dj [] w n l)=Tk L []:=by subst h;rfl
theorem Ank {w:List ByteArray} {n:Nat} {l L:LineM} {v:Int} {t:List Int} (h:l=L) (hv:l.vlan=v) (ht:l.tagged=t):Oe Ap5 (Dj [] w n l)=Tk L [(!(membersB v t),21)]:=by
 subst h hv ht
 show Ap5 l=_
 unfold Ap5
 cases hb:membersB l.vlan l.tagged
 ·rfl
 ·rfl
theorem Amy {w:List ByteArray} {row:Int} {f:List UInt8} (hf:formD w=f) (h0:f≠[]) (hl:w.length=f.length+1) (hk:kindL (wdT w 0)≠2):readD w row=Oe (fun l=>(l,0)) (Dj f (w.drop 1) 0 (Jv row (kindL (wdT w 0)))):=by
 subst hf
 rw[readD,if_neg (by simp[h0,hl]),Oe]
 congr 1
 rw[if_neg (fun h=>hk h.1)]
theorem Zw {w:List ByteArray} {row:Int} {f:List UInt8} (hf:formD w=f) (h0:f≠[]) (hl:w.length=f.length+1) (hk:kindL (wdT w 0)=2):readD w row=Oe Ap5 (Dj f (w.drop 1) 0 (Jv row (kindL (wdT w 0)))):=by
 subst hf
 rw[readD,if_neg (by simp[h0,hl]),Oe]
 congr 1
 simp only[hk,true_and]
 rfl
theorem Aay {w:List ByteArray} {row:Int} {L:LineM} {E:List (Bool × Int)} (hw:w≠[]) (h:manyB (kindL (wdT w 0)) w=true) (hs:A5 w row=(L,E)):Bt w row=Tk L E:=by
 rw[Ajz hw h,hs];rfl
theorem Jf {w:List ByteArray} {row:Int} {f:List UInt8} {n:Nat} (hf:formD w=f) (hfl:f.length=n) (h0:n≠0) (hk:kindL (wdT w 0)≠2) (hm:manyB (kindL (wdT w 0)) w=decide (w.length=n+1)) (h:w.length=n+1→Oe (fun l=>(l,0)) (Dj f (w.drop 1) 0 (Jv row (kindL (wdT w 0))))=Tk (A5 w row).1 (A5 w row).2):readD w row=Bt w row:=by
 subst hfl
 by_cases hl:w.length=f.length+1
 ·rw[Amy hf (fun e=>h0 (by rw[e];rfl)) hl hk,Aay (fun e=>by rw[e]at hl;cases hl) (by rw[hm];exact decide_eq_true hl) rfl]
  exact h hl
 ·rw[Te (.inr (by rw[hf];exact hl)),Aaz (by rw[hm];exact decide_eq_false hl)]
theorem Xi (w:List ByteArray) (row:Int):readD w row=Bt w row:=by
 have hk:=Abt (wdT w 0)
 have hcase:kindL (wdT w 0)=0∨kindL (wdT w 0)=1∨kindL (wdT w 0)=2∨kindL (wdT w 0)=3∨kindL (wdT w 0)=4∨kindL (wdT w 0)=5∨kindL (wdT w 0)=6∨kindL (wdT w 0)=7∨kindL (wdT w 0)=8∨kindL (wdT w 0)=9:=by omega
 clear hk
 have ne:∀ {n:Nat},w.length=n+1→w≠[]:=fun h e=>by rw[e]at h;cases h
 rcases hcase with k | k | k | k | k | k | k | k | k | k
 ·rw[Te (.inl (by simp[formD,k])),Aaz (by simp[manyB,k])]
 ·refine Jf (n:=3) (f:=[78,80,77]) (by simp[formD,k]) Y y_ z_ (by simp[manyB,k]) fun hl=>?_
  obtain ⟨a,b,c,d,rfl⟩:=len4 hl
  rw[wd0]at k
  rw[wd0,k]
  unfold A5
  simp only[wd0,wdS,k]
  refine Iv ?_
  refine Ii Y (wkP _ _ _) ?_
  refine Ii Y (wkM _ _ _) ?_
  exact Vo Y
 ·have hm:manyB (kindL (wdT w 0)) w=(if w.length<6 then false else if wdT w 4=accessT then decide (w.length=6) else if wdT w 4=trunkT then decide (w.length=7) else decide (w.length≤7)):=by simp[manyB,k]
  have hf:formD w=(if w.length=7∧wdT w 4≠accessT then [78,78,67,75,87,84] else if w.length=6∧wdT w 4≠trunkT then [78,78,67,75,86] else []):=by simp[formD,k]
  by_cases g7:w.length=7∧wdT w 4≠accessT
  ·rw[if_pos g7]at hf
   have hm':manyB (kindL (wdT w 0)) w=true:=by
    rw[hm,if_neg z_,if_neg g7.2]
    split<;>simp[g7.1]
   rw[Zw hf qe (by simp[g7.1]) k,Aay (L:=(A5 w row).1) (E:=(A5 w row).2) (ne g7.1) hm' rfl]
   clear hm hm' hf
   obtain ⟨hl,ha⟩:=g7
   obtain ⟨a,b,c,d,e,f,g,rfl⟩:=len7 hl
   rw[wd0]at k
   have ha:e≠accessT:=ha
   rw[wd0,k]
   unfold A5
   simp only[wd0,wdS,k]
   have hp:Cj [a,b,c,d,e,f,g]=(if e=trunkT then (if f=dash then (0,(listR 4094 g).1,[(!(listR 4094 g).2,21)]) else ((Bl f).1,(listR 4094 g).1,[(!(Bl f).2,21),(!(listR 4094 g).2,21)])) else (0,[],[])):=by
    unfold Cj
    simp only[wd0,wdS]
    exact if_neg ha
   rw[hp]
   refine Iv (Iv (Ii Y (wkC _ _ _) (Aq9 fun ht=>?_)))
   have ht:=ht.resolve_left ha
   rw[if_pos ht]
   by_cases hd:f=dash
   ·rw[if_pos hd]
    have hv:Bl f=(0,false):=by subst hd;decide +kernel
    rw[Abd (m:=_) (by rw[wkW,hv,hd];rfl) rfl]
    exact Ii Y (wkT _ _ _) (Ank Y Y Y)
   ·rw[if_neg hd]
    refine Ii Y (wkW' _ _ _ hd) ?_
    exact Ii Y (wkT _ _ _) (Ank Y Y Y)
  ·rw[if_neg g7]at hf
   by_cases g6:w.length=6∧wdT w 4≠trunkT
   ·rw[if_pos g6]at hf
    have hm':manyB (kindL (wdT w 0)) w=true:=by
     rw[hm,if_neg z_,if_neg g6.2]
     split<;>simp[g6.1]
    rw[Zw hf qe (by simp[g6.1]) k,Aay (L:=(A5 w row).1) (E:=(A5 w row).2) (ne g6.1) hm' rfl]
    clear hm hm' hf
    obtain ⟨hl,ht⟩:=g6
    obtain ⟨a,b,c,d,e,f,rfl⟩:=len6 hl
    rw[wd0]at k
    have ht:e≠trunkT:=ht
    rw[wd0,k]
    unfold A5
    simp only[wd0,wdS,k]
    have hp:Cj [a,b,c,d,e,f]=(if e=accessT then ((Bl f).1,[],[(!(Bl f).2,21)]) else (0,[],[])):=by
     unfold Cj
     simp only[wd0,wdS]
     by_cases ha:e=accessT
     ·exact(if_pos ha).trans (if_pos ha).symm
     ·exact(if_neg ha).trans ((if_neg ht).trans (if_neg ha).symm)
    rw[hp]
    refine Iv (Iv (Ii Y (wkC _ _ _) (Aq9 fun ha=>?_)))
    have ha:=ha.resolve_right ht
    rw[if_pos ha]
    exact Ii Y (wkV _ _ _) (Ank Y Y Y)
   ·rw[if_neg g6]at hf
    rw[Te (.inl hf),Aaz]
    rw[hm]
    split
    ·rfl
    ·rename_i hlt
     split
     ·rename_i ha
      have:w.length≠6:=fun h=>g6 ⟨h,by rw[ha];exact Va⟩
      simp[this]
     ·rename_i ha
      split
      ·rename_i ht
       have:w.length≠7:=fun h=>g7 ⟨h,ha⟩
       simp[this]
      ·rename_i ht
       have h6:w.length≠6:=fun h=>g6 ⟨h,ht⟩
       have h7:w.length≠7:=fun h=>g7 ⟨h,ha⟩
       have:¬ w.length≤7:=by omega
       simp[this]
 ·refine Jf (n:=4) (f:=[78,78,78,78]) (by simp[formD,k]) Y y_ z_ (by simp[manyB,k]) fun hl=>?_
  obtain ⟨a,b,c,d,e',rfl⟩:=Aqi hl
  rw[wd0]at k
  rw[wd0,k]
  unfold A5
  simp only[wd0,wdS,k]
  refine Iv ?_
  refine Iv ?_
  refine Iv ?_
  refine Iv ?_
  exact Vo Y
 ·refine Jf (n:=4) (f:=[78,86,77,78]) (by simp[formD,k]) Y y_ z_ (by simp[manyB,k]) fun hl=>?_
  obtain ⟨a,b,c,d,e',rfl⟩:=Aqi hl
  rw[wd0]at k
  rw[wd0,k]
  unfold A5
  simp only[wd0,wdS,k]
  refine Iv ?_
  refine Ii Y (wkV _ _ _) ?_
  refine Ii Y (wkM _ _ _) ?_
  refine Iv ?_
  exact Vo Y
 ·refine Jf (n:=2) (f:=[78,65]) (by simp[formD,k]) Y y_ z_ (by simp[manyB,k]) fun hl=>?_
  obtain ⟨a,b,c,rfl⟩:=len3 hl
  rw[wd0]at k
  rw[wd0,k]
  unfold A5
  simp only[wd0,wdS,k]
  refine Iv ?_
  refine Ii Y (wkA' _ _ _) ?_
  exact Vo Y
 ·refine Jf (n:=3) (f:=[78,86,73]) (by simp[formD,k]) Y y_ z_ (by simp[manyB,k]) fun hl=>?_
  obtain ⟨a,b,c,d,rfl⟩:=len4 hl
  rw[wd0]at k
  rw[wd0,k]
  unfold A5
  simp only[wd0,wdS,k]
  refine Iv ?_
  refine Ii Y (wkV _ _ _) ?_
  refine Ii Y (wkI _ _ _) ?_
  exact Vo Y
 ·refine Jf (n:=3) (f:=[78,73,76]) (by simp[formD,k]) Y y_ z_ (by simp[manyB,k]) fun hl=>?_
  obtain ⟨a,b,c,d,rfl⟩:=len4 hl
  rw[wd0]at k
  rw[wd0,k]
  unfold A5
  simp only[wd0,wdS,k]
  refine Iv ?_
  refine Ii Y (wkI _ _ _) ?_
  refine Ii Y (wkL' _ _ _) ?_
  exact Vo Y
 ·refine Jf (n:=4) (f:=[78,78,82,82]) (by simp[formD,k]) Y y_ z_ (by simp[manyB,k]) fun hl=>?_
  obtain ⟨a,b,c,d,e',rfl⟩:=Aqi hl
  rw[wd0]at k
  rw[wd0,k]
  unfold A5
  simp only[wd0,wdS,k]
  refine Iv ?_
  refine Iv ?_
  refine Ii Y (wkR _ _ _) ?_
  refine Ii Y (wkR _ _ _) ?_
  exact Vo Y
 ·refine Jf (n:=4) (f:=[78,86,78,83]) (by simp[formD,k]) Y y_ z_ (by simp[manyB,k]) fun hl=>?_
  obtain ⟨a,b,c,d,e',rfl⟩:=Aqi hl
  rw[wd0]at k
  rw[wd0,k]
  unfold A5
  simp only[wd0,wdS,k]
  refine Iv ?_
  refine Ii Y (wkV _ _ _) ?_
  refine Iv ?_
  refine Ii Y (wkS _ _ _) ?_
  exact Vo Y
end Go.Sy.YtjenpnjajjplkaaGreatDoor
namespace Go.Sy.YtjenpnjajjplkaaGreatDoor
open Go.Proofs
attribute [local irreducible] Go.Sy.G Go.Sy.DR
set_option maxRecDepth 100000
set_option maxHeartbeats 4000000
theorem Sx (a b:ByteArray):(a++b).data.toList=a.data.toList++b.data.toList:=by
 rw[ByteArray.data_append,Array.toList_append]
theorem Ah1 (l:List ByteArray) (x sep:ByteArray) (h:l≠[]):Jk (l++[x]) sep=Jk l sep++sep++x:=by
 apply It
 rw[Sx,Sx]
 cases l with
 | nil=>exact absurd rfl h
 | cons y r =>
  simp only[Jk,List.cons_append,List.map_cons,List.map_append,List.map_nil,Lib.join_cons,Lib.joinTail,List.flatten_append,List.flatten_cons,List.flatten_nil,List.append_nil,List.append_assoc]
theorem wrap_u8 (x:UInt8):IntKind.i64.wrap (x.toNat:Int)=(x.toNat:Int):=by
 have:=x.toNat_lt
 rw[IntKind.wrap_i64];omega
structure LineF (l:LineM):Prop where
 fin:LineFin l
 ok:LineOK l
 dev:l.dev.size≤100000
 port:l.port.size≤100000
 peer:l.peer.size≤100000
 far:l.far.size≤100000
 name:l.name.size≤100000
theorem Uj {a b:ByteArray} (h:a=b):(!(a == b))=false:=by rw[(Eh a b).2 h];rfl
theorem Ui {a b:ByteArray} (h:a≠b):(!(a == b))=true:=by
 cases hb:(a == b)
 ·rfl
 ·exact absurd ((Eh a b).1 hb) h
theorem Zx (s:ByteArray):Sy.Spec Tryz.prog 377 [Ad s] [] (Aa (digitsD s)) []:=cT F377 Tryz.ntmps377 fun F hF=>by
 have hres:=digitsD.eq_1 s
 generalize digitsD s=res at *
 by_cases h0:s.size=0
 ·have f0:((s.size:Int) == 0)=true:=by rw[beq_iff_eq];omega
  rw[if_pos (.inl h0)]at hres
  subst hres
  refine T ?_
  exact D
 have f0:((s.size:Int) == 0)=false:=by rw[beq_eq_false_iff_ne];omega
 by_cases h3:3<s.size
 ·have f1:decide ((s.size:Int)>3)=true:=decide_eq_true z_
  rw[if_pos (.inr (.inl h3))]at hres
  subst hres
  refine T ?_
  exact D
 have f1:decide ((s.size:Int)>3)=false:=decide_eq_false z_
 refine T ?_
 refine A2 s.size (fun j=>∀ i,i<j→Dd (Ai s i)=true) (fun j=>[(0,Ad s),(3,Aa (Hb s j)),(4,Aa j)]) (fun _=>[]) [] qe U ?_
 intro j hj hI
 have hv:0≤Hb s j∧Hb s j<1000:=by
  have h1:=S2 hI
  have h2:j=0∨j=1∨j=2∨j=3:=by omega
  rcases h2 with rfl | rfl | rfl | rfl<;>omega
 have hsu:Hb s (j+1)=10 * Hb s j+((Ai s j).toNat-48):=rfl
 refine T ?_
 refine⟨fun h=>?_,fun h=>?_⟩
 ·have hlt:j<s.size:=qA h
  clear h
  have ej:Ai s ((j:Nat):Int).toNat=Ai s j:=rfl
  have hc:=(Ai s j).toNat_lt
  by_cases k1:(Ai s j).toNat<48
  ·have g1:decide (((Ai s ((j:Nat):Int).toNat).toNat:Int)<48)=true:=decide_eq_true (by rw[ej];omega)
   rw[if_pos (.inr (.inr (Lh hlt (by rw[Dd,decide_eq_false z_];rfl))))]at hres
   subst hres
   refine T ?_
   exact D
  have g1:decide (((Ai s ((j:Nat):Int).toNat).toNat:Int)<48)=false:=decide_eq_false (by rw[ej];omega)
  by_cases k2:57<(Ai s j).toNat
  ·have g2:decide (((Ai s ((j:Nat):Int).toNat).toNat:Int)>57)=true:=decide_eq_true (by rw[ej];omega)
   rw[if_pos (.inr (.inr (Lh hlt (by rw[Dd,decide_eq_false (by omega:¬ (Ai s j).toNat≤57),Bool.and_false]))))]at hres
   subst hres
   refine T ?_
   exact D
  have g2:decide (((Ai s ((j:Nat):Int).toNat).toNat:Int)>57)=false:=decide_eq_false (by rw[ej];omega)
  have w1:IntKind.i64.wrap ((Ai s ((j:Nat):Int).toNat).toNat:Int)=((Ai s j).toNat:Int):=wrap_u8 _
  generalize Hb s j=v at *
  refine T ?_
  exact Ba [] hI z_ (fun i hi=>by
   by_cases e:i=j
   ·subst e;rw[Dd,decide_eq_true z_,decide_eq_true z_];rfl
   ·exact hI i z_) ⟨⟨Y,Y,congrArg Aa z_,Y,Y,Y,q_⟩,q_,Y,Y⟩
 ·have hje:j=s.size:=qB h
  subst hje
  clear h
  have hdg:=Qf hI
  obtain ⟨n,hn,hnl⟩:=S1 hdg
  rw[if_neg (by simp[h0,hdg];omega),hn]at hres
  rw[hn]at hv ⊢
  have q:=I4 n z_
  by_cases hx:Aw (n:Int)=s
  ·have g:=Uj hx
   rw[if_pos hx]at hres
   subst hres
   refine T ?_
   refine C q F427 ?_
   exact D
  ·have g:=Ui hx
   rw[if_neg hx]at hres
   subst hres
   refine T ?_
   refine C q F427 ?_
   exact D
def AddrI (s:ByteArray) (x:Nat × List ByteArray × List UInt8):Prop :=
 x.1≤s.size+1∧x.2.1.length≤4∧(∀ p∈x.2.1,Le p=true)∧x.2.2.length≤3 ∧
 (x.1≤s.size→Bd 46 s=x.2.1++By 46 x.2.2 (s.data.toList.drop x.1))∧(s.size<x.1→Bd 46 s=x.2.1)
theorem Aa7 (s:ByteArray) (hs:s.size≤1000000):Sy.Spec Tryz.prog 315 [Ad s] [] (.tup [A3 (Bo s).1,Ab (Bo s).2]) []:=cT F315 Tryz.ntmps315 fun F hF=>by
 have hno:((Bd 46 s).length≠4∨∃ x∈Bd 46 s,Le x=false)→Bo s=(0,false):=Amx
 have hyes:(Bd 46 s).length=4→(∀ x∈Bd 46 s,Le x=true)→Bo s=(H9 (Bd 46 s),true):=Akf
 generalize Bo s=res at *
 refine T ?_
 refine Au (AddrI s) (fun x=>[(0,Ad s),(4,Aa (H9 x.2.1)),(5,Aa x.2.1.length),(6,Ad (mkT x.2.2)),(7,Aa x.1)]) (fun _=>[]) (fun x=>2000000-x.1) (0,[],[]) [] ⟨by simp,by simp,by simp,by simp,fun _=>by rw[I2];rfl,fun h=>by dsimp only at h;omega⟩ U ?_
 rintro ⟨i,P,cur⟩ ⟨h1,h2,h3,h4,h5,h6⟩
 dsimp only at h1 h2 h3 h4 h5 h6 ⊢
 have hA:=Jr P.length P rfl h3
 have hA4:(256:Int) ^ P.length≤4294967296:=by
  have h:P.length=0∨P.length=1∨P.length=2∨P.length=3∨P.length=4:=by omega
  rcases h with h | h | h | h | h<;>rw[h]<;>decide
 have hAd:0≤H9 P∧H9 P<4294967296:=⟨hA.1,by omega⟩
 clear hA hA4
 refine T ?_
 refine⟨fun h=>?_,fun h=>?_⟩
 ·have hle:i≤s.size:=qA h
  have hI:=h5 hle
  clear h h5 h6
  have hz1:(mkT cur).size=cur.length:=Bp cur
  have qd:=Zx (mkT cur)
  have hdr:=La (mkT cur)
  have hoc:=Xp (mkT cur)
  by_cases a1:i<s.size
  ·have f1:decide ((i:Int)<(s.size:Int))=true:=decide_eq_true z_
   have hlt:i<s.data.toList.length:=a1
   have hb:Ai s i=s.data.toList[i]:=Hx hlt
   have ej:Ai s ((i:Nat):Int).toNat=Ai s i:=rfl
   rw[List.drop_eq_getElem_cons hlt,By,← hb]at hI
   by_cases k1:Ai s i=46
   ·have g1:(((Ai s ((i:Nat):Int).toNat).toNat:Int) != 46)=false:=by rw[ej,k1];rfl
    rw[if_pos k1]at hI
    by_cases k2:255<digitsD (mkT cur)
    ·have g2:decide (digitsD (mkT cur)>255)=true:=decide_eq_true k2
     have e:=hno (.inr ⟨mkT cur,by rw[hI];simp,by rw[hoc];exact decide_eq_false z_⟩)
     subst e
     refine T ?_
     refine C qd F377 ?_
     exact D
    have g2:decide (digitsD (mkT cur)>255)=false:=decide_eq_false k2
    have hoc1:=hoc.trans (decide_eq_true z_)
    by_cases k3:3<P.length
    ·have g3:decide ((P.length:Int)>3)=true:=decide_eq_true z_
     have e:=hno (.inl (by
      rw[hI,List.length_append,List.length_cons]
      obtain ⟨p,t,ht⟩:=Q9 46 (s.data.toList.drop (i+1)) []
      rw[ht,List.length_cons];omega))
     subst e
     refine T ?_
     refine C qd F377 ?_
     exact D
    have g3:decide ((P.length:Int)>3)=false:=decide_eq_false z_
    have hsn:=Mi P (mkT cur)
    have hln:(P++[mkT cur]).length=P.length+1:=by simp
    have hP3:H9 P<16777216:=by
     have h:=Jr P.length P rfl h3
     have h':P.length=0∨P.length=1∨P.length=2∨P.length=3:=by omega
     rcases h' with h' | h' | h' | h'<;>rw[h']at h<;>omega
    have hx:Bd 46 s=(P++[mkT cur])++By 46 [] (s.data.toList.drop (i+1)):=by rw[hI];simp
    clear hno hyes hI
    generalize H9 P=v at *
    generalize digitsD (mkT cur)=d at *
    refine T ?_
    refine C qd F377 ?_
    refine C qd F377 ?_
    refine Ae (i+1,P++[mkT cur],([]:List UInt8)) [] ⟨by dsimp only;omega,by dsimp only;omega,fun p hp=>?_,by simp,fun _=>hx,fun h=>by dsimp only at h;omega⟩ (by dsimp only;omega) ⟨⟨Y,Y,congrArg Aa hsn,Y,congrArg Aa (by rw[hln];rfl),Y,Y,Y,Y,Y,q_⟩,q_,Y,Y⟩
    rcases List.mem_append.1 hp with hp | hp
    ·exact h3 p hp
    ·rw[List.mem_singleton.1 hp];exact hoc1
   ·have g1:(((Ai s ((i:Nat):Int).toNat).toNat:Int) != 46)=true:=by
     rw[ej,bne_iff_ne]
     intro e
     exact k1 (UInt8.toNat_inj.1 (by show _=46;omega))
    rw[if_neg k1]at hI
    have hx:mkT (cur++[Ai s i])=mkT cur++s.extract ((i:Nat):Int).toNat (((i:Nat):Int)+1).toNat:=by
     apply It
     rw[Sx,Bv,Bv,← Cv s,Cr,Bv]
     have e1:(((i:Nat):Int)+1).toNat=i+1:=by omega
     simp only[e1,Int.toNat_natCast,Cv]
     rw[List.take_succ_eq_append_getElem hlt,List.drop_append_of_le_length (by rw[List.length_take];omega),List.drop_eq_nil_of_le (by rw[List.length_take];omega),← hb]
     rfl
    have hz2:(s.extract ((i:Nat):Int).toNat (((i:Nat):Int)+1).toNat).size=1:=by rw[ByteArray.size_extract];omega
    have hz3:(mkT cur++s.extract ((i:Nat):Int).toNat (((i:Nat):Int)+1).toNat).size=cur.length+1:=by rw[← hx,Bp];simp
    have g4:(mkT cur).size+(s.extract ((i:Nat):Int).toNat (((i:Nat):Int)+1).toNat).size≤9223372036854775807:=by omega
    clear qd hdr hoc
    by_cases k2:3<cur.length+1
    ·have g2:decide (((mkT cur++s.extract ((i:Nat):Int).toNat (((i:Nat):Int)+1).toNat).size:Int)>3)=true:=decide_eq_true z_
     obtain ⟨p,t,ht⟩:=Q9 46 (s.data.toList.drop (i+1)) (cur++[Ai s i])
     have e:=hno (.inr ⟨mkT ((cur++[Ai s i])++p),by rw[hI,ht];simp,An2 (by simp;omega)⟩)
     subst e
     refine T ?_
     refine⟨⟨by omega,by omega,by omega⟩,?_⟩
     refine T ?_
     exact D
    have g2:decide (((mkT cur++s.extract ((i:Nat):Int).toNat (((i:Nat):Int)+1).toNat).size:Int)>3)=false:=decide_eq_false z_
    clear hno hyes
    refine T ?_
    refine⟨⟨by omega,by omega,by omega⟩,?_⟩
    refine T ?_
    exact Ae (i+1,P,cur++[Ai s i]) [] ⟨by dsimp only;omega,h2,h3,by simp;omega,fun _=>hI,fun h=>by dsimp only at h;omega⟩ (by dsimp only;omega) ⟨⟨Y,Y,Y,Y,Y,Y,congrArg Ad hx,Y,Y,Y,q_⟩,q_,Y,Y⟩
  ·have f1:decide ((i:Int)<(s.size:Int))=false:=decide_eq_false z_
   have hie:i=s.size:=by omega
   have hdp:s.data.toList.drop i=[]:=List.drop_eq_nil_of_le (by show s.size≤i;omega)
   rw[hdp,By]at hI
   by_cases k2:255<digitsD (mkT cur)
   ·have g2:decide (digitsD (mkT cur)>255)=true:=decide_eq_true k2
    have e:=hno (.inr ⟨mkT cur,by rw[hI];simp,by rw[hoc];exact decide_eq_false z_⟩)
    subst e
    refine T ?_
    refine C qd F377 ?_
    exact D
   have g2:decide (digitsD (mkT cur)>255)=false:=decide_eq_false k2
   have hoc1:=hoc.trans (decide_eq_true z_)
   by_cases k3:3<P.length
   ·have g3:decide ((P.length:Int)>3)=true:=decide_eq_true z_
    have e:=hno (.inl (by rw[hI,List.length_append,List.length_singleton];omega))
    subst e
    refine T ?_
    refine C qd F377 ?_
    exact D
   have g3:decide ((P.length:Int)>3)=false:=decide_eq_false z_
   have hsn:=Mi P (mkT cur)
   have hln:(P++[mkT cur]).length=P.length+1:=by simp
   have hP3:H9 P<16777216:=by
    have h:=Jr P.length P rfl h3
    have h':P.length=0∨P.length=1∨P.length=2∨P.length=3:=by omega
    rcases h' with h' | h' | h' | h'<;>rw[h']at h<;>omega
   clear hno hyes
   generalize H9 P=v at *
   generalize digitsD (mkT cur)=d at *
   refine T ?_
   refine C qd F377 ?_
   refine C qd F377 ?_
   refine Ae (i+1,P++[mkT cur],([]:List UInt8)) [] ⟨by dsimp only;omega,by dsimp only;omega,fun p hp=>?_,by simp,fun h=>by dsimp only at h;omega,fun _=>hI⟩ (by dsimp only;omega) ⟨⟨Y,Y,congrArg Aa hsn,Y,congrArg Aa (by rw[hln];rfl),Y,Y,Y,Y,Y,q_⟩,q_,Y,Y⟩
   rcases List.mem_append.1 hp with hp | hp
   ·exact h3 p hp
   ·rw[List.mem_singleton.1 hp];exact hoc1
 ·have hgt:s.size<i:=qB h
  have hI:=h6 hgt
  clear h h5 h6
  rw[hI]at hno hyes
  by_cases k:P.length=4
  ·have g:((P.length:Int) != 4)=false:=by rw[bne_eq_false_iff_eq];omega
   have e:=hyes k h3
   have w:IntKind.u32.wrap (H9 P)=H9 P:=by rw[IntKind.wrap_u32];omega
   rw[← w]at e
   subst e
   refine T ?_
   exact D
  ·have g:((P.length:Int) != 4)=true:=by rw[bne_iff_ne];omega
   have e:=hno (.inl k)
   subst e
   refine T ?_
   exact D
end Go.Sy.YtjenpnjajjplkaaGreatDoor
