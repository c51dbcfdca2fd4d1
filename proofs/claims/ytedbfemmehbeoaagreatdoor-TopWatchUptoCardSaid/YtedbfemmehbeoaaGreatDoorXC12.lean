/- Parts of a proof. -/
import Derived.Test.YtedbfemmehbeoaaGreatDoorXC11
set_option maxHeartbeats 4000000
set_option linter.all false
namespace Go.Sy.Zaa
open Go.Proofs Go.Proofs.Tryz
attribute [local irreducible]G DR
set_option maxRecDepth 100000
def At7(up:List Bool)(g i:Int)(fw:List Bool):List SV:=[.sl 1 Ab up,.val (.int .u32 g),.val (.int .i32 i),.val (.int .u32 0),.sl 1 Ab fw]
def lI(n:Ai)(up:List Bool)(g i:Int)(fw:List Bool):It:=[(1,.box (At7 up g i fw)),(2,.box [.ptr 1 0]),(3,.box (Eo n))]
def A56(n:Ai)(l:n.Fin)(up fw:List Bool)(g i:Int):Sq 246 [.ptr 3 0,.ptr 2 0] (lI n up g i fw) (.tup []) (lI n up g i (X9 n up)):=cT F246 ntmps246 λF o=>by
 have j:∃e,Sp 78 [Aq n,.sl 1 Ab up] (.tup [.sl 1 Ab (X9 n up),Aa e]):=by
  unfold X9;split
  .rename_i h;exact⟨0,Aob n up l h⟩
  .rename_i h;exact⟨2,Aj7 n up l (kS h)⟩
 obtain ⟨e,j⟩:=j;generalize X9 n up=r at *
 conv=>whnf
 refine cD j F78 (gO ?_);exact Bf q_ .nil [] (lI n up g i r) (λ_ h=>h) q_ q_ kU
def Bbp(a:Addr)(x:Int)(w:World)(g:w.cell? a=some (.int .u32 x)):(callFunc 277 #[.pointer (some a)]).run prog w=.ok (.value (.int .u32 x)) w :=
 run_call_load func277 y_ y_ y_ .u32 y_ g
def Anh(n:Ai)(up fw:List Bool)(g i:Int):Sq 222 [.ptr 1 1] (lI n up g i fw) (Ab (g != 0)) (lI n up g i fw):=cT F222 ntmps222 λF j=>by
 conv=>whnf
 refine Al (nK Bbp q_ q_ q_ q_) q_ q_ (oO ?_);exact done q_ As [] (lI n up g i fw) (λ_ h=>h) q_ q_ kU
def Ab1(w:World):(callFunc 397 #[]).run prog w=.ok (.value (.tuple #[])) w:=run_call_mark0 func397 y_ y_ y_ .disable y_ w
def Afs(w:World):(callFunc 399 #[]).run prog w=.ok (.value (.tuple #[])) w:=run_call_mark0 func399 y_ y_ y_ .enable y_ w
def Ap7(a:Addr)(w:World):(callFunc 400 #[.pointer (some a)]).run prog w=.ok (.value (.tuple #[])) w:=run_call_marked func400 y_ y_ y_ .acquire y_ a w
def Ap6(a:Addr)(w:World):(callFunc 402 #[.pointer (some a)]).run prog w=.ok (.value (.tuple #[])) w:=run_call_marked func402 y_ y_ y_ .releaseMerge y_ a w
def Ah2(a:Addr)(x:Value)(u:FrameMode)(w:World)(o:w.cell? a=some x)(p:w.frozen? a=false):CallsD g 280 #[.pointer (some a),.bool true] u w λe j w'=>j=u/\(e=.returned (.tuple #[])/\w'=w.drew.setCell a (.int .u32 1)):=by
 have l:w.drew.cell? a=some x:=by go_simp
 have i:w.drew.frozen? a=false:=by go_simp
 have r:=run_call_store (P:=g) func342 y_ y_ y_ y_ (k:=.u32) (y:=1) l i
 go_enter_d func280,ntmps280
 go_wp2
 go_region_calls
 all_goals (go_end0;exact⟨rfl,rfl⟩)
def Ag0(a:Addr)(u:FrameMode)(w:World)(i:w.cell? a=some (.int .i32 1))(j:w.frozen? a=false):CallsD g 279 #[.pointer (some a)] u w λe l w'=>l=u/\(e=.returned (.tuple #[])/\w'=w.setCell a (.int .i32 0)):=by
 have o:=Ab1;have p:=Afs;have r:=Ap6;have t:=run_call_add (P:=g) func403 y_ y_ y_ .i32 y_ (y:=-1) (s:=0) i j (by simp[go_sem];rfl);have I:=run_convert_to_unsafe (P:=g) (src:=524) (dst:=468) Tryz.underlying524 Tryz.underlying468 y_ i
 go_enter_d func279,ntmps279
 go_wp2
 go_end0
 go_wp2
 go_end0
 exact⟨q_,q_⟩
def A6x(a:Addr)(w:World)(i:w.cell? a=some (.int .i32 0))(l:w.frozen? a=false):Calls g 278 #[.pointer (some a)] w λe w'=>e=.returned (.tuple #[])/\w'=w.setCell a (.int .i32 1):=by
 have p:=Ab1;have r:=Afs;have t:=Ap7;have j:=run_call_cas_hit (P:=g) func398 y_ y_ y_ .i32 y_ (y:=1) i l;have o:(w.setCell a (.int .i32 1)).cell? a=some (.int .i32 1):=World.cell?_setCell_same w a _ i;have I:=run_convert_to_unsafe (P:=g) (src:=524) (dst:=468) Tryz.underlying524 Tryz.underlying468 y_ o
 go_enter func278,ntmps278
 go_wp2
 first|go_end0|(simp only[Exit.inBlock,Exit.then];refine bodyPost_ret (results_none rfl _ _ _) rfl ?_)|refine bodyPost_ret (results_none rfl _ _ _) rfl ?_
 go_wp2
 go_end0
 exact⟨q_,q_⟩
end Go.Sy.Zaa
