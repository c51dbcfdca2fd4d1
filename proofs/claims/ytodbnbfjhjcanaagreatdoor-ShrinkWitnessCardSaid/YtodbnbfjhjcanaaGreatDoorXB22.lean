/- Parts of a proof. -/
import Derived.Test.YtodbnbfjhjcanaaGreatDoorXB21
set_option maxHeartbeats 4000000
set_option linter.all false
namespace Go.Sy.Zaa
open Go.Proofs Go.Proofs.Tryz
attribute [local irreducible]G DR
set_option maxRecDepth 100000
def Alj(up:List Bool)(dn lk:Int)(fw:List Bool):List SV:=[.sl 1 Ab up,.val (.int .u32 dn),.val (.int .i32 lk),.val (.int .u32 0),.sl 1 Ab fw]
def Yn(n:Net)(up:List Bool)(dn lk:Int)(fw:List Bool):Obs:=[(1,.box (Alj up dn lk fw)),(2,.box [.ptr 1 0]),(3,.box (Dc n))]
def Awe(n:Net)(hn:n.Fin)(up fw:List Bool)(dn lk:Int):Sq 191 [.ptr 3 0,.ptr 2 0] (Yn n up dn lk fw) (.tup []) (Yn n up dn lk (Kv n up)):=cT F191 ntmps191 λF hF=>by
 have hf:∃e,Sp 101 [Am n,.sl 1 Ab up] (.tup [.sl 1 Ab (Kv n up),Aa e]):=by
  unfold Kv;split
  .rename_i h;exact⟨0,Agu n up hn h⟩
  .rename_i h;exact⟨2,Ac6 n up hn (kS h)⟩
 obtain ⟨e,hf⟩:=hf;generalize Kv n up=r at *
 conv=>whnf
 refine cD hf F101 (gL ?_);exact A6 E .nil [] (Yn n up dn lk r) (λ_ h=>h) E E kU
def A1k(a:Addr)(x:Int)(w:World)(hc:w.cell? a=some (.int .u32 x)):(callFunc 270 #[.pointer (some a)]).run prog w=.ok (.value (.int .u32 x)) w :=
 run_call_load func270 z_ z_ z_ .u32 z_ hc
def Af1(n:Net)(up fw:List Bool)(dn lk:Int):Sq 216 [.ptr 1 1] (Yn n up dn lk fw) (Ab (dn != 0)) (Yn n up dn lk fw):=cT F216 ntmps216 λF hF=>by
 conv=>whnf
 refine Aj (Za A1k E E E E) E E (oO ?_);exact done E Aq [] (Yn n up dn lk fw) (λ_ h=>h) E E kU
def bR(w:World):(callFunc 380 #[]).run prog w=.ok (.value (.tuple #[])) w:=run_call_mark0 func380 z_ z_ z_ .disable z_ w
def lY(w:World):(callFunc 382 #[]).run prog w=.ok (.value (.tuple #[])) w:=run_call_mark0 func382 z_ z_ z_ .enable z_ w
def Aic(a:Addr)(w:World):(callFunc 383 #[.pointer (some a)]).run prog w=.ok (.value (.tuple #[])) w:=run_call_marked func383 z_ z_ z_ .acquire z_ a w
def Aib(a:Addr)(w:World):(callFunc 385 #[.pointer (some a)]).run prog w=.ok (.value (.tuple #[])) w:=run_call_marked func385 z_ z_ z_ .releaseMerge z_ a w
def Aa1(a:Addr)(x:Value)(u:FrameMode)(w:World)(hc:w.cell? a=some x)(hz:w.frozen? a=false):CallsD prog 273 #[.pointer (some a),.bool true] u w λe u' w'=>u'=u/\(e=.returned (.tuple #[])/\w'=w.drew.setCell a (.int .u32 1)):=by
 have im:w.drew.cell? a=some x:=by go_simp
 have hz':w.drew.frozen? a=false:=by go_simp
 have br:=run_call_store (P:=prog) func343 z_ z_ z_ z_ (k:=.u32) (y:=1) im hz'
 go_enter_d func273,ntmps273
 go_wp2
 go_region_calls
 all_goals (go_end0;exact⟨rfl,rfl⟩)
def oN(a:Addr)(u:FrameMode)(w:World)(hc:w.cell? a=some (.int .i32 1))(hz:w.frozen? a=false):CallsD prog 272 #[.pointer (some a)] u w λe u' w'=>u'=u/\(e=.returned (.tuple #[])/\w'=w.setCell a (.int .i32 0)):=by
 have hd:=bR;have he:=lY;have hr:=Aib;have ot:=run_call_add (P:=prog) func386 z_ z_ z_ .i32 z_ (y:=-1) (s:=0) hc hz (by simp[go_sem];rfl);have oz:=run_convert_to_unsafe (P:=prog) (src:=511) (dst:=515) Tryz.underlying511 Tryz.underlying515 z_ hc
 go_enter_d func272,ntmps272
 go_wp2
 go_end0
 go_wp2
 go_end0
 exact⟨E,E⟩
def Awx(a:Addr)(w:World)(hc:w.cell? a=some (.int .i32 0))(hz:w.frozen? a=false):Calls prog 271 #[.pointer (some a)] w λe w'=>e=.returned (.tuple #[])/\w'=w.setCell a (.int .i32 1):=by
 have hd:=bR;have he:=lY;have ha:=Aic;have hcas:=run_call_cas_hit (P:=prog) func381 z_ z_ z_ .i32 z_ (y:=1) hc hz;have im:(w.setCell a (.int .i32 1)).cell? a=some (.int .i32 1):=World.cell?_setCell_same w a _ hc;have oz:=run_convert_to_unsafe (P:=prog) (src:=511) (dst:=515) Tryz.underlying511 Tryz.underlying515 z_ im
 go_enter func271,ntmps271
 go_wp2
 first|go_end0|(simp only[Exit.inBlock,Exit.then];refine bodyPost_ret (results_none rfl _ _ _) rfl ?_)|refine bodyPost_ret (results_none rfl _ _ _) rfl ?_
 go_wp2
 go_end0
 exact⟨E,E⟩
end Go.Sy.Zaa
