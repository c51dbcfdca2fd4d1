/- Parts of a proof. -/
import Derived.Test.YticmobkdaneelaaGreatDoorYE42
set_option linter.all false
set_option linter.unusedVariables false
set_option linter.unusedSimpArgs false
set_option linter.deprecated false
namespace Go.Sy.YticmobkdaneelaaGreatDoor
open Go.Proofs Go.Proofs.Tryz
attribute [local irreducible] Go.Sy.G Go.Sy.DR
set_option maxRecDepth 100000
set_option maxHeartbeats 4000000
def An1(up:List Bool)(dn lk:Int)(fw:List Bool):List SV:=[.sl 1 Ab up,.val (.int .u32 dn),.val (.int .i32 lk),.val (.int .u32 0),.sl 1 Ab fw]
def Wn(n:Net)(up:List Bool)(dn lk:Int)(fw:List Bool):Obs:=[(1,.box (An1 up dn lk fw)),(2,.box [.ptr 1 0]),(3,.box (C6 n))]
def Axs(n:Net)(hn:n.Fin)(up fw:List Bool)(dn lk:Int):Sq 227 [.ptr 3 0,.ptr 2 0] (Wn n up dn lk fw) (.tup []) (Wn n up dn lk (Qf n up)):=cT F227 ntmps227 λF hF=>by
 have hf:∃e,Sp 29 [Am n,.sl 1 Ab up] (.tup [.sl 1 Ab (Qf n up),Aa e]):=by
  unfold Qf;split
  ·rename_i h;exact⟨0,Ajh n up hn h⟩
  ·rename_i h;exact⟨2,Af6 n up hn (by simpa using h)⟩
 obtain ⟨e,hf⟩:=hf;generalize Qf n up=r at *
 conv=>whnf
 refine cD hf F29 ?_;refine gH ?_;exact A6 E .nil [] (Wn n up dn lk r) (λ_ h=>h) E E kU
def A2n(a:Addr)(x:Int)(w:World)(hc:w.cell? a=some (.int .u32 x)):(callFunc 178 #[.pointer (some a)]).run prog w=.ok (.value (.int .u32 x)) w :=
 run_call_load func178 z_ z_ z_ .u32 z_ hc
def Air(n:Net)(up fw:List Bool)(dn lk:Int):Sq 132 [.ptr 1 1] (Wn n up dn lk fw) (Ab (dn != 0)) (Wn n up dn lk fw):=cT F132 ntmps132 λF hF=>by
 conv=>whnf
 refine Af (Xc A2n E E E E) E E ?_;refine oO ?_;exact done E (.cons .tmp .nil) [] (Wn n up dn lk fw) (λ_ h=>h) E E kU
def Y7(w:World):(callFunc 316 #[]).run prog w=.ok (.value (.tuple #[])) w:=run_call_mark0 func316 z_ z_ z_ .disable z_ w
def Aca(w:World):(callFunc 318 #[]).run prog w=.ok (.value (.tuple #[])) w:=run_call_mark0 func318 z_ z_ z_ .enable z_ w
def Akw(a:Addr)(w:World):(callFunc 319 #[.pointer (some a)]).run prog w=.ok (.value (.tuple #[])) w:=run_call_marked func319 z_ z_ z_ .acquire z_ a w
def Akv(a:Addr)(w:World):(callFunc 321 #[.pointer (some a)]).run prog w=.ok (.value (.tuple #[])) w:=run_call_marked func321 z_ z_ z_ .releaseMerge z_ a w
def Aeg(a:Addr)(x:Value)(u:FrameMode)(w:World)(hc:w.cell? a=some x)(hz:w.frozen? a=false):CallsD prog 181 #[.pointer (some a),.bool true] u w λe u' w'=>u'=u∧(e=.returned (.tuple #[])∧w'=w.drew.setCell a (.int .u32 1)):=by
 have fc:w.drew.cell? a=some x:=by go_simp
 have hz':w.drew.frozen? a=false:=by go_simp
 have cn:=run_call_store (P:=prog) func253 z_ z_ z_ z_ (k:=.u32) (y:=1) fc hz'
 go_enter_d func181,ntmps181
 go_wp2
 go_region_calls
 all_goals (go_end0;exact⟨rfl,rfl⟩)
def Ade(a:Addr)(u:FrameMode)(w:World)(hc:w.cell? a=some (.int .i32 1))(hz:w.frozen? a=false):CallsD prog 180 #[.pointer (some a)] u w λe u' w'=>u'=u∧(e=.returned (.tuple #[])∧w'=w.setCell a (.int .i32 0)):=by
 have hd:=Y7;have he:=Aca;have hr:=Akv;have mj:=run_call_add (P:=prog) func322 z_ z_ z_ .i32 z_ (y:=-1) (s:=0) hc hz (by simp[go_sem];rfl);have ng:=run_convert_to_unsafe (P:=prog) (src:=449) (dst:=453) Tryz.underlying449 Tryz.underlying453 z_ hc
 go_enter_d func180,ntmps180
 go_wp2
 go_end0
 go_wp2
 go_end0
 exact⟨E,E⟩
def Ayc(a:Addr)(w:World)(hc:w.cell? a=some (.int .i32 0))(hz:w.frozen? a=false):Calls prog 179 #[.pointer (some a)] w λe w'=>e=.returned (.tuple #[])∧w'=w.setCell a (.int .i32 1):=by
 have hd:=Y7;have he:=Aca;have ha:=Akw;have hcas:=run_call_cas_hit (P:=prog) func317 z_ z_ z_ .i32 z_ (y:=1) hc hz;have fc:(w.setCell a (.int .i32 1)).cell? a=some (.int .i32 1):=World.cell?_setCell_same w a _ hc;have ng:=run_convert_to_unsafe (P:=prog) (src:=449) (dst:=453) Tryz.underlying449 Tryz.underlying453 z_ fc
 go_enter func179,ntmps179
 go_wp2
 first|go_end0|(simp only[Exit.inBlock,Exit.then];refine bodyPost_ret (results_none rfl _ _ _) rfl ?_)|refine bodyPost_ret (results_none rfl _ _ _) rfl ?_
 go_wp2
 go_end0
 exact⟨E,E⟩
end Go.Sy.YticmobkdaneelaaGreatDoor
