/- Parts of a proof. -/
import Derived.Test.YtodbnbfjhjcanaaGreatDoorXB34
set_option maxHeartbeats 4000000
set_option linter.all false
namespace Go.Sy.Zaa
open Go.Proofs Go.Proofs.Tryz
attribute [local irreducible]G DR
set_option maxRecDepth 100000
def Atp(a:Addr)(x:Int)(w:World)(hc:w.cell? a=some (.int .u32 x)):(callFunc 270 #[.pointer (some a)]).run prog w=.ok (.value (.int .u32 x)) w :=
 run_call_load func270 z_ z_ z_ .u32 z_ hc
def Yx(w:World):(callFunc 380 #[]).run prog w=.ok (.value (.tuple #[])) w:=run_call_mark0 func380 z_ z_ z_ .disable z_ w
def bQ(w:World):(callFunc 382 #[]).run prog w=.ok (.value (.tuple #[])) w:=run_call_mark0 func382 z_ z_ z_ .enable z_ w
def Ael(a:Addr)(w:World):(callFunc 383 #[.pointer (some a)]).run prog w=.ok (.value (.tuple #[])) w:=run_call_marked func383 z_ z_ z_ .acquire z_ a w
def Aek(a:Addr)(w:World):(callFunc 385 #[.pointer (some a)]).run prog w=.ok (.value (.tuple #[])) w:=run_call_marked func385 z_ z_ z_ .releaseMerge z_ a w
def oQ(a:Addr)(x:Value)(u:FrameMode)(w:World)(hc:w.cell? a=some x)(hz:w.frozen? a=false):CallsD prog 273 #[.pointer (some a),.bool true] u w λe u' w'=>u'=u/\(e=.returned (.tuple #[])/\w'=w.drew.setCell a (.int .u32 1)):=by
 have im:w.drew.cell? a=some x:=by go_simp
 have hz':w.drew.frozen? a=false:=by go_simp
 have br:=run_call_store (P:=prog) func343 z_ z_ z_ z_ (k:=.u32) (y:=1) im hz'
 go_enter_d func273,ntmps273
 go_wp2
 go_region_calls
 all_goals (go_end0;exact⟨rfl,rfl⟩)
def eJ(a:Addr)(u:FrameMode)(w:World)(hc:w.cell? a=some (.int .i32 1))(hz:w.frozen? a=false):CallsD prog 272 #[.pointer (some a)] u w λe u' w'=>u'=u/\(e=.returned (.tuple #[])/\w'=w.setCell a (.int .i32 0)):=by
 have hd:=Yx;have he:=bQ;have hr:=Aek;have ot:=run_call_add (P:=prog) func386 z_ z_ z_ .i32 z_ (y:=-1) (s:=0) hc hz (by simp[go_sem];rfl);have oz:=run_convert_to_unsafe (P:=prog) (src:=511) (dst:=515) Tryz.underlying511 Tryz.underlying515 z_ hc
 go_enter_d func272,ntmps272
 go_wp2
 go_end0
 go_wp2
 go_end0
 exact⟨E,E⟩
def Aq0(a:Addr)(w:World)(hc:w.cell? a=some (.int .i32 0))(hz:w.frozen? a=false):Calls prog 271 #[.pointer (some a)] w λe w'=>e=.returned (.tuple #[])/\w'=w.setCell a (.int .i32 1):=by
 have hd:=Yx;have he:=bQ;have ha:=Ael;have hcas:=run_call_cas_hit (P:=prog) func381 z_ z_ z_ .i32 z_ (y:=1) hc hz;have im:(w.setCell a (.int .i32 1)).cell? a=some (.int .i32 1):=World.cell?_setCell_same w a _ hc;have oz:=run_convert_to_unsafe (P:=prog) (src:=511) (dst:=515) Tryz.underlying511 Tryz.underlying515 z_ im
 go_enter func271,ntmps271
 go_wp2
 first|go_end0|(simp only[Exit.inBlock,Exit.then];refine bodyPost_ret (results_none rfl _ _ _) rfl ?_)|refine bodyPost_ret (results_none rfl _ _ _) rfl ?_
 go_wp2
 go_end0
 exact⟨E,E⟩
theorem Ctx.behindN{K:Nat->Prop}{a a2:Ka}{w w1 w2:World}(s:Step K a w a w1)(c:Ctx ⟨w1,a,[]⟩ a2 w2):Ctx ⟨w,a,[]⟩ a2 w2 where
 size:=wT s.size c.size
 os:=c.os.trans s.os
 tape:=c.tape.trans s.tape
 output:=c.output.trans s.output
 M:=c.M
 old:=λb hb h=>by
  refine(c.old b (xA hb s.size) h).trans ?_;by_cases hm:a.M b
  .exact s.mkeep b hm
  .exact s.blk b hb (λ ho=>by
    rcases ho with ⟨k,hk⟩|ho
    .exact h k hk
    .exact hm ho)
 own:=λk b hk=>by
  rcases c.own k b hk with h|h
  .exact .inl (wT s.size h)
  .exact .inr h
 nam:=c.nam
def Ar9{k:Ka}{w:World}(hi:Inv k w):Step (λ_=>False) k w k w.drew/\Inv k w.drew:=by
 have g:=Grew.drew w;exact⟨⟨g.size,g.os,g.tape,g.output,E,λb _=>rfl,λb _ _=>rfl,λ_ _ _ _=>rfl,λ_ _=>rfl,λ_ h=>h.elim,λ_ h=>.inl h⟩,⟨hi.inj,hi.bnd,hi.apart,hi.mbnd⟩⟩
def Avd(M:List LineM)(hM:∀l∈M,LineW l)(hl:M.length<2147483648):Sq 217 [.ptr 0 0,.clo (.func 138) [.ptr 0 0] []] (Iv 0 0 M (emptyN,0,0)) (.tup []) (Iv 1 0 M (Do M)):=by
 intro r w vs hi az jx aq;have o1:=aq (0,.box (bC 0 0 M emptyN 0 0)) (by simp[Iv]);obtain ⟨b,e1,c1,c2,st1,inv1,vv⟩:=Ea (off:=1) (x:=.val (.int .i32 1)) (v:=.int .i32 1) hi o1 rfl (λ _ _=>by simp only[Rd]) rfl;simp only[RdL,Rd,e1]at jx;obtain ⟨v0,r0,rfl,rfl,v1,r1,rfl,⟨fs,cs,rfl,tl,kt⟩,rfl⟩:=jx;obtain ⟨p3,q3,rfl,rfl,rfl⟩:=tl;subst kt;have ie:=Apq M hM hl 0 1 r (w.setCell ⟨b,1,none⟩ (.int .i32 1)) [.pointer (some ⟨b,0,none⟩)] inv1 az (by simp only[RdL,Rd,e1];exact⟨_,_,rfl,rfl,rfl⟩) (λ p hp=>by
  simp only[Iv,yI,xH,vJ]at hp;rw[hp];exact vv)
 obtain ⟨u1,zn,jh⟩:=c1 0 (.val (.int .u32 0)) rfl;obtain ⟨u2,td,nj⟩:=c1 1 (.val (.int .i32 0)) rfl;rw[jh.val]at zn;rw[nj.val]at td;have f1:=c2 0 (show 0<14 by decide);have f2:=c2 1 (show 1<14 by decide);have hl:=Atp ⟨b,0,none⟩ 0 (w.setCell ⟨b,1,none⟩ (.int .i32 1)) ((World.cell?_setCell_other _ ⟨b,1,none⟩ ⟨b,0,none⟩ _ y_).trans zn);have hnot:∀(x:Bool) (w:World),(Op.unary .not (.bool x)).run prog w=.ok (.bool (!x)) w:=λ_ _=>rfl
 go_enter_defers func217,ntmps217
 go_wp2_with (first|(go_at_call 271;refine(Aq0 ⟨b,1,none⟩ _ (by assumption) (by assumption)).mono ?_;rintro e w' ⟨rfl,rfl⟩)|(go_at_call 138;refine ie.mono ?_;rintro e w' ⟨v,r2,rfl,lr,j5,ly,uc⟩)|(go_at_call 216;go_in))
 have p1:=uc (0,.box (bC 0 1 M (Do M).1 (Do M).2.1 (Do M).2.2)) (by simp[Iv]);have k1:r2 0=.blk b:=by
  obtain ⟨bb,_,_,_,q1,_⟩:=id p1;rcases lr.nam 0 (by rw[e1];intro h;cases h) with h|h
  .rw[h];exact e1
  .rw[h]at q1;cases q1
 obtain ⟨ba,a1,a2,a3,_,_,_⟩:=Ea (off:=0) (x:=.val (.int .u32 1)) (v:=.int .u32 1) j5 p1 rfl (λ_ _=>by simp only[Rd]) rfl;rw[k1]at a1;cases a1;obtain ⟨zo,wk⟩:=Ar9 j5;have p2:=ObOK.step zo (k:=0) (λh=>h) _ p1;obtain ⟨ba,a1,_,_,st3,wm,wo⟩:=Ea (off:=0) (x:=.val (.int .u32 1)) (v:=.int .u32 1) wk p2 rfl (λ_ _=>by simp only[Rd]) rfl;rw[k1]at a1;cases a1;have wo:ObOK r2 (w'.drew.setCell ⟨b,0,none⟩ (.int .u32 1)) 0 (.box (bC 1 1 M (Do M).1 (Do M).2.1 (Do M).2.2)):=wo;obtain ⟨ba,a1,a4,a5,st4,ry,wq⟩:=Ea (off:=1) (x:=.val (.int .i32 0)) (v:=.int .i32 0) wm wo rfl (λ_ _=>by simp only[Rd]) rfl;rw[k1]at a1;cases a1;have wq:ObOK r2 ((w'.drew.setCell ⟨b,0,none⟩ (.int .u32 1)).setCell ⟨b,1,none⟩ (.int .i32 0)) 0 (.box (bC 1 0 M (Do M).1 (Do M).2.1 (Do M).2.2)):=wq;obtain ⟨v1,vf,jh⟩:=a2 0 (.val (.int .u32 0)) rfl;rw[jh.val]at vf;obtain ⟨v2,ly,nj⟩:=a4 1 (.val (.int .i32 1)) rfl;rw[nj.val]at ly;refine leaves_cons (f:=273) (args:=#[.pointer (some ⟨b,0,none⟩),.bool true]) y_ (by simp[go_sem]) ?_;refine(oQ ⟨b,0,none⟩ (.int .u32 0) .returning _ vf (a3 0 (show 0<14 by decide))).mono ?_;rintro e u' y2 ⟨rfl,rfl,rfl⟩;refine leaves_cons (f:=272) (args:=#[.pointer (some ⟨b,1,none⟩)]) (by simp[settle]) (by simp[go_sem]) ?_;refine(eJ ⟨b,1,none⟩ _ _ ly (a5 1 (show 1<14 by decide))).mono ?_;rintro e u' y2 ⟨rfl,rfl,rfl⟩;have br:Step (·=0) r2 w' r2 ((w'.drew.setCell ⟨b,0,none⟩ (.int .u32 1)).setCell ⟨b,1,none⟩ (.int .i32 0)):=(zo.weaken (λ_ h=>h.elim)).trans (st3.trans st4);refine⟨.tuple #[],by simp[results,Tryz.results217],.tuple #[],r2,E,Ctx.behindN st1 (lr.step ry br),ry,⟨[],E,E⟩,λp hp=>?_⟩;simp only[Iv,yI,xH,vJ]at hp;rw[hp];exact wq
def Ave(M:List LineM)(dn lk:Int)(x:Net×Int×Int):Sq 216 [.ptr 0 0] (Iv dn lk M x) (Ab (dn != 0)) (Iv dn lk M x):=cT F216 ntmps216 λF hF=>by
 refine fW ?_;refine Aj (Za Atp E E E E) E E (fU ?_);exact done E Aq [] (Iv dn lk M x) (λ_ h=>h) E E U
def A38(M:List LineM)(hM:∀l∈M,LineW l)(hl:M.length<2147483648):Sq 137 [.ptr 0 0,.clo (.func 138) [.ptr 0 0] []] (Iv 0 0 M (emptyN,0,0)) (.tup []) (Iv 1 0 M (Do M)):=cT F137 ntmps137 λF hF=>by
 have q1:Sq 216 [.ptr 0 0] (Iv 0 0 M (emptyN,0,0)) (Ab false) (Iv 0 0 M (emptyN,0,0)):=Ave M 0 0 (emptyN,0,0);have q2:=Avd M hM hl;refine fW ?_;refine X (Ad [] E F216 q1 E W E V) ?_;refine fU ?_;refine X (Ad [] E F217 q2 E W E V) ?_;refine fU ?_;exact A6 E .nil [] (Iv 1 0 M (Do M)) (λ_ h=>h) E E U
end Go.Sy.Zaa
