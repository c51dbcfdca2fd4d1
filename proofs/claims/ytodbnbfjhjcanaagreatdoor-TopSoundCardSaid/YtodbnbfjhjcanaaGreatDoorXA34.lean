/- Parts of a proof. -/
import Derived.Test.YtodbnbfjhjcanaaGreatDoorXA29
set_option maxHeartbeats 4000000
set_option linter.all false
namespace Go.Sy.Zaa
open Go.Proofs Go.Proofs.Tryz
attribute [local irreducible]G DR
set_option maxRecDepth 100000
def Aq1(a:Addr)(x:Int)(w:World)(hc:w.cell? a=some (.int .u32 x)):(callFunc 270 #[.pointer (some a)]).run prog w=.ok (.value (.int .u32 x)) w :=
 run_call_load func270 j_ j_ j_ .u32 j_ hc
def Xt(w:World):(callFunc 380 #[]).run prog w=.ok (.value (.tuple #[])) w:=run_call_mark0 func380 j_ j_ j_ .disable j_ w
def Z2(w:World):(callFunc 382 #[]).run prog w=.ok (.value (.tuple #[])) w:=run_call_mark0 func382 j_ j_ j_ .enable j_ w
def Acg(a:Addr)(w:World):(callFunc 383 #[.pointer (some a)]).run prog w=.ok (.value (.tuple #[])) w:=run_call_marked func383 j_ j_ j_ .acquire j_ a w
def Acf(a:Addr)(w:World):(callFunc 385 #[.pointer (some a)]).run prog w=.ok (.value (.tuple #[])) w:=run_call_marked func385 j_ j_ j_ .releaseMerge j_ a w
def fY(a:Addr)(x:Value)(u:FrameMode)(w:World)(hc:w.cell? a=some x)(hz:w.frozen? a=false):CallsD prog 273 #[.pointer (some a),.bool true] u w λe u' w'=>u'=u/\(e=.returned (.tuple #[])/\w'=w.drew.setCell a (.int .u32 1)):=by
 have fu:w.drew.cell? a=some x:=by go_simp
 have hz':w.drew.frozen? a=false:=by go_simp
 have br:=run_call_store (P:=prog) func343 j_ j_ j_ j_ (k:=.u32) (y:=1) fu hz'
 go_enter_d func273,ntmps273
 go_wp2
 go_region_calls
 all_goals (go_end0;exact⟨rfl,rfl⟩)
def cA(a:Addr)(u:FrameMode)(w:World)(hc:w.cell? a=some (.int .i32 1))(hz:w.frozen? a=false):CallsD prog 272 #[.pointer (some a)] u w λe u' w'=>u'=u/\(e=.returned (.tuple #[])/\w'=w.setCell a (.int .i32 0)):=by
 have hd:=Xt;have he:=Z2;have hr:=Acf;have nc:=run_call_add (P:=prog) func386 j_ j_ j_ .i32 j_ (y:=-1) (s:=0) hc hz (by simp[go_sem];rfl);have ny:=run_convert_to_unsafe (P:=prog) (src:=511) (dst:=515) Tryz.underlying511 Tryz.underlying515 j_ hc
 go_enter_d func272,ntmps272
 go_wp2
 go_end0
 go_wp2
 go_end0
 exact⟨E,E⟩
def Aok(a:Addr)(w:World)(hc:w.cell? a=some (.int .i32 0))(hz:w.frozen? a=false):Calls prog 271 #[.pointer (some a)] w λe w'=>e=.returned (.tuple #[])/\w'=w.setCell a (.int .i32 1):=by
 have hd:=Xt;have he:=Z2;have ha:=Acg;have hcas:=run_call_cas_hit (P:=prog) func381 j_ j_ j_ .i32 j_ (y:=1) hc hz;have fu:(w.setCell a (.int .i32 1)).cell? a=some (.int .i32 1):=World.cell?_setCell_same w a _ hc;have ny:=run_convert_to_unsafe (P:=prog) (src:=511) (dst:=515) Tryz.underlying511 Tryz.underlying515 j_ fu
 go_enter func271,ntmps271
 go_wp2
 first|go_end0|(simp only[Exit.inBlock,Exit.then];refine bodyPost_ret (results_none rfl _ _ _) rfl ?_)|refine bodyPost_ret (results_none rfl _ _ _) rfl ?_
 go_wp2
 go_end0
 exact⟨E,E⟩
theorem Ctx.behindN{K:Nat->Prop}{a a2:Ka}{w w1 w2:World}(s:Step K a w a w1)(c:Ctx ⟨w1,a,[]⟩ a2 w2):Ctx ⟨w,a,[]⟩ a2 w2 where
 size:=wQ s.size c.size
 os:=c.os.trans s.os
 tape:=c.tape.trans s.tape
 output:=c.output.trans s.output
 M:=c.M
 old:=λb hb h=>by
  refine(c.old b (yV hb s.size) h).trans ?_;by_cases hm:a.M b
  .exact s.mkeep b hm
  .exact s.blk b hb (λ ho=>by
    rcases ho with ⟨k,hk⟩|ho
    .exact h k hk
    .exact hm ho)
 own:=λk b hk=>by
  rcases c.own k b hk with h|h
  .exact .inl (wQ s.size h)
  .exact .inr h
 nam:=c.nam
def Apo{k:Ka}{w:World}(hi:Inv k w):Step (λ_=>False) k w k w.drew/\Inv k w.drew:=by
 have g:=Grew.drew w;exact⟨⟨g.size,g.os,g.tape,g.output,E,λb _=>rfl,λb _ _=>rfl,λ_ _ _ _=>rfl,λ_ _=>rfl,λ_ h=>h.elim,λ_ h=>.inl h⟩,⟨hi.inj,hi.bnd,hi.apart,hi.mbnd⟩⟩
def Aso(M:List LineM)(hM:∀l∈M,LineW l)(hl:M.length<2147483648):Sq 217 [.ptr 0 0,.clo (.func 138) [.ptr 0 0] []] (Ij 0 0 M (emptyN,0,0)) (.tup []) (Ij 1 0 M (Di M)):=by
 intro r w vs hi ay jh ar;have o1:=ar (0,.box (Zp 0 0 M emptyN 0 0)) (by simp[Ij]);obtain ⟨b,e1,c1,c2,st1,inv1,vp⟩:=Dz (off:=1) (x:=.val (.int .i32 1)) (v:=.int .i32 1) hi o1 rfl (λ _ _=>by simp only[Rd]) rfl;simp only[RdL,Rd,e1]at jh;obtain ⟨v0,r0,rfl,rfl,v1,r1,rfl,⟨fs,cs,rfl,th,kc⟩,rfl⟩:=jh;obtain ⟨p3,q3,rfl,rfl,rfl⟩:=th;subst kc;have gq:=Am6 M hM hl 0 1 r (w.setCell ⟨b,1,none⟩ (.int .i32 1)) [.pointer (some ⟨b,0,none⟩)] inv1 ay (by simp only[RdL,Rd,e1];exact⟨_,_,rfl,rfl,rfl⟩) (λ p hp=>by
  simp only[Ij,yH,xP,vQ]at hp;rw[hp];exact vp)
 obtain ⟨u1,y7,jm⟩:=c1 0 (.val (.int .u32 0)) rfl;obtain ⟨u2,ss,pf⟩:=c1 1 (.val (.int .i32 0)) rfl;rw[jm.val]at y7;rw[pf.val]at ss;have f1:=c2 0 (show 0<14 by decide);have f2:=c2 1 (show 1<14 by decide);have hl:=Aq1 ⟨b,0,none⟩ 0 (w.setCell ⟨b,1,none⟩ (.int .i32 1)) ((World.cell?_setCell_other _ ⟨b,1,none⟩ ⟨b,0,none⟩ _ qq).trans y7);have hnot:∀(x:Bool) (w:World),(Op.unary .not (.bool x)).run prog w=.ok (.bool (!x)) w:=λ_ _=>rfl
 go_enter_defers func217,ntmps217
 go_wp2_with (first|(go_at_call 271;refine(Aok ⟨b,1,none⟩ _ (by assumption) (by assumption)).mono ?_;rintro e w' ⟨rfl,rfl⟩)|(go_at_call 138;refine gq.mono ?_;rintro e w' ⟨v,r2,rfl,lg,km,li,ta⟩)|(go_at_call 216;go_in))
 have p1:=ta (0,.box (Zp 0 1 M (Di M).1 (Di M).2.1 (Di M).2.2)) (by simp[Ij]);have k1:r2 0=.blk b:=by
  obtain ⟨bb,_,_,_,q1,_⟩:=id p1;rcases lg.nam 0 (by rw[e1];intro h;cases h) with h|h
  .rw[h];exact e1
  .rw[h]at q1;cases q1
 obtain ⟨ba,a1,a2,a3,_,_,_⟩:=Dz (off:=0) (x:=.val (.int .u32 1)) (v:=.int .u32 1) km p1 rfl (λ_ _=>by simp only[Rd]) rfl;rw[k1]at a1;cases a1;obtain ⟨y8,vq⟩:=Apo km;have p2:=ObOK.step y8 (k:=0) (λh=>h) _ p1;obtain ⟨ba,a1,_,_,st3,vr,vu⟩:=Dz (off:=0) (x:=.val (.int .u32 1)) (v:=.int .u32 1) vq p2 rfl (λ_ _=>by simp only[Rd]) rfl;rw[k1]at a1;cases a1;have vu:ObOK r2 (w'.drew.setCell ⟨b,0,none⟩ (.int .u32 1)) 0 (.box (Zp 1 1 M (Di M).1 (Di M).2.1 (Di M).2.2)):=vu;obtain ⟨ba,a1,a4,a5,st4,p6,vv⟩:=Dz (off:=1) (x:=.val (.int .i32 0)) (v:=.int .i32 0) vr vu rfl (λ_ _=>by simp only[Rd]) rfl;rw[k1]at a1;cases a1;have vv:ObOK r2 ((w'.drew.setCell ⟨b,0,none⟩ (.int .u32 1)).setCell ⟨b,1,none⟩ (.int .i32 0)) 0 (.box (Zp 1 0 M (Di M).1 (Di M).2.1 (Di M).2.2)):=vv;obtain ⟨v1,uh,jm⟩:=a2 0 (.val (.int .u32 0)) rfl;rw[jm.val]at uh;obtain ⟨v2,li,pf⟩:=a4 1 (.val (.int .i32 1)) rfl;rw[pf.val]at li;refine leaves_cons (f:=273) (args:=#[.pointer (some ⟨b,0,none⟩),.bool true]) qq (by simp[go_sem]) ?_;refine(fY ⟨b,0,none⟩ (.int .u32 0) .returning _ uh (a3 0 (show 0<14 by decide))).mono ?_;rintro e u' yk ⟨rfl,rfl,rfl⟩;refine leaves_cons (f:=272) (args:=#[.pointer (some ⟨b,1,none⟩)]) (by simp[settle]) (by simp[go_sem]) ?_;refine(cA ⟨b,1,none⟩ _ _ li (a5 1 (show 1<14 by decide))).mono ?_;rintro e u' yk ⟨rfl,rfl,rfl⟩;have br:Step (·=0) r2 w' r2 ((w'.drew.setCell ⟨b,0,none⟩ (.int .u32 1)).setCell ⟨b,1,none⟩ (.int .i32 0)):=(y8.weaken (λ_ h=>h.elim)).trans (st3.trans st4);refine⟨.tuple #[],by simp[results,Tryz.results217],.tuple #[],r2,E,Ctx.behindN st1 (lg.step p6 br),p6,⟨[],E,E⟩,λp hp=>?_⟩;simp only[Ij,yH,xP,vQ]at hp;rw[hp];exact vv
def Asp(M:List LineM)(dn lk:Int)(x:Net×Int×Int):Sq 216 [.ptr 0 0] (Ij dn lk M x) (Ab (dn != 0)) (Ij dn lk M x):=cT F216 ntmps216 λF hF=>by
 refine fW ?_;refine Ai (X5 Aq1 E E E E) E E (fU ?_);exact done E Ap [] (Ij dn lk M x) (λ_ h=>h) E E U
def A1b(M:List LineM)(hM:∀l∈M,LineW l)(hl:M.length<2147483648):Sq 137 [.ptr 0 0,.clo (.func 138) [.ptr 0 0] []] (Ij 0 0 M (emptyN,0,0)) (.tup []) (Ij 1 0 M (Di M)):=cT F137 ntmps137 λF hF=>by
 have q1:Sq 216 [.ptr 0 0] (Ij 0 0 M (emptyN,0,0)) (Ab false) (Ij 0 0 M (emptyN,0,0)):=Asp M 0 0 (emptyN,0,0);have q2:=Aso M hM hl;refine fW ?_;refine X (Ad [] E F216 q1 E W E V) ?_;refine fU ?_;refine X (Ad [] E F217 q2 E W E V) ?_;refine fU ?_;exact A2 E .nil [] (Ij 1 0 M (Di M)) (λ_ h=>h) E E U
end Go.Sy.Zaa
