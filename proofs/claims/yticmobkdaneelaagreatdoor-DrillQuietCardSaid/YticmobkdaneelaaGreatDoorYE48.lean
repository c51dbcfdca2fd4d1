/- Parts of a proof. -/
import Derived.Test.YticmobkdaneelaaGreatDoorYE39
import Derived.Test.YticmobkdaneelaaGreatDoorYE24
set_option linter.all false
set_option linter.unusedVariables false
set_option linter.unusedSimpArgs false
set_option linter.deprecated false
namespace Go.Sy.YticmobkdaneelaaGreatDoor
open Go.Proofs Go.Proofs.Tryz
attribute [local irreducible] Go.Sy.G Go.Sy.DR
set_option maxRecDepth 100000
set_option maxHeartbeats 4000000
def Avi(a:Addr)(x:Int)(w:World)(hc:w.cell? a=some (.int .u32 x)):(callFunc 178 #[.pointer (some a)]).run prog w=.ok (.value (.int .u32 x)) w :=
 run_call_load func178 z_ z_ z_ .u32 z_ hc
def Wv(w:World):(callFunc 316 #[]).run prog w=.ok (.value (.tuple #[])) w:=run_call_mark0 func316 z_ z_ z_ .disable z_ w
def Y6(w:World):(callFunc 318 #[]).run prog w=.ok (.value (.tuple #[])) w:=run_call_mark0 func318 z_ z_ z_ .enable z_ w
def Ahb(a:Addr)(w:World):(callFunc 319 #[.pointer (some a)]).run prog w=.ok (.value (.tuple #[])) w:=run_call_marked func319 z_ z_ z_ .acquire z_ a w
def Aha(a:Addr)(w:World):(callFunc 321 #[.pointer (some a)]).run prog w=.ok (.value (.tuple #[])) w:=run_call_marked func321 z_ z_ z_ .releaseMerge z_ a w
def Adg(a:Addr)(x:Value)(u:FrameMode)(w:World)(hc:w.cell? a=some x)(hz:w.frozen? a=false):CallsD prog 181 #[.pointer (some a),.bool true] u w λe u' w'=>u'=u∧(e=.returned (.tuple #[])∧w'=w.drew.setCell a (.int .u32 1)):=by
 have fc:w.drew.cell? a=some x:=by go_simp
 have hz':w.drew.frozen? a=false:=by go_simp
 have cn:=run_call_store (P:=prog) func253 z_ z_ z_ z_ (k:=.u32) (y:=1) fc hz'
 go_enter_d func181,ntmps181
 go_wp2
 go_region_calls
 all_goals (go_end0;exact⟨rfl,rfl⟩)
def Aam(a:Addr)(u:FrameMode)(w:World)(hc:w.cell? a=some (.int .i32 1))(hz:w.frozen? a=false):CallsD prog 180 #[.pointer (some a)] u w λe u' w'=>u'=u∧(e=.returned (.tuple #[])∧w'=w.setCell a (.int .i32 0)):=by
 have hd:=Wv;have he:=Y6;have hr:=Aha;have mj:=run_call_add (P:=prog) func322 z_ z_ z_ .i32 z_ (y:=-1) (s:=0) hc hz (by simp[go_sem];rfl);have ng:=run_convert_to_unsafe (P:=prog) (src:=449) (dst:=453) Tryz.underlying449 Tryz.underlying453 z_ hc
 go_enter_d func180,ntmps180
 go_wp2
 go_end0
 go_wp2
 go_end0
 exact⟨E,E⟩
def Asz(a:Addr)(w:World)(hc:w.cell? a=some (.int .i32 0))(hz:w.frozen? a=false):Calls prog 179 #[.pointer (some a)] w λe w'=>e=.returned (.tuple #[])∧w'=w.setCell a (.int .i32 1):=by
 have hd:=Wv;have he:=Y6;have ha:=Ahb;have hcas:=run_call_cas_hit (P:=prog) func317 z_ z_ z_ .i32 z_ (y:=1) hc hz;have fc:(w.setCell a (.int .i32 1)).cell? a=some (.int .i32 1):=World.cell?_setCell_same w a _ hc;have ng:=run_convert_to_unsafe (P:=prog) (src:=449) (dst:=453) Tryz.underlying449 Tryz.underlying453 z_ fc
 go_enter func179,ntmps179
 go_wp2
 first|go_end0|(simp only[Exit.inBlock,Exit.then];refine bodyPost_ret (results_none rfl _ _ _) rfl ?_)|refine bodyPost_ret (results_none rfl _ _ _) rfl ?_
 go_wp2
 go_end0
 exact⟨E,E⟩
theorem Ctx.behindN{K:Nat→Prop}{κ κ2:Ka}{w w1 w2:World}(s:Step K κ w κ w1)(c:Ctx ⟨w1,κ,[]⟩ κ2 w2):Ctx ⟨w,κ,[]⟩ κ2 w2 where
 size:=wO s.size c.size
 os:=c.os.trans s.os
 tape:=c.tape.trans s.tape
 output:=c.output.trans s.output
 M:=c.M
 old:=λb hb h=>by
  refine(c.old b (yV hb s.size) h).trans ?_;by_cases hm:κ.M b
  ·exact s.mkeep b hm
  ·exact s.blk b hb (λ ho=>by
    rcases ho with ⟨k,hk⟩|ho
    ·exact h k hk
    ·exact hm ho)
 own:=λk b hk=>by
  rcases c.own k b hk with h|h
  ·exact .inl (wO s.size h)
  ·exact .inr h
 nam:=c.nam
def At3{κ:Ka}{w:World}(hi:Inv κ w):Step (λ_=>False) κ w κ w.drew∧Inv κ w.drew:=by
 have g:=Grew.drew w;exact⟨⟨g.size,g.os,g.tape,g.output,E,λb _=>rfl,λb _ _=>rfl,λ_ _ _ _=>rfl,λ_ _=>rfl,λ_ h=>h.elim,λ_ h=>.inl h⟩,⟨hi.inj,hi.bnd,hi.apart,hi.mbnd⟩⟩
def Aw1(M:List LineM)(hM:∀l∈M,LineW l)(hl:M.length<2147483648):Sq 133 [.ptr 0 0,.clo (.func 79) [.ptr 0 0] []] (Ig 0 0 M (emptyN,0,0)) (.tup []) (Ig 1 0 M (Dc M)):=by
 intro κ w vs hi a6 jv ar;have o1:=ar (0,.box (Yx 0 0 M emptyN 0 0)) (by simp[Ig]);obtain ⟨b,e1,c1,c2,st1,inv1,uk⟩:=Dz (off:=1) (x:=.val (.int .i32 1)) (v:=.int .i32 1) hi o1 rfl (λ _ _=>by simp only[Rd]) rfl;simp only[RdL,Rd,e1]at jv;obtain ⟨v0,r0,rfl,rfl,v1,r1,rfl,⟨fs,cs,rfl,sk,m7⟩,rfl⟩:=jv;obtain ⟨p3,q3,rfl,rfl,rfl⟩:=sk;subst m7;have j5:=Ars M hM hl 0 1 κ (w.setCell ⟨b,1,none⟩ (.int .i32 1)) [.pointer (some ⟨b,0,none⟩)] inv1 a6 (by simp only[RdL,Rd,e1];exact⟨_,_,rfl,rfl,rfl⟩) (λ p hp=>by
  simp only[Ig,yH,xX,vZ]at hp;rw[hp];exact uk)
 obtain ⟨u1,yh,jl⟩:=c1 0 (.val (.int .u32 0)) rfl;obtain ⟨u2,rj,pj⟩:=c1 1 (.val (.int .i32 0)) rfl;rw[jl.val]at yh;rw[pj.val]at rj;have f1:=c2 0 (show 0<14 by decide);have f2:=c2 1 (show 1<14 by decide);have hl:=Avi ⟨b,0,none⟩ 0 (w.setCell ⟨b,1,none⟩ (.int .i32 1)) ((World.cell?_setCell_other _ ⟨b,1,none⟩ ⟨b,0,none⟩ _ y_).trans yh);have hnot:∀(x:Bool) (w:World),(Op.unary .not (.bool x)).run prog w=.ok (.bool (!x)) w:=λ_ _=>rfl
 go_enter_defers func133,ntmps133
 go_wp2_with (first|(go_at_call 179;refine(Asz ⟨b,1,none⟩ _ (by assumption) (by assumption)).mono ?_;rintro e w' ⟨rfl,rfl⟩)|(go_at_call 79;refine j5.mono ?_;rintro e w' ⟨v,κ2,rfl,m4,jo,oh,r8⟩)|(go_at_call 132;go_in))
 have p1:=r8 (0,.box (Yx 0 1 M (Dc M).1 (Dc M).2.1 (Dc M).2.2)) (by simp[Ig]);have k1:κ2 0=.blk b:=by
  obtain ⟨bb,_,_,_,q1,_⟩:=id p1;rcases m4.nam 0 (by rw[e1];intro h;cases h) with h|h
  ·rw[h];exact e1
  ·rw[h]at q1;cases q1
 obtain ⟨ba,a1,a2,a3,_,_,_⟩:=Dz (off:=0) (x:=.val (.int .u32 1)) (v:=.int .u32 1) jo p1 rfl (λ_ _=>by simp only[Rd]) rfl;rw[k1]at a1;cases a1;obtain ⟨yi,uw⟩:=At3 jo;have p2:=ObOK.step yi (k:=0) (λh=>h) _ p1;obtain ⟨ba,a1,_,_,st3,ux,uy⟩:=Dz (off:=0) (x:=.val (.int .u32 1)) (v:=.int .u32 1) uw p2 rfl (λ_ _=>by simp only[Rd]) rfl;rw[k1]at a1;cases a1;have uy:ObOK κ2 (w'.drew.setCell ⟨b,0,none⟩ (.int .u32 1)) 0 (.box (Yx 1 1 M (Dc M).1 (Dc M).2.1 (Dc M).2.2)):=uy;obtain ⟨ba,a1,a4,a5,st4,pp,uz⟩:=Dz (off:=1) (x:=.val (.int .i32 0)) (v:=.int .i32 0) ux uy rfl (λ_ _=>by simp only[Rd]) rfl;rw[k1]at a1;cases a1;have uz:ObOK κ2 ((w'.drew.setCell ⟨b,0,none⟩ (.int .u32 1)).setCell ⟨b,1,none⟩ (.int .i32 0)) 0 (.box (Yx 1 0 M (Dc M).1 (Dc M).2.1 (Dc M).2.2)):=uz;obtain ⟨v1,pq,jl⟩:=a2 0 (.val (.int .u32 0)) rfl;rw[jl.val]at pq;obtain ⟨v2,oh,pj⟩:=a4 1 (.val (.int .i32 1)) rfl;rw[pj.val]at oh;refine leaves_cons (f:=181) (args:=#[.pointer (some ⟨b,0,none⟩),.bool true]) y_ (by simp[go_sem]) ?_;refine(Adg ⟨b,0,none⟩ (.int .u32 0) .returning _ pq (a3 0 (show 0<14 by decide))).mono ?_;rintro e u' xu ⟨rfl,rfl,rfl⟩;refine leaves_cons (f:=180) (args:=#[.pointer (some ⟨b,1,none⟩)]) (by simp[settle]) (by simp[go_sem]) ?_;refine(Aam ⟨b,1,none⟩ _ _ oh (a5 1 (show 1<14 by decide))).mono ?_;rintro e u' xu ⟨rfl,rfl,rfl⟩;have cn:Step (·=0) κ2 w' κ2 ((w'.drew.setCell ⟨b,0,none⟩ (.int .u32 1)).setCell ⟨b,1,none⟩ (.int .i32 0)):=(yi.weaken (λ_ h=>h.elim)).trans (st3.trans st4);refine⟨.tuple #[],by simp[results,Tryz.results133],.tuple #[],κ2,E,Ctx.behindN st1 (m4.step pp cn),pp,⟨[],E,E⟩,λp hp=>?_⟩;simp only[Ig,yH,xX,vZ]at hp;rw[hp];exact uz
def Aw2(M:List LineM)(dn lk:Int)(x:Net×Int×Int):Sq 132 [.ptr 0 0] (Ig dn lk M x) (Ab (dn != 0)) (Ig dn lk M x):=cT F132 ntmps132 λF hF=>by
 refine fW ?_;refine Af (Xc Avi E E E E) E E ?_;refine fU ?_;exact done E (.cons .tmp .nil) [] (Ig dn lk M x) (λ_ h=>h) E E U
def A43(M:List LineM)(hM:∀l∈M,LineW l)(hl:M.length<2147483648):Sq 78 [.ptr 0 0,.clo (.func 79) [.ptr 0 0] []] (Ig 0 0 M (emptyN,0,0)) (.tup []) (Ig 1 0 M (Dc M)):=cT F78 ntmps78 λF hF=>by
 have q1:Sq 132 [.ptr 0 0] (Ig 0 0 M (emptyN,0,0)) (Ab false) (Ig 0 0 M (emptyN,0,0)):=Aw2 M 0 0 (emptyN,0,0);have q2:=Aw1 M hM hl;refine fW ?_;refine X (Ad [] E F132 q1 E W E V) ?_;refine fU ?_;refine X (Ad [] E F133 q2 E W E V) ?_;refine fU ?_;exact A6 E .nil [] (Ig 1 0 M (Dc M)) (λ_ h=>h) E E U
end Go.Sy.YticmobkdaneelaaGreatDoor
