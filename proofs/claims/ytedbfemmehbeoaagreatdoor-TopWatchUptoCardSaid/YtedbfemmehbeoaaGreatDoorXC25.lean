/- Parts of a proof. -/
import Derived.Test.YtedbfemmehbeoaaGreatDoorXC23
set_option maxHeartbeats 4000000
set_option linter.all false
namespace Go.Sy.Zaa
open Go.Proofs Go.Proofs.Tryz
attribute [local irreducible]G DR
set_option maxRecDepth 100000
def A3b(a:Addr)(x:Int)(w:World)(g:w.cell? a=some (.int .u32 x)):(callFunc 277 #[.pointer (some a)]).run prog w=.ok (.value (.int .u32 x)) w :=
 run_call_load func277 y_ y_ y_ .u32 y_ g
def lV(w:World):(callFunc 397 #[]).run prog w=.ok (.value (.tuple #[])) w:=run_call_mark0 func397 y_ y_ y_ .disable y_ w
def Ab0(w:World):(callFunc 399 #[]).run prog w=.ok (.value (.tuple #[])) w:=run_call_mark0 func399 y_ y_ y_ .enable y_ w
def Alq(a:Addr)(w:World):(callFunc 400 #[.pointer (some a)]).run prog w=.ok (.value (.tuple #[])) w:=run_call_marked func400 y_ y_ y_ .acquire y_ a w
def Alp(a:Addr)(w:World):(callFunc 402 #[.pointer (some a)]).run prog w=.ok (.value (.tuple #[])) w:=run_call_marked func402 y_ y_ y_ .releaseMerge y_ a w
def Ag3(a:Addr)(x:Value)(u:FrameMode)(w:World)(o:w.cell? a=some x)(p:w.frozen? a=false):CallsD g 280 #[.pointer (some a),.bool true] u w λe j w'=>j=u/\(e=.returned (.tuple #[])/\w'=w.drew.setCell a (.int .u32 1)):=by
 have l:w.drew.cell? a=some x:=by go_simp
 have i:w.drew.frozen? a=false:=by go_simp
 have r:=run_call_store (P:=g) func342 y_ y_ y_ y_ (k:=.u32) (y:=1) l i
 go_enter_d func280,ntmps280
 go_wp2
 go_region_calls
 all_goals (go_end0;exact⟨rfl,rfl⟩)
def Ad4(a:Addr)(u:FrameMode)(w:World)(i:w.cell? a=some (.int .i32 1))(j:w.frozen? a=false):CallsD g 279 #[.pointer (some a)] u w λe l w'=>l=u/\(e=.returned (.tuple #[])/\w'=w.setCell a (.int .i32 0)):=by
 have o:=lV;have p:=Ab0;have r:=Alp;have t:=run_call_add (P:=g) func403 y_ y_ y_ .i32 y_ (y:=-1) (s:=0) i j (by simp[go_sem];rfl);have I:=run_convert_to_unsafe (P:=g) (src:=524) (dst:=468) Tryz.underlying524 Tryz.underlying468 y_ i
 go_enter_d func279,ntmps279
 go_wp2
 go_end0
 go_wp2
 go_end0
 exact⟨q_,q_⟩
def A0a(a:Addr)(w:World)(i:w.cell? a=some (.int .i32 0))(l:w.frozen? a=false):Calls g 278 #[.pointer (some a)] w λe w'=>e=.returned (.tuple #[])/\w'=w.setCell a (.int .i32 1):=by
 have p:=lV;have r:=Ab0;have t:=Alq;have j:=run_call_cas_hit (P:=g) func398 y_ y_ y_ .i32 y_ (y:=1) i l;have o:(w.setCell a (.int .i32 1)).cell? a=some (.int .i32 1):=World.cell?_setCell_same w a _ i;have I:=run_convert_to_unsafe (P:=g) (src:=524) (dst:=468) Tryz.underlying524 Tryz.underlying468 y_ o
 go_enter func278,ntmps278
 go_wp2
 first|go_end0|(simp only[Exit.inBlock,Exit.then];refine bodyPost_ret (results_none rfl _ _ _) rfl ?_)|refine bodyPost_ret (results_none rfl _ _ _) rfl ?_
 go_wp2
 go_end0
 exact⟨q_,q_⟩
theorem bG.behindN{K:Nat->Prop}{a a2:Ka}{w j l:World}(s:En K a w a j)(c:bG ⟨j,a,[]⟩ a2 l):bG ⟨w,a,[]⟩ a2 l where
 size:=wI s.size c.size
 os:=c.os.trans s.os
 tape:=c.tape.trans s.tape
 output:=c.output.trans s.output
 M:=c.M
 ci:=λb o h=>by
  refine(c.ci b (xB o s.size) h).trans ?_;by_cases hm:a.M b
  .exact s.ce b hm
  .exact s.blk b o (λ g=>by
    rcases g with ⟨k,i⟩|g
    .exact h k i
    .exact hm g)
 bc:=λk b i=>by
  rcases c.bc k b i with h|h
  .exact .inl (wI s.size h)
  .exact .inr h
 cc:=c.cc
def A1l{k:Ka}{w:World}(hi:Inv k w):En (λ_=>False) k w k w.drew/\Inv k w.drew:=by
 have g:=Kb.drew w;exact⟨⟨g.size,g.os,g.tape,g.output,q_,λb _=>rfl,λb _ _=>rfl,λ_ _ _ _=>rfl,λ_ _=>rfl,λ_ h=>h.elim,λ_ h=>.inl h⟩,⟨hi.inj,hi.bf,hi.apart,hi.bh⟩⟩
def A46(M:List A2)(hM:∀l∈M,E7 l)(hl:M.length<2147483648):Sq 223 [.ptr 0 0,.clo (.func 152) [.ptr 0 0] []] (L9 0 0 M (Au,0,0)) (.tup []) (L9 1 0 M (E6 M)):=by
 intro m w vs hi ay j5 aq;have o1:=aq (0,.box (Abp 0 0 M Au 0 0)) (by simp[L9]);obtain ⟨b,r,c1,c2,st1,i,xe⟩:=H9 (off:=1) (x:=.val (.int .i32 1)) (v:=.int .i32 1) hi o1 rfl (λ _ _=>by simp only[Rd]) rfl;simp only[B8,Rd,r]at j5;obtain ⟨v0,r0,rfl,rfl,v1,r1,rfl,⟨fs,cs,rfl,kw,mj⟩,rfl⟩:=j5;obtain ⟨p3,q3,rfl,rfl,rfl⟩:=kw;subst mj;have gu:=Ayu M hM hl 0 1 m (w.setCell ⟨b,1,none⟩ (.int .i32 1)) [.pointer (some ⟨b,0,none⟩)] i ay (by simp only[B8,Rd,r];exact⟨_,_,rfl,rfl,rfl⟩) (λ p hp=>by
  simp only[L9,yH,xJ,vH]at hp;rw[hp];exact xe)
 obtain ⟨u1,j,t⟩:=c1 0 (.val (.int .u32 0)) rfl;obtain ⟨u2,rz,I⟩:=c1 1 (.val (.int .i32 0)) rfl;rw[t.val]at j;rw[I.val]at rz;have f1:=c2 0 (show 0<14 by decide);have f2:=c2 1 (show 1<14 by decide);have hl:=A3b ⟨b,0,none⟩ 0 (w.setCell ⟨b,1,none⟩ (.int .i32 1)) ((World.cell?_setCell_other _ ⟨b,1,none⟩ ⟨b,0,none⟩ _ qx).trans j);have a0:∀(x:Bool) (w:World),(Op.unary .not (.bool x)).run a6 w=.ok (.bool (!x)) w:=λ_ _=>rfl
 go_enter_defers func223,ntmps223
 go_wp2_with (first|(go_at_call 278;refine(A0a ⟨b,1,none⟩ _ (by assumption) (by assumption)).mono ?_;rintro e w' ⟨rfl,rfl⟩)|(go_at_call 152;refine gu.mono ?_;rintro e w' ⟨v,m2,rfl,kv,jg,J,uw⟩)|(go_at_call 222;go_in))
 have P:=uw (0,.box (Abp 0 1 M (E6 M).1 (E6 M).2.1 (E6 M).2.2)) (by simp[L9]);have k1:m2 0=.blk b:=by
  obtain ⟨bb,_,_,_,q1,_⟩:=id P;rcases kv.cc 0 (by rw[r];intro h;cases h) with h|h
  .rw[h];exact r
  .rw[h]at q1;cases q1
 obtain ⟨ba,g,a2,a3,_,_,_⟩:=H9 (off:=0) (x:=.val (.int .u32 1)) (v:=.int .u32 1) jg P rfl (λ_ _=>by simp only[Rd]) rfl;rw[k1]at g;cases g;obtain ⟨o,xf⟩:=A1l jg;have p2:=B3.step o (k:=0) (λh=>h) _ P;obtain ⟨ba,g,_,_,st3,xg,R⟩:=H9 (off:=0) (x:=.val (.int .u32 1)) (v:=.int .u32 1) xf p2 rfl (λ_ _=>by simp only[Rd]) rfl;rw[k1]at g;cases g;have R:B3 m2 (w'.drew.setCell ⟨b,0,none⟩ (.int .u32 1)) 0 (.box (Abp 1 1 M (E6 M).1 (E6 M).2.1 (E6 M).2.2)):=R;obtain ⟨ba,g,a4,a5,st4,sa,xi⟩:=H9 (off:=1) (x:=.val (.int .i32 0)) (v:=.int .i32 0) xg R rfl (λ_ _=>by simp only[Rd]) rfl;rw[k1]at g;cases g;have xi:B3 m2 ((w'.drew.setCell ⟨b,0,none⟩ (.int .u32 1)).setCell ⟨b,1,none⟩ (.int .i32 0)) 0 (.box (Abp 1 0 M (E6 M).1 (E6 M).2.1 (E6 M).2.2)):=xi;obtain ⟨v1,v7,t⟩:=a2 0 (.val (.int .u32 0)) rfl;rw[t.val]at v7;obtain ⟨v2,J,I⟩:=a4 1 (.val (.int .i32 1)) rfl;rw[I.val]at J;refine leaves_cons (f:=280) (args:=#[.pointer (some ⟨b,0,none⟩),.bool true]) qx (by simp[go_sem]) ?_;refine(Ag3 ⟨b,0,none⟩ (.int .u32 0) .returning _ v7 (a3 0 (show 0<14 by decide))).mono ?_;rintro e u' y9 ⟨rfl,rfl,rfl⟩;refine leaves_cons (f:=279) (args:=#[.pointer (some ⟨b,1,none⟩)]) (by simp[settle]) (by simp[go_sem]) ?_;refine(Ad4 ⟨b,1,none⟩ _ _ J (a5 1 (show 1<14 by decide))).mono ?_;rintro e u' y9 ⟨rfl,rfl,rfl⟩;have ck:En (·=0) m2 w' m2 ((w'.drew.setCell ⟨b,0,none⟩ (.int .u32 1)).setCell ⟨b,1,none⟩ (.int .i32 0)):=(o.weaken (λ_ h=>h.elim)).trans (st3.trans st4);refine⟨.tuple #[],by simp[results,Tryz.results223],.tuple #[],m2,q_,bG.behindN st1 (kv.step sa ck),sa,⟨[],q_,q_⟩,λp hp=>?_⟩;simp only[L9,yH,xJ,vH]at hp;rw[hp];exact xi
def A47(M:List A2)(g i:Int)(x:Ai×Int×Int):Sq 222 [.ptr 0 0] (L9 g i M x) (Ab (g != 0)) (L9 g i M x):=cT F222 ntmps222 λF j=>by
 refine fW ?_;refine Al (nK A3b q_ q_ q_ q_) q_ q_ (fU ?_);exact done q_ As [] (L9 g i M x) (λ_ h=>h) q_ q_ U
def Bel(M:List A2)(g:∀l∈M,E7 l)(i:M.length<2147483648):Sq 151 [.ptr 0 0,.clo (.func 152) [.ptr 0 0] []] (L9 0 0 M (Au,0,0)) (.tup []) (L9 1 0 M (E6 M)):=cT F151 ntmps151 λF p=>by
 have j:Sq 222 [.ptr 0 0] (L9 0 0 M (Au,0,0)) (Ab false) (L9 0 0 M (Au,0,0)):=A47 M 0 0 (Au,0,0);have o:=A46 M g i;refine fW ?_;refine X (Ad [] q_ F222 j q_ W q_ V) ?_;refine fU ?_;refine X (Ad [] q_ F223 o q_ W q_ V) ?_;refine fU ?_;exact Bf q_ .nil [] (L9 1 0 M (E6 M)) (λ_ h=>h) q_ q_ U
end Go.Sy.Zaa
