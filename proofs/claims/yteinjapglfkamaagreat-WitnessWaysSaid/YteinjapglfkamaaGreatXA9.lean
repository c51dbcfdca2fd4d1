/-
  Z7 Z8 Z9 Z10 Z11 Z12 Z13 Z14 Z15 Z16 H1 S0 H2 H3 H4 Sy23 O1 H7 D9 D10 D11: parts of a proof, joined by program.
-/
import Derived.Test.YteinjapglfkamaaGreatXA8
import Derived.Tactics
import Derived.Tactics2
import Derived.Defers
import Derived.Laws.Pointers
import Derived.Laws.LoneSync
import Derived.RegionTactic
import Derived.RegionCalls
import Derived.ChangeAlike
import Derived.Laws.NewBlocks
import Derived.Test.YteinjapglfkamaaGreatXA4
import Derived.Test.YteinjapglfkamaaGreatXA5
import Derived.Test.YteinjapglfkamaaGreatXA3
import Derived.Test.YteinjapglfkamaaGreatXA7
namespace Go.Sy.YteinjapglfkamaaGreat
open Go.Proofs
attribute [local irreducible] Go.Sy.G Go.Sy.DR
set_option maxRecDepth 100000
set_option maxHeartbeats 4000000
theorem Wr (n:Net) (hn:n.Fin) (m:MacM) (d:Bool) (J D:Int) (hm0:MacOK n m J D) (hD:D≤1000000000000) (o:OutM) (ho:OutOK n o) (origin:Int) :
  Sy.Spec Tryz.prog 177 [.ptr 0 0,D5 o,Aa origin] (C0 n m d) (.sl 3 Dx (goesM n m o origin).2) (C0 n (goesM n m o origin).1 d):=Ab Γ hm 100 F177 Tryz.ntmps177 rfl fun F hF=>by
 have hres:=goesM.eq_1 n m o origin
 generalize goesM n m o origin=res at *
 have hdr:Oq m:=fun i=>⟨(hm0.drp i).1,by have:=(hm0.drp i).2;omega⟩
 have hbl:o.bytes.length<100000:=by have:=ho.bytes;omega
 have hin:∀ {x:Int},DomIn n x→0≤x∧x.toNat<m.queues.length:=fun h=>by rw[hm0.ques];exact h
 conv=>whnf
 refine⟨fun h=>?_,fun h=>?_⟩
 ·have h1:o.kind=1:=by simpa using h
  rw[if_pos h1]at hres
  subst hres
  refine rg ?_;conv=>whnf
  refine Iq 34 Dx [⟨o.port,origin,o.bytes⟩] E E ?_
  refine Au 34 E ?_
  exact done E (.cons .tmp .nil) [] (C0 n m d) (fun _ h=>h) E E ⟨Y,⟨.inl E,E,.inl E,E,.inl E,E,.inl E,E,Y⟩,E,E⟩
 have h1:¬ o.kind=1:=by simpa using h
 rw[if_neg h1]at hres
 clear h
 refine rg ?_;conv=>whnf
 refine⟨fun h=>?_,fun h=>?_⟩
 ·have h2:o.kind=2:=by simpa using h
  rw[if_pos h2]at hres
  have q1:=Agc n hn o.port o.bytes hbl
  have he:=Ajy n o.port o.bytes
  have hd:=fun h=>hin (Ajz (n:=n) (port:=o.port) (b:=o.bytes) h)
  have hf:=Adv n o.port o.bytes
  have ht:=Adu hn o.port o.bytes
  generalize linkT n o.port o.bytes=r at *
  have q2:=Sf n m d r.2.1 ⟨r.1,0,origin,r.2.2.1⟩ r.2.2.2 he hd hdr (Eo hm0 _) (Hf hf _ qn qx)
  subst hres
  refine rg ?_;conv=>whnf
  refine Aq q1 F241 E E E qq E ?_
  refine rd qq ?_;conv=>whnf
  refine⟨qq,?_⟩
  conv=>whnf
  refine⟨qq,?_⟩
  conv=>whnf
  refine Ai (Ak [] E F173 q2 E ⟨E,E,E,E,Y⟩ E ⟨.inl E,.inl E,.inl E,.inl E,Y⟩) E E ?_
  refine rg ?_;conv=>whnf
  refine Ap 6 3 Dx E ?_
  exact done E (.cons .tmp .nil) [] (C0 n (comeM _ _ _ _) d) (fun _ h=>h) E E ⟨Y,⟨.inl E,E,.inl E,E,.inl E,E,.inl E,E,Y⟩,E,E⟩
 have h2:¬ o.kind=2:=by simpa using h
 rw[if_neg h2]at hres
 clear h
 refine rg ?_;conv=>whnf
 refine⟨fun h=>?_,fun h=>?_⟩
 ·have h2:o.kind=3:=by simpa using h
  rw[if_pos h2]at hres
  have q1:=Agd n hn o.bytes hbl
  have he:=Aki n o.bytes
  have hd:=fun h=>hin (Z8 (n:=n) (b:=o.bytes) h).2
  have hf:=Aen n o.bytes
  have ht:=Yc hn o.bytes
  generalize comeT n o.bytes=r at *
  have q2:=Sf n m d r.2.1 ⟨-1,r.1,origin,r.2.2.1⟩ r.2.2.2 he hd hdr (Eo hm0 _) (Hf hf _ qx ht)
  subst hres
  refine rg ?_;conv=>whnf
  refine Aq q1 F242 E E E qq E ?_
  refine rd qq ?_;conv=>whnf
  refine⟨qq,?_⟩
  conv=>whnf
  refine⟨qq,?_⟩
  conv=>whnf
  refine Ai (Ak [] E F173 q2 E ⟨E,E,E,E,Y⟩ E ⟨.inl E,.inl E,.inl E,.inl E,Y⟩) E E ?_
  refine rg ?_;conv=>whnf
  refine Ap 6 3 Dx E ?_
  exact done E (.cons .tmp .nil) [] (C0 n (comeM _ _ _ _) d) (fun _ h=>h) E E ⟨Y,⟨.inl E,E,.inl E,E,.inl E,E,.inl E,E,Y⟩,E,E⟩
 have h3:¬ o.kind=3:=by simpa using h
 rw[if_neg h3]at hres
 clear h
 refine rg ?_;conv=>whnf
 refine⟨fun h=>?_,fun h=>?_⟩
 ·have h4:o.kind=4:=by simpa using h
  rw[if_pos h4]at hres
  have hf:=ho.frame h4
  have q2:=Sf n m d o.domain ⟨-2,0,origin,o.frame⟩ 0 qx (fun _=>hin hf.2) hdr (Eo hm0 _) (Hf hf.1 _ qx qx)
  subst hres
  refine rg ?_;conv=>whnf
  refine Ai (Ak [] E F173 q2 E ⟨E,E,E,E,Y⟩ E ⟨.inl E,.inl E,.inl E,.inl E,Y⟩) E E ?_
  refine rg ?_;conv=>whnf
  refine Ap 6 3 Dx E ?_
  exact done E (.cons .tmp .nil) [] (C0 n (comeM _ _ _ _) d) (fun _ h=>h) E E ⟨Y,⟨.inl E,E,.inl E,E,.inl E,E,.inl E,E,Y⟩,E,E⟩
 have h4:¬ o.kind=4:=by simpa using h
 rw[if_neg h4]at hres
 have h5:o.kind=5:=by have:=ho.kind;omega
 have he:=ho.err h5
 have q2:=Aej n m d o.error he.1 he.2 (hdr _)
 subst hres
 clear h
 refine rg ?_;conv=>whnf
 refine Ai (Ak [] E F176 q2 E ⟨E,E,E,E,Y⟩ E ⟨.inl E,.inl E,.inl E,.inl E,Y⟩) E E ?_
 refine rg ?_;conv=>whnf
 refine Ap 6 3 Dx E ?_
 exact done E (.cons .tmp .nil) [] (C0 n (Ca m o.error) d) (fun _ h=>h) E E ⟨Y,⟨.inl E,E,.inl E,E,.inl E,E,.inl E,E,Y⟩,E,E⟩
def Adj (up:List Bool) (dn lk:Int) (fw:List Bool):List SV:=[.sl 1 Ad up,.val (.int .u32 dn),.val (.int .i32 lk),.val (.int .u32 0),.sl 1 Ad fw]
def Oy (n:Net) (up:List Bool) (dn lk:Int) (fw:List Bool):Obs:=[(1,.box (Adj up dn lk fw)),(2,.box [.ptr 1 0]),(3,.box (Amd n))]
theorem Ajs (n:Net) (hn:n.Fin) (up fw:List Bool) (dn lk:Int) :
  Sy.Spec Tryz.prog 239 [.ptr 3 0,.ptr 2 0] (Oy n up dn lk fw) (.tup []) (Oy n up dn lk (Ks n up)):=Ab Γ hm 100 F239 Tryz.ntmps239 rfl fun F hF=>by
 have hf:∃ e,Sy.Spec Tryz.prog 112 [Al n,.sl 1 Ad up] [] (.tup [.sl 1 Ad (Ks n up),Aa e]) []:=by
  unfold Ks
  split
  ·rename_i h;exact⟨0,Z0 n up hn h⟩
  ·rename_i h;exact⟨2,Xy n up hn (by simpa using h)⟩
 obtain ⟨e,hf⟩:=hf
 generalize Ks n up=r at *
 conv=>whnf
 refine Aq hf F112 E E E qq E ?_
 refine rd qq ?_;conv=>whnf
 refine⟨qq,?_⟩
 conv=>whnf
 exact Ba E .nil [] (Oy n up dn lk r) (fun _ h=>h) E E ⟨Y,⟨.inl E,E,.inl E,E,.inl E,E,Y⟩,E,E⟩
theorem Amn (a:Addr) (x:Int) (w:World) (hc:w.cell? a=some (.int .u32 x)):(callFunc 353 #[.pointer (some a)]).run Tryz.prog w=.ok (.value (.int .u32 x)) w :=
 run_call_load Tryz.func353 qq qq qq .u32 qq hc
theorem Zj (n:Net) (up fw:List Bool) (dn lk:Int):Sy.Spec Tryz.prog 305 [.ptr 1 1] (Oy n up dn lk fw) (Ad (dn != 0)) (Oy n up dn lk fw):=Ab Γ hm 100 F305 Tryz.ntmps305 rfl fun F hF=>by
 conv=>whnf
 refine Ai (Y2 Amn E E E E) E E ?_
 refine rg ?_;conv=>whnf
 exact done E (.cons .tmp .nil) [] (Oy n up dn lk fw) (fun _ h=>h) E E ⟨Y,⟨.inl E,E,.inl E,E,.inl E,E,Y⟩,E,E⟩
theorem Sp (w:World):(callFunc 388 #[]).run Tryz.prog w=.ok (.value (.tuple #[])) w:=run_call_mark0 Tryz.func388 qq qq qq .disable qq w
theorem U5 (w:World):(callFunc 390 #[]).run Tryz.prog w=.ok (.value (.tuple #[])) w:=run_call_mark0 Tryz.func390 qq qq qq .enable qq w
theorem Aaw (a:Addr) (w:World):(callFunc 391 #[.pointer (some a)]).run Tryz.prog w=.ok (.value (.tuple #[])) w:=run_call_marked Tryz.func391 qq qq qq .acquire qq a w
theorem Aav (a:Addr) (w:World):(callFunc 393 #[.pointer (some a)]).run Tryz.prog w=.ok (.value (.tuple #[])) w:=run_call_marked Tryz.func393 qq qq qq .releaseMerge qq a w
theorem Wo (a:Addr) (x:Value) (u:FrameMode) (w:World) (hc:w.cell? a=some x) (hz:w.frozen? a=false) :
  CallsD Tryz.prog 356 #[.pointer (some a),.bool true] u w fun e u' w'=>u'=u∧(e=.returned (.tuple #[])∧w'=w.drew.setCell a (.int .u32 1)):=by
 have hc':w.drew.cell? a=some x:=by go_simp
 have hz':w.drew.frozen? a=false:=by go_simp
 have hst:=run_call_store (P:=Tryz.prog) Tryz.func378 qq qq qq qq (k:=.u32) (y:=1) hc' hz'
 go_enter_d Tryz.func356,Tryz.ntmps356
 go_wp2
 go_region_calls
 all_goals (go_end0;exact⟨rfl,rfl⟩)
theorem Vr (a:Addr) (u:FrameMode) (w:World) (hc:w.cell? a=some (.int .i32 1)) (hz:w.frozen? a=false) :
  CallsD Tryz.prog 355 #[.pointer (some a)] u w fun e u' w'=>u'=u∧(e=.returned (.tuple #[])∧w'=w.setCell a (.int .i32 0)):=by
 have hd:=Sp
 have he:=U5
 have hr:=Aav
 have hadd:=run_call_add (P:=Tryz.prog) Tryz.func394 qq qq qq .i32 qq (y:=-1) (s:=0) hc hz (by simp[go_sem];rfl)
 have hcv:=run_convert_to_unsafe (P:=Tryz.prog) (src:=503) (dst:=507) Tryz.underlying503 Tryz.underlying507 qq hc
 go_enter_d Tryz.func355,Tryz.ntmps355
 go_wp2
 go_end0
 go_wp2
 go_end0
 exact⟨E,E⟩
theorem Ajx (a:Addr) (w:World) (hc:w.cell? a=some (.int .i32 0)) (hz:w.frozen? a=false) :
  Calls Tryz.prog 354 #[.pointer (some a)] w fun e w'=>e=.returned (.tuple #[])∧w'=w.setCell a (.int .i32 1):=by
 have hd:=Sp
 have he:=U5
 have ha:=Aaw
 have hcas:=run_call_cas_hit (P:=Tryz.prog) Tryz.func389 qq qq qq .i32 qq (y:=1) hc hz
 have hc':(w.setCell a (.int .i32 1)).cell? a=some (.int .i32 1):=World.cell?_setCell_same w a _ hc
 have hcv:=run_convert_to_unsafe (P:=Tryz.prog) (src:=503) (dst:=507) Tryz.underlying503 Tryz.underlying507 qq hc'
 go_enter Tryz.func354,Tryz.ntmps354
 go_wp2
 first | go_end0 | (simp only[Exit.inBlock,Exit.then];refine bodyPost_ret (results_none rfl _ _ _) rfl ?_) | refine bodyPost_ret (results_none rfl _ _ _) rfl ?_
 go_wp2
 go_end0
 exact⟨E,E⟩
end Go.Sy.YteinjapglfkamaaGreat
namespace Go.Sy.YteinjapglfkamaaGreat
open Go.Proofs
set_option maxRecDepth 100000
set_option maxHeartbeats 4000000
theorem Ctx.behind {K:Nat→Prop} {κ κ2:Ka} {w w1 w2:World} (s:Step K κ w κ w1) (c:Ctx ⟨w1,κ⟩ κ2 w2):Ctx ⟨w,κ⟩ κ2 w2 where
 size:=Nat.le_trans s.size c.size
 os:=c.os.trans s.os
 tape:=c.tape.trans s.tape
 output:=c.output.trans s.output
 M:=c.M
 old:=fun b hb h=>by
  refine(c.old b (Nat.lt_of_lt_of_le hb s.size) h).trans ?_
  by_cases hm:κ.M b
  ·exact s.mkeep b hm
  ·exact s.blk b hb (fun ho=>by
    rcases ho with ⟨k,hk⟩ | ho
    ·exact h k hk
    ·exact hm ho)
 own:=fun k b hk=>by
  rcases c.own k b hk with h | h
  ·exact .inl (Nat.le_trans s.size h)
  ·exact .inr h
 nam:=c.nam
theorem Akf {κ:Ka} {w:World} (hi:Inv κ w):Step (fun _=>False) κ w κ w.drew∧Inv κ w.drew:=by
 have g:=Grew.drew w
 exact⟨⟨g.size,g.os,g.tape,g.output,E,fun b _=>rfl,fun b _ _=>rfl,fun _ _ _ _=>rfl,fun _ _=>rfl,fun _ h=>h.elim,fun _ h=>.inl h⟩,⟨hi.inj,hi.bnd,hi.apart,hi.mbnd⟩⟩
theorem Ajr (n:Net) (hn:n.Fin) (up fw:List Bool) :
  Sy.Spec Tryz.prog 306 [.ptr 1 1,.clo (.func 239) [] [.ptr 3 0,.ptr 2 0]] (Oy n up 0 0 fw) (.tup []) (Oy n up 1 0 (Ks n up)):=by
 intro κ w vs hi hnew hvs hok
 have o1:=hok (1,.box (Adj up 0 0 fw)) (by simp[Oy])
 have o2:=hok (2,.box [.ptr 1 0]) (by simp[Oy])
 have o3:=hok (3,.box (Amd n)) (by simp[Oy])
 obtain ⟨b,e1,c1,c2,st1,inv1,ob1⟩:=Ik (off:=2) (x:=.val (.int .i32 1)) (v:=.int .i32 1) hi o1 rfl (fun _ _=>by simp only[Rd]) rfl
 obtain ⟨b2,_,_,_,e2,_⟩:=id o2
 obtain ⟨b3,_,_,_,e3,_⟩:=id o3
 simp only[RdL,Rd,e1,e2,e3]at hvs
 obtain ⟨v0,r0,rfl,rfl,v1,r1,rfl,⟨fs,cs,rfl,hfs,hcs⟩,rfl⟩:=hvs
 subst hfs
 obtain ⟨p3,q3,rfl,rfl,p2,q2,rfl,rfl,rfl⟩:=hcs
 have hcl:=Ajs n hn up fw 0 1 κ (w.setCell ⟨b,2,none⟩ (.int .i32 1)) [.pointer (some ⟨b3,0,none⟩),.pointer (some ⟨b2,0,none⟩)] inv1 hnew (by simp only[RdL,Rd,e2,e3];exact⟨_,_,rfl,rfl,_,_,rfl,rfl,rfl⟩) (fun p hp=>by
  simp only[Oy,List.mem_cons,List.not_mem_nil,or_false]at hp
  rcases hp with rfl | rfl | rfl
  ·exact ob1
  ·exact ObOK.step st1 (show ¬ (2:Nat)=1 by decide) _ o2
  ·exact ObOK.step st1 (show ¬ (3:Nat)=1 by decide) _ o3)
 obtain ⟨u1,hu1,hr1⟩:=c1 1 (.val (.int .u32 0)) rfl
 obtain ⟨u2,hu2,hr2⟩:=c1 2 (.val (.int .i32 0)) rfl
 rw[hr1.val]at hu1
 rw[hr2.val]at hu2
 have f1:=c2 1 (show 1<5 by decide)
 have f2:=c2 2 (show 2<5 by decide)
 have hl:=Amn ⟨b,1,none⟩ 0 (w.setCell ⟨b,2,none⟩ (.int .i32 1)) ((World.cell?_setCell_other _ ⟨b,2,none⟩ ⟨b,1,none⟩ _ qy).trans hu1)
 have hnot:∀ (x:Bool) (w:World),(Op.unary .not (.bool x)).run Tryz.prog w=.ok (.bool (!x)) w:=fun _ _=>rfl
 go_enter_defers Tryz.func306,Tryz.ntmps306
 go_wp2_with (first | (go_at_call 354;refine(Ajx ⟨b,2,none⟩ _ (by assumption) (by assumption)).mono ?_;rintro e w' ⟨rfl,rfl⟩) | (go_at_call 239;refine hcl.mono ?_;rintro e w' ⟨v,κ2,rfl,hc2,hi2,hv2,ok2⟩) | (go_at_call 305;go_in))
 have p1:=ok2 (1,.box (Adj up 0 1 (Ks n up))) (by simp[Oy])
 have k1:κ2 1=.blk b:=by
  obtain ⟨bb,_,_,_,q1,_⟩:=id p1
  rcases hc2.nam 1 (by rw[e1];intro h;cases h) with h | h
  ·rw[h];exact e1
  ·rw[h]at q1;cases q1
 obtain ⟨ba,a1,a2,a3,_,_,_⟩:=Ik (off:=1) (x:=.val (.int .u32 1)) (v:=.int .u32 1) hi2 p1 rfl (fun _ _=>by simp only[Rd]) rfl
 rw[k1]at a1
 cases a1
 obtain ⟨std,invd⟩:=Akf hi2
 have p2:=ObOK.step std (k:=1) (fun h=>h) _ p1
 obtain ⟨ba,a1,_,_,st3,inv3,ob3⟩:=Ik (off:=1) (x:=.val (.int .u32 1)) (v:=.int .u32 1) invd p2 rfl (fun _ _=>by simp only[Rd]) rfl
 rw[k1]at a1
 cases a1
 have ob3:ObOK κ2 (w'.drew.setCell ⟨b,1,none⟩ (.int .u32 1)) 1 (.box (Adj up 1 1 (Ks n up))):=ob3
 obtain ⟨ba,a1,a4,a5,st4,inv4,ob4⟩:=Ik (off:=2) (x:=.val (.int .i32 0)) (v:=.int .i32 0) inv3 ob3 rfl (fun _ _=>by simp only[Rd]) rfl
 rw[k1]at a1
 cases a1
 have ob4:ObOK κ2 ((w'.drew.setCell ⟨b,1,none⟩ (.int .u32 1)).setCell ⟨b,2,none⟩ (.int .i32 0)) 1 (.box (Adj up 1 0 (Ks n up))):=ob4
 obtain ⟨v1,hv1,hr1⟩:=a2 1 (.val (.int .u32 0)) rfl
 rw[hr1.val]at hv1
 obtain ⟨v2,hv2,hr2⟩:=a4 2 (.val (.int .i32 1)) rfl
 rw[hr2.val]at hv2
 refine leaves_cons (f:=356) (args:=#[.pointer (some ⟨b,1,none⟩),.bool true]) qy (by simp[go_sem]) ?_
 refine(Wo ⟨b,1,none⟩ (.int .u32 0) .returning _ hv1 (a3 1 (show 1<5 by decide))).mono ?_
 rintro e u' w'' ⟨rfl,rfl,rfl⟩
 refine leaves_cons (f:=355) (args:=#[.pointer (some ⟨b,2,none⟩)]) (by simp[settle]) (by simp[go_sem]) ?_
 refine(Vr ⟨b,2,none⟩ _ _ hv2 (a5 2 (show 2<5 by decide))).mono ?_
 rintro e u' w'' ⟨rfl,rfl,rfl⟩
 have hst:Step (·=1) κ2 w' κ2 ((w'.drew.setCell ⟨b,1,none⟩ (.int .u32 1)).setCell ⟨b,2,none⟩ (.int .i32 0)):=(std.weaken (fun _ h=>h.elim)).trans (st3.trans st4)
 refine⟨.tuple #[],by simp[results,Tryz.results306],.tuple #[],κ2,E,Ctx.behind st1 (hc2.step inv4 hst),inv4,⟨[],E,E⟩,fun p hp=>?_⟩
 simp only[Oy,List.mem_cons,List.not_mem_nil,or_false]at hp
 rcases hp with rfl | rfl | rfl
 ·exact ob4
 ·exact ObOK.step hst (show ¬ (2:Nat)=1 by decide) _ (ok2 (2,.box [.ptr 1 0]) (by simp[Oy]))
 ·exact ObOK.step hst (show ¬ (3:Nat)=1 by decide) _ (ok2 (3,.box (Amd n)) (by simp[Oy]))
end Go.Sy.YteinjapglfkamaaGreat
namespace Go.Sy.YteinjapglfkamaaGreat
open Go.Proofs
attribute [local irreducible] Go.Sy.G Go.Sy.DR
set_option maxRecDepth 100000
set_option maxHeartbeats 4000000
def Ts (n:Net) (up:List Bool) (d:Bool):Obs:=[(1,.box (Ih n up d)),(2,.box [.ptr 1 0]),(3,.box (Amd n))]
theorem Aor (n:Net) (hn:n.Fin) (up:List Bool) :
  Sy.Spec Tryz.prog 238 [.ptr 1 1,.clo (.func 239) [] [.ptr 3 0,.ptr 2 0]] (Ts n up false) (.tup []) (Ts n up true):=Ab Γ hm 100 F238 Tryz.ntmps238 rfl fun F hF=>by
 have q1:Sy.Spec Tryz.prog 305 [.ptr 1 1] (Ts n up false) (Ad false) (Ts n up false):=Zj n up [] 0 0
 have q2:Sy.Spec Tryz.prog 306 [.ptr 1 1,.clo (.func 239) [] [.ptr 3 0,.ptr 2 0]] (Ts n up false) (.tup []) (Ts n up true):=Ajr n hn up []
 conv=>whnf
 refine Ai (Ak [] E F305 q1 E ⟨E,E,E,Y⟩ E ⟨.inl E,.inl E,.inl E,Y⟩) E E ?_
 (refine rg ?_;(conv=>whnf);refine aT ?_;refine rg ?_;conv=>whnf)
 refine Ai (Ak [] E F306 q2 E ⟨E,E,E,Y⟩ E ⟨.inl E,.inl E,.inl E,Y⟩) E E ?_
 refine rg ?_;conv=>whnf
 exact Ba E .nil [] (Ts n up true) (fun _ h=>h) E E ⟨Y,⟨.inl E,E,.inl E,E,.inl E,E,Y⟩,E,E⟩
theorem Aoq (n:Net) (up:List Bool) :
  Sy.Spec Tryz.prog 238 [.ptr 1 1,.clo (.func 239) [] [.ptr 3 0,.ptr 2 0]] (Ts n up true) (.tup []) (Ts n up true):=Ab Γ hm 100 F238 Tryz.ntmps238 rfl fun F hF=>by
 have q1:Sy.Spec Tryz.prog 305 [.ptr 1 1] (Ts n up true) (Ad true) (Ts n up true):=Zj n up (Ks n up) 1 0
 conv=>whnf
 refine Ai (Ak [] E F305 q1 E ⟨E,E,E,Y⟩ E ⟨.inl E,.inl E,.inl E,Y⟩) E E ?_
 (refine rg ?_;(conv=>whnf);refine aF ?_;refine rg ?_;conv=>whnf)
 exact Ba E .nil [] (Ts n up true) (fun _ h=>h) E E ⟨Y,⟨.inl E,E,.inl E,E,.inl E,E,Y⟩,E,E⟩
theorem Aop (n:Net) (hn:n.Fin) (up:List Bool) (d:Bool) :
  Sy.Spec Tryz.prog 238 [.ptr 1 1,.clo (.func 239) [] [.ptr 3 0,.ptr 2 0]] (Ts n up d) (.tup []) (Ts n up true):=by
 cases d
 ·exact Aor n hn up
 ·exact Aoq n up
theorem Aix (n:Net) (hn:n.Fin) (up:List Bool) (d:Bool) :
  Sy.Spec Tryz.prog 175 [.ptr 1 0,Al n] [(1,.box (Ih n up d))] (.sl 1 Ad (Ks n up)) [(1,.box (Ih n up true))]:=Ab Γ hm 100 F175 Tryz.ntmps175 rfl fun F hF=>by
 conv=>whnf
 refine Ai (Ak [] E F238 (Aop n hn up d) E ⟨E,E,E,Y⟩ E ⟨.inl E,.inl E,.inl E,Y⟩) E E ?_
 refine rg ?_;conv=>whnf
 exact done E (.cons .tmp .nil) [] [(1,.box (Ih n up true))] (fun _ h=>h) E E ⟨Y,⟨.inl E,E,Y⟩,E,E⟩
end Go.Sy.YteinjapglfkamaaGreat
namespace Go.Sy.YteinjapglfkamaaGreat
open Go.Proofs
theorem Vj {n:Net} {fw:List Bool} {t:List EntryM} {dom:Int} {q:QueuedM} {now:Int} (ht:TabOK t) (hq:QueuedOK q):TabOK (bridgeT n fw t dom q now).1:=by
 unfold bridgeT
 split
 ·exact Ui
 split
 ·split
  ·exact Oh ht hq now
  ·exact Oh ht hq now
 ·exact Oh ht hq now
theorem Vk {n:Net} (hn:n.Fin) (hm0:n.Num) {fw:List Bool} {t:List EntryM} {dom:Int} {q:QueuedM} {now:Int} (hq:QueuedOK q):∀ o∈(bridgeT n fw t dom q now).2.1,OutOK n o:=by
 intro o ho
 unfold bridgeT at ho
 split at ho
 ·cases ho
 rename_i h0
 have hb:Ae n=true:=by
  cases hx:Ae n
  ·exact absurd (.inl (by unfold Lv;rw[hx];simp)) h0
  ·rfl
 split at ho
 ·split at ho
  ·cases ho
  ·rename_i h1
   have h1:=Decidable.not_not.1 h1
   have hin:∀ (d:Int),(lookT n (routerT n dom q.frame.dst).1 d).2=true→0≤(lookT n (routerT n dom q.frame.dst).1 d).1∧(lookT n (routerT n dom q.frame.dst).1 d).1.toNat<n.irbs.length:=fun d h=>Mj h
   rw[List.mem_singleton.1 ho]
   exact⟨by dsimp only;omega,by simp,fun _=>⟨Aoy n hm0 _ _ hin,Amw hin h1⟩,fun h=>by dsimp only at h;omega⟩
 ·rcases List.mem_append.1 ho with h | h
  ·obtain ⟨p,_,rfl⟩:=List.mem_map.1 h
   unfold Yt
   exact Adr (by dsimp only;split<;>omega) (Yv _ _ _ _ hq.frame) (Aga _ _ _ _)
  ·obtain ⟨p,_,rfl⟩:=List.mem_map.1 h
   unfold Aa0
   exact Adr (by dsimp only;omega) (by have:=Aa3 n dom p q.frame;omega) (Ajv _ _ _ _)
theorem Vl {n:Net} (hn:n.Fin) (fw:List Bool) (t:List EntryM) (dom:Int) (q:QueuedM) (now:Int):(bridgeT n fw t dom q now).2.1.length<4294967296:=by
 unfold bridgeT
 split
 ·show (0:Nat)<4294967296;decide
 split
 ·split
  ·show (0:Nat)<4294967296;decide
  ·show (1:Nat)<4294967296;decide
 ·have:=Ya hn fw (learnQ t q now) dom q.from_ q.frame.dst
  simp only[List.length_append,List.length_map]
  omega
theorem Ti (n:Net) (origin:Int):∀ (a b:List OutM) (m:MacM),Bt n m origin (a++b)=((Bt n (Bt n m origin a).1 origin b).1,(Bt n m origin a).2++(Bt n (Bt n m origin a).1 origin b).2)
 | [],b,m=>by simp[Bt]
 | o::a,b,m=>by
  rw[List.cons_append,Bt,Bt,Ti n origin a b]
  simp
theorem Qw (n:Net) (m:MacM) (origin:Int) (l:List OutM) (j:Nat) (hj:j<l.length) :
  Bt n m origin (l.take (j+1))=((goesM n (Bt n m origin (l.take j)).1 l[j] origin).1,(Bt n m origin (l.take j)).2++(goesM n (Bt n m origin (l.take j)).1 l[j] origin).2):=by
 rw[List.take_succ_eq_append_getElem hj,Ti]
 simp[Bt]
theorem Oi (n:Net) (m:MacM) (o:OutM) (origin:Int):(goesM n m o origin).2.length≤1:=by
 unfold goesM
 split
 ·simp
 split
 ·simp
 split
 ·simp
 split<;>simp
theorem Oj (n:Net) (origin:Int):∀ (l:List OutM) (m:MacM),(Bt n m origin l).2.length≤l.length
 | [],m=>by simp[Bt]
 | o::l,m=>by
  rw[Bt]
  have h1:=Oj n origin l (goesM n m o origin).1
  have h2:=Oi n m o origin
  simp only[List.length_append,List.length_cons]
  omega
end Go.Sy.YteinjapglfkamaaGreat
namespace Go.Sy.YteinjapglfkamaaGreat
open Go.Proofs
attribute [local irreducible] Go.Sy.G Go.Sy.DR
set_option maxRecDepth 100000
set_option maxHeartbeats 4000000
theorem Adb {n:Net} {m:MacM} {J D:Int} (h:MacOK n m J D) (hD:0≤D) (dom:Int) {r:List EntryM × List OutM × Int} (hr:TabOK r.1):MacOK n (Sq m dom r) J (D+1):=by
 unfold Sq
 split
 ·exact Mw h hD 2
 split
 ·exact Mw (Aho h dom hr) hD _
 ·exact(Aho h dom hr).mono (Int.le_refl _) qn
def queL (q:QueuedM):List SV:=[Aa q.from_,Aa q.peer,Aa q.origin,Bf q.frame.dst,Bf q.frame.src,Aa q.frame.typ,.sl 1 Ao q.frame.body]
def Al3 (n:Net) (m:MacM) (q:QueuedM) (l:List SeenM):Obs:=[(0,.box (L7 n 1 m.now m.injected m.drops)),(1,.box (Ih n m.up true)),(2,.row 1 Kd m.tables),(3,.row 1 Lw m.queues),(7,.box (queL q)),(1000,.row 3 Dx l)]
theorem Aln (n:Net) (hn:n.Fin) (hm1:n.Num) (m:MacM) (d:Bool) (J D:Int) (hm0:MacOK n m J D) (hD0:0≤D) (hD:D≤900000000000) (dom at_:Int) :
  Sy.Spec Tryz.prog 115 [.ptr 0 0,Aa dom,Aa at_] (C0 n m d) (.sl 3 Dx (pickT n m dom at_).2) (C0 n (pickT n m dom at_).1 (if (takeM m dom at_).2.2 then true else d)):=Ab Γ hm 100 F115 Tryz.ntmps115 rfl fun F hF=>by
 have hres:=pickT.eq_1 n m dom at_
 generalize pickT n m dom at_=res at *
 have q1:=Ack n m d dom at_ (Eo hm0 dom)
 have hok:=Wm hm0 dom at_
 have hpl:(takeM m dom at_).2.2=true→0≤dom∧dom.toNat<m.queues.length:=fun h=>by
  unfold takeM at h
  split at h
  ·cases h
  ·rename_i h2
   exact placeB_iff.1 (by cases hx:Aj dom m.queues.length;exact absurd hx h2;rfl)
 have htl:(takeM m dom at_).1.tables=m.tables:=by unfold takeM;split<;>rfl
 generalize takeM m dom at_=r at *
 obtain ⟨m1,q,ok⟩:=r
 have htq:m.queues.length=m.tables.length:=by rw[hm0.ques,hm0.tabs]
 conv=>whnf
 refine Ai (Ak [] E F116 q1 E ⟨E,E,E,E,Y⟩ E ⟨.inl E,.inl E,.inl E,.inl E,Y⟩) E E ?_
 refine rg ?_;conv=>whnf
 cases ok
 ·rw[if_pos rfl]at hres
  subst hres
  (refine⟨fun _=>?_,fun h=>False.elim (by simp at h)⟩;refine rg ?_;conv=>whnf)
  refine Ap 6 3 Dx E ?_
  exact done E (.cons .tmp .nil) [] (C0 n m1 d) (fun _ h=>h) E E ⟨Y,⟨.inl E,E,.inl E,E,.inl E,E,.inl E,E,Y⟩,E,E⟩
 rw[if_neg qy]at hres
 have hd:=hpl rfl
 have hd2:0≤dom∧dom.toNat<m1.tables.length:=by rw[htl,← htq];exact hd
 dsimp only at hres hok
 have q2:=Aix n hn m1.up d
 have q3:=Aeu n hn hm1 (Ks n m1.up) (tableL m1 dom) dom q m1.now (T8 hok.1 dom) hok.2
 have hb1:=Vj (n:=n) (fw:=Ks n m1.up) (dom:=dom) (now:=m1.now) (T8 hok.1 dom) hok.2
 have hb2:=Vk (fw:=Ks n m1.up) (t:=tableL m1 dom) (dom:=dom) (now:=m1.now) hn hm1 hok.2
 have hb3:=Vl hn (Ks n m1.up) (tableL m1 dom) dom q m1.now
 have hb4:=Aet n (Ks n m1.up) (tableL m1 dom) dom q m1.now
 rw[Adc]at hres
 have hz:=Adb hok.1 hD0 dom hb1
 generalize bridgeT n (Ks n m1.up) (tableL m1 dom) dom q m1.now=b at *
 obtain ⟨t,out,e⟩:=b
 have hb2:∀ o∈out,OutOK n o:=hb2
 have hb3:out.length<4294967296:=hb3
 have hb4:Bp e:=hb4
 have ht0:=tableL.eq_1 m1 dom
 rw[Wb hd2.2]at ht0
 generalize tableL m1 dom=t0 at *
 subst ht0
 (refine⟨fun h=>False.elim (by simp at h),fun _=>?_⟩;refine rg ?_;conv=>whnf)
 refine Bn (Ak [] E F175 q2 E ⟨E,Y⟩ E ⟨.inl E,Y⟩) qq E ?_
 refine rd qq ?_;conv=>whnf
 refine⟨hd2.1,hd2.2,?_⟩
 conv=>whnf
 refine⟨E,hd2.2,?_⟩
 conv=>whnf
 refine Aq q3 F174 E E E qq E ?_
 refine rd qq ?_;conv=>whnf
 refine⟨qq,?_⟩
 conv=>whnf
 refine⟨fun h=>?_,fun h=>?_⟩
 ·have h2:¬ e=2:=by simpa using h
  clear h
  refine rg ?_;conv=>whnf
  refine⟨hd2.1,hd2.2,?_⟩
  conv=>whnf
  refine⟨E,hd2.2,t,E,E,?_⟩
  conv=>whnf
  refine⟨fun h=>?_,fun h=>?_⟩
  ·have h3:¬ e=0:=by simpa using h
   clear h
   have hpd:Sq m1 dom (t,out,e)=Ca (Et m1 dom t) e:=by
    unfold Sq
    rw[if_neg h2,if_pos h3]
   rw[hpd]at hres hz
   subst hres
   have q4:=Aej n (Et m1 dom t) true e hb4.1 hb4.2 ⟨(hok.1.drp _).1,by have:=(hok.1.drp e.toNat).2;show m1.drops e.toNat≤1000000000000;omega⟩
   refine rg ?_;conv=>whnf
   refine Ai (Ak [] E F176 q4 E ⟨E,E,E,E,Y⟩ E ⟨.inl E,.inl E,.inl E,.inl E,Y⟩) E E ?_
   refine rg ?_;conv=>whnf
   have hdr:Oq (Ca (Et m1 dom t) e):=fun i=>⟨(hz.drp i).1,by have:=(hz.drp i).2;omega⟩
   refine B7 12 1000 3 Dx E E ?_
   refine Aw out.length (fun j=>[(0,.ptr 0 0),(7,.ptr 7 0),(12,.osl 1000),(69,.sl 9 D5 out),(70,Aa out.length),(71,Aa j)]) (fun j=>Al3 n (Bt n (Ca (Et m1 dom t) e) q.origin (out.take j)).1 q (Bt n (Ca (Et m1 dom t) e) q.origin (out.take j)).2) [] ⟨⟨E,E,E,E,E,E,E,E,E,E,E,E,Y⟩,⟨.inl E,E,.inl E,E,.inl E,E,.inl E,E,.inl E,E,.inl E,E,Y⟩,E,E⟩ ?_
   intro j hj
   refine rg ?_;conv=>whnf
   refine⟨fun h=>?_,fun h=>?_⟩
   ·have hlt:j<out.length:=by have:=of_decide_eq_true h;omega
    have hj0:((j:Nat):Int).toNat<out.length:=by simpa using hlt
    obtain ⟨o,hoo⟩:∃ o,out[j]=o:=⟨_,rfl⟩
    have e1:out[((j:Nat):Int).toNat]'hj0=o:=hoo
    have hs:=Qw n (Ca (Et m1 dom t) e) q.origin out j hlt
    rw[hoo]at hs
    have hjo:=Mt hn q.origin (out.take j) hz qn (fun x hx=>hb2 x (List.mem_of_mem_take hx))
    have hlen:(out.take j).length=j:=by rw[List.length_take];omega
    rw[hlen]at hjo
    have hsl:=Oj n q.origin (out.take j) (Ca (Et m1 dom t) e)
    rw[hlen]at hsl
    have q5:=Wr n hn (Bt n (Ca (Et m1 dom t) e) q.origin (out.take j)).1 true J _ hjo qn o (hb2 o (by rw[← hoo];exact List.getElem_mem hlt)) q.origin
    have hfw:=Oi n (Bt n (Ca (Et m1 dom t) e) q.origin (out.take j)).1 o q.origin
    clear h
    refine rg ?_;conv=>whnf
    refine⟨E,by omega,hj0,?_⟩
    rw[e1]
    conv=>whnf
    refine Ai (Ak [] E F177 q5 E ⟨E,E,E,E,Y⟩ E ⟨.inl E,.inl E,.inl E,.inl E,Y⟩) E E ?_
    refine rg ?_;conv=>whnf
    refine Ai (Am Γ.toTy 81 E E E E E (.row E) .sl qy qn qn) E E ?_
    refine rg ?_;conv=>whnf
    refine⟨by unfold I64;omega,?_⟩
    conv=>whnf
    have g1:(Bt n (Ca (Et m1 dom t) e) q.origin (out.take (j+1))).1=(goesM n (Bt n (Ca (Et m1 dom t) e) q.origin (out.take j)).1 o q.origin).1:=by rw[hs]
    have g2:(Bt n (Ca (Et m1 dom t) e) q.origin (out.take (j+1))).2=(Bt n (Ca (Et m1 dom t) e) q.origin (out.take j)).2++(goesM n (Bt n (Ca (Et m1 dom t) e) q.origin (out.take j)).1 o q.origin).2:=by rw[hs]
    refine Ar [(1000,81)] hlt ⟨⟨E,E,E,E,E,E,E,E,E,E,E,E,Y⟩,?_,E,E⟩
    dsimp only
    rw[g1,g2]
    exact⟨.inl E,E,.inl E,E,.inl E,E,.inl E,E,.inl E,E,.inl E,E,Y⟩
   ·have hjj:j=out.length:=by have:=of_decide_eq_false h;omega
    subst hjj
    rw[List.take_length]
    clear h
    refine rg ?_;conv=>whnf
    refine Au 1000 E ?_
    exact done E (.cons .tmp .nil) [] (C0 n (Bt n (Ca (Et m1 dom t) e) q.origin out).1 true) (fun _ h=>h) E E ⟨Y,⟨.inl E,E,.inl E,E,.inl E,E,.inl E,E,Y⟩,E,E⟩
  ·have h3:e=0:=by simpa using h
   clear h
   have hpd:Sq m1 dom (t,out,e)=Et m1 dom t:=by
    unfold Sq
    rw[if_neg h2,if_neg (fun h=>h h3)]
   rw[hpd]at hres hz
   subst hres
   refine rg ?_;conv=>whnf
   have hdr:Oq (Et m1 dom t):=fun i=>⟨(hz.drp i).1,by have:=(hz.drp i).2;omega⟩
   refine B7 12 1000 3 Dx E E ?_
   refine Aw out.length (fun j=>[(0,.ptr 0 0),(7,.ptr 7 0),(12,.osl 1000),(69,.sl 9 D5 out),(70,Aa out.length),(71,Aa j)]) (fun j=>Al3 n (Bt n (Et m1 dom t) q.origin (out.take j)).1 q (Bt n (Et m1 dom t) q.origin (out.take j)).2) [] ⟨⟨E,E,E,E,E,E,E,E,E,E,E,E,Y⟩,⟨.inl E,E,.inl E,E,.inl E,E,.inl E,E,.inl E,E,.inl E,E,Y⟩,E,E⟩ ?_
   intro j hj
   refine rg ?_;conv=>whnf
   refine⟨fun h=>?_,fun h=>?_⟩
   ·have hlt:j<out.length:=by have:=of_decide_eq_true h;omega
    have hj0:((j:Nat):Int).toNat<out.length:=by simpa using hlt
    obtain ⟨o,hoo⟩:∃ o,out[j]=o:=⟨_,rfl⟩
    have e1:out[((j:Nat):Int).toNat]'hj0=o:=hoo
    have hs:=Qw n (Et m1 dom t) q.origin out j hlt
    rw[hoo]at hs
    have hjo:=Mt hn q.origin (out.take j) hz qn (fun x hx=>hb2 x (List.mem_of_mem_take hx))
    have hlen:(out.take j).length=j:=by rw[List.length_take];omega
    rw[hlen]at hjo
    have hsl:=Oj n q.origin (out.take j) (Et m1 dom t)
    rw[hlen]at hsl
    have q5:=Wr n hn (Bt n (Et m1 dom t) q.origin (out.take j)).1 true J _ hjo qn o (hb2 o (by rw[← hoo];exact List.getElem_mem hlt)) q.origin
    have hfw:=Oi n (Bt n (Et m1 dom t) q.origin (out.take j)).1 o q.origin
    clear h
    refine rg ?_;conv=>whnf
    refine⟨E,by omega,hj0,?_⟩
    rw[e1]
    conv=>whnf
    refine Ai (Ak [] E F177 q5 E ⟨E,E,E,E,Y⟩ E ⟨.inl E,.inl E,.inl E,.inl E,Y⟩) E E ?_
    refine rg ?_;conv=>whnf
    refine Ai (Am Γ.toTy 81 E E E E E (.row E) .sl qy qn qn) E E ?_
    refine rg ?_;conv=>whnf
    refine⟨by unfold I64;omega,?_⟩
    conv=>whnf
    have g1:(Bt n (Et m1 dom t) q.origin (out.take (j+1))).1=(goesM n (Bt n (Et m1 dom t) q.origin (out.take j)).1 o q.origin).1:=by rw[hs]
    have g2:(Bt n (Et m1 dom t) q.origin (out.take (j+1))).2=(Bt n (Et m1 dom t) q.origin (out.take j)).2++(goesM n (Bt n (Et m1 dom t) q.origin (out.take j)).1 o q.origin).2:=by rw[hs]
    refine Ar [(1000,81)] hlt ⟨⟨E,E,E,E,E,E,E,E,E,E,E,E,Y⟩,?_,E,E⟩
    dsimp only
    rw[g1,g2]
    exact⟨.inl E,E,.inl E,E,.inl E,E,.inl E,E,.inl E,E,.inl E,E,Y⟩
   ·have hjj:j=out.length:=by have:=of_decide_eq_false h;omega
    subst hjj
    rw[List.take_length]
    clear h
    refine rg ?_;conv=>whnf
    refine Au 1000 E ?_
    exact done E (.cons .tmp .nil) [] (C0 n (Bt n (Et m1 dom t) q.origin out).1 true) (fun _ h=>h) E E ⟨Y,⟨.inl E,E,.inl E,E,.inl E,E,.inl E,E,Y⟩,E,E⟩
 ·have h2:e=2:=by simpa using h
  clear h
  subst h2
  have hpd:Sq m1 dom (t,out,2)=Ca m1 2:=by
   unfold Sq
   rw[if_pos rfl]
  rw[hpd]at hres hz
  subst hres
  have q4:=Aej n m1 true 2 qx qx ⟨(hok.1.drp _).1,by have:=(hok.1.drp (Int.toNat 2)).2;omega⟩
  (refine rg ?_;(conv=>whnf);refine aT ?_;refine rg ?_;conv=>whnf)
  refine Ai (Ak [] E F176 q4 E ⟨E,E,E,E,Y⟩ E ⟨.inl E,.inl E,.inl E,.inl E,Y⟩) E E ?_
  refine rg ?_;conv=>whnf
  have hdr:Oq (Ca m1 2):=fun i=>⟨(hz.drp i).1,by have:=(hz.drp i).2;omega⟩
  refine B7 12 1000 3 Dx E E ?_
  refine Aw out.length (fun j=>[(0,.ptr 0 0),(7,.ptr 7 0),(12,.osl 1000),(69,.sl 9 D5 out),(70,Aa out.length),(71,Aa j)]) (fun j=>Al3 n (Bt n (Ca m1 2) q.origin (out.take j)).1 q (Bt n (Ca m1 2) q.origin (out.take j)).2) [] ⟨⟨E,E,E,E,E,E,E,E,E,E,E,E,Y⟩,⟨.inl E,E,.inl E,E,.inl E,E,.inl E,E,.inl E,E,.inl E,E,Y⟩,E,E⟩ ?_
  intro j hj
  refine rg ?_;conv=>whnf
  refine⟨fun h=>?_,fun h=>?_⟩
  ·have hlt:j<out.length:=by have:=of_decide_eq_true h;omega
   have hj0:((j:Nat):Int).toNat<out.length:=by simpa using hlt
   obtain ⟨o,hoo⟩:∃ o,out[j]=o:=⟨_,rfl⟩
   have e1:out[((j:Nat):Int).toNat]'hj0=o:=hoo
   have hs:=Qw n (Ca m1 2) q.origin out j hlt
   rw[hoo]at hs
   have hjo:=Mt hn q.origin (out.take j) hz qn (fun x hx=>hb2 x (List.mem_of_mem_take hx))
   have hlen:(out.take j).length=j:=by rw[List.length_take];omega
   rw[hlen]at hjo
   have hsl:=Oj n q.origin (out.take j) (Ca m1 2)
   rw[hlen]at hsl
   have q5:=Wr n hn (Bt n (Ca m1 2) q.origin (out.take j)).1 true J _ hjo qn o (hb2 o (by rw[← hoo];exact List.getElem_mem hlt)) q.origin
   have hfw:=Oi n (Bt n (Ca m1 2) q.origin (out.take j)).1 o q.origin
   clear h
   refine rg ?_;conv=>whnf
   refine⟨E,by omega,hj0,?_⟩
   rw[e1]
   conv=>whnf
   refine Ai (Ak [] E F177 q5 E ⟨E,E,E,E,Y⟩ E ⟨.inl E,.inl E,.inl E,.inl E,Y⟩) E E ?_
   refine rg ?_;conv=>whnf
   refine Ai (Am Γ.toTy 81 E E E E E (.row E) .sl qy qn qn) E E ?_
   refine rg ?_;conv=>whnf
   refine⟨by unfold I64;omega,?_⟩
   conv=>whnf
   have g1:(Bt n (Ca m1 2) q.origin (out.take (j+1))).1=(goesM n (Bt n (Ca m1 2) q.origin (out.take j)).1 o q.origin).1:=by rw[hs]
   have g2:(Bt n (Ca m1 2) q.origin (out.take (j+1))).2=(Bt n (Ca m1 2) q.origin (out.take j)).2++(goesM n (Bt n (Ca m1 2) q.origin (out.take j)).1 o q.origin).2:=by rw[hs]
   refine Ar [(1000,81)] hlt ⟨⟨E,E,E,E,E,E,E,E,E,E,E,E,Y⟩,?_,E,E⟩
   dsimp only
   rw[g1,g2]
   exact⟨.inl E,E,.inl E,E,.inl E,E,.inl E,E,.inl E,E,.inl E,E,Y⟩
  ·have hjj:j=out.length:=by have:=of_decide_eq_false h;omega
   subst hjj
   rw[List.take_length]
   clear h
   refine rg ?_;conv=>whnf
   refine Au 1000 E ?_
   exact done E (.cons .tmp .nil) [] (C0 n (Bt n (Ca m1 2) q.origin out).1 true) (fun _ h=>h) E E ⟨Y,⟨.inl E,E,.inl E,E,.inl E,E,.inl E,E,Y⟩,E,E⟩
theorem Aim (l:List (List EntryM)) (now:Int) (j:Nat) (hj:j<l.length) :
  ((l.take j).map (fun t=>ageT t now)++l.drop j).set j (ageT l[j] now)=(l.take (j+1)).map (fun t=>ageT t now)++l.drop (j+1):=by
 apply List.ext_getElem
 ·simp only[List.length_set,List.length_append,List.length_map,List.length_take,List.length_drop];omega
 intro i h1 h2
 simp only[List.length_set,List.length_append,List.length_map,List.length_take,List.length_drop]at h1
 rw[List.getElem_set]
 by_cases hi:j=i
 ·subst hi
  rw[if_pos rfl,List.getElem_append_left (by simp;omega)]
  simp
 ·rw[if_neg hi]
  by_cases hlt:i<j
  ·rw[List.getElem_append_left (by simp;omega),List.getElem_append_left (by simp;omega)]
   simp
  ·rw[List.getElem_append_right (by simp;omega),List.getElem_append_right (by simp;omega)]
   simp only[List.getElem_drop,List.length_map,List.length_take]
   congr 1
   omega
theorem Aj9 {P:Program} {o:Oper} {s:SS} {x y:Operand} {at_:Array TypeId} {k k':IntKind} {m n r:Int} (hr:(if n<m then n else m)=r) (h:o.op=.call ⟨.builtin .min,#[x,y],at_⟩)
  (hx:ev s x=.val (.int k m)) (hy:ev s y=.val (.int k' n)):Good P o s ⟨.val (.int k r),[],[]⟩:=by
 have:=Am1 (P:=P) h hx hy
 rwa [hr]at this
def V4 (l:List (List EntryM)) (now:Int) (j:Nat):List (List EntryM):=(l.take j).map (fun t=>ageT t now)++l.drop j
theorem Ans (l:List (List EntryM)) (now:Int) (j:Nat) (hj:j<l.length) (h2:j<(V4 l now j).length):(V4 l now j)[j]=l[j]:=by
 have h:(V4 l now j)[j]? = l[j]?:=by
  unfold V4
  have hm:min j l.length=j:=by omega
  rw[List.getElem?_append_right (by simp;omega),List.getElem?_drop,List.length_map,List.length_take,hm,Nat.sub_self,Nat.add_zero]
 rw[List.getElem?_eq_getElem hj,List.getElem?_eq_getElem h2]at h
 exact Option.some.inj h
theorem Ae2 (l:List (List EntryM)) (now:Int) (j:Nat):(V4 l now j).length=l.length:=by
 unfold V4
 simp only[List.length_append,List.length_map,List.length_take,List.length_drop]
 omega
def tickO (n:Net) (m:MacM) (d:Bool) (now:Int) (j:Nat):Obs:=[(0,.box (L7 n 1 now m.injected m.drops)),(1,.box (Ih n m.up d)),(2,.row 1 Kd (V4 m.tables now j)),(3,.row 1 Lw m.queues)]
theorem Alm (n:Net) (m:MacM) (d:Bool) (J D:Int) (hm0:MacOK n m J D) (hs:An n.domains) :
  Sy.Spec Tryz.prog 117 [.ptr 0 0] (C0 n m d) (.tup []) (C0 n (O2 m) d):=Ab Γ hm 100 F117 Tryz.ntmps117 rfl fun F hF=>by
 unfold An at hs
 have hnow:=hm0.now
 have htl:m.tables.length<2147483648:=by rw[hm0.tabs];exact hs
 have hto:=hm0.tab
 obtain ⟨nw,hnw⟩:∃ nw,(if 1099511627776<m.now+1 then 1099511627776 else m.now+1)=nw:=⟨_,rfl⟩
 have hti:O2 m=⟨m.up,V4 m.tables nw m.tables.length,m.queues,nw,m.injected,m.drops⟩:=by
  have:min (m.now+1) 1099511627776=nw:=by rw[← hnw];split<;>omega
  unfold O2 V4
  rw[this,List.take_length,List.drop_length,List.append_nil]
 rw[hti]
 conv=>whnf
 refine⟨by unfold I64;omega,?_⟩
 conv=>whnf
 refine Ai (Aj9 hnw E E E) E E ?_
 refine rg ?_;conv=>whnf
 refine Aw m.tables.length (fun j=>[(0,.ptr 0 0),(16,.osl 2),(17,Aa m.tables.length),(18,Aa j)]) (fun j=>tickO n m d nw j) [] ⟨⟨E,E,E,E,E,E,E,E,Y⟩,⟨.inl E,E,.inl E,E,.inl E,E,.inl E,E,Y⟩,E,E⟩ ?_
 intro j hj
 refine rg ?_;conv=>whnf
 refine⟨fun h=>?_,fun h=>?_⟩
 ·have hlt:j<m.tables.length:=by have:=of_decide_eq_true h;omega
  have hal:=Ae2 m.tables nw j
  have hj0:((j:Nat):Int).toNat<(V4 m.tables nw j).length:=by rw[hal];simpa using hlt
  obtain ⟨t,hoo⟩:∃ t,m.tables[j]=t:=⟨_,rfl⟩
  have e1:(V4 m.tables nw j)[((j:Nat):Int).toNat]'hj0=t:=(Ans m.tables nw j hlt (by rw[hal];exact hlt)).trans hoo
  have hs:=Aim m.tables nw j hlt
  rw[hoo]at hs
  have ht:=hto t (by rw[← hoo];exact List.getElem_mem hlt)
  clear h
  refine rg ?_;conv=>whnf
  refine⟨by omega,hj0,?_⟩
  conv=>whnf
  refine⟨E,hj0,?_⟩
  rw[e1]
  conv=>whnf
  refine Aq (Aoa t nw ht.short ht.mac) F178 E E E qq E ?_
  refine rd qq ?_;conv=>whnf
  refine⟨by omega,hj0,?_⟩
  conv=>whnf
  refine⟨E,hj0,ageT t nw,E,E,?_⟩
  conv=>whnf
  refine⟨qq,?_⟩
  conv=>whnf
  refine⟨by unfold I64;omega,?_⟩
  conv=>whnf
  exact Ar [] hlt ⟨⟨E,E,E,E,E,E,E,E,Y⟩,⟨.inl E,E,.inl E,E,.inl (congrArg (Ob.row 1 Kd) hs.symm),E,.inl E,E,Y⟩,E,E⟩
 ·have hjj:j=m.tables.length:=by have:=of_decide_eq_false h;omega
  subst hjj
  clear h
  refine rg ?_;conv=>whnf
  exact Ba E .nil [] (C0 n ⟨m.up,V4 m.tables nw m.tables.length,m.queues,nw,m.injected,m.drops⟩ d) (fun _ h=>h) E E ⟨Y,⟨.inl E,E,.inl E,E,.inl E,E,.inl E,E,Y⟩,E,E⟩
def Acl (n:Net) (m:MacM) (d:Bool):Obs:=[(0,.box (L7 n 4 m.now m.injected m.drops)),(1,.non),(2,.row 1 Kd m.tables),(3,.row 1 Lw m.queues),(4,.box (Ih n m.up d))]
def upT (m:MacM) (up:List Bool):MacM:=⟨up,m.tables,m.queues,m.now,m.injected,m.drops⟩
def doD (n:Net) (m:MacM) (d:Bool) (x:StepM):Bool :=
 if x.kind=1 then d else if x.kind=2 then (if (takeM m x.domain x.at_).2.2 then true else d) else if x.kind=3 then d else if x.kind=4 then d else if x.kind=5 then (if x.up.length=n.links.length then false else d) else d
theorem Alq (n:Net) (hn:n.Fin) (hm1:n.Num) (m:MacM) (d:Bool) (J D:Int) (hm0:MacOK n m J D) (hJ:J<900000000000) (hD0:0≤D) (hD:D≤900000000000) (x:StepM) (hb:x.bytes.length<100000) :
  Sy.Spec Tryz.prog 52 [.ptr 0 0,Ed x] (C0 n m d) (.tup [.sl 3 Dx (doT n m x).2,Aa 0]) (Acl n (doT n m x).1 (doD n m d x)):=Ab Γ hm 100 F52 Tryz.ntmps52 rfl fun F hF=>by
 have hres:=doT.eq_1 n m x
 generalize doT n m x=res at *
 have hdd:=doD.eq_1 n m d x
 generalize doD n m d x=dd at *
 conv=>whnf
 refine Ai (Th (d:=900) E E E) E E ?_
 (refine rg ?_;(conv=>whnf);refine aF ?_;refine rg ?_;conv=>whnf)
 refine⟨fun h=>?_,fun h=>?_⟩
 ·have h1:x.kind=1:=by simpa using h
  rw[if_pos h1]at hres hdd
  subst hres
  subst hdd
  have q1:=Afh n hn m dd J D hm0 qn qn x.port x.bytes hb
  refine rg ?_;conv=>whnf
  refine Ai (Ak [] E F114 q1 E ⟨E,E,E,E,Y⟩ E ⟨.inl E,.inl E,.inl E,.inl E,Y⟩) E E ?_
  refine rg ?_;conv=>whnf
  refine Ap 4 3 Dx E ?_
  refine I4 1 4 E E qx ?_
  exact done E (.cons .tmp (.cons .tmp .nil)) [] (Acl n (injectT n m x.port x.bytes) dd) (fun _ h=>h) E E ⟨Y,⟨.inl E,E,.inl E,E,.inl E,E,.inl E,E,.inl E,E,Y⟩,E,E⟩
 have h1:¬ x.kind=1:=by simpa using h
 rw[if_neg h1]at hres hdd
 clear h
 refine rg ?_;conv=>whnf
 refine⟨fun h=>?_,fun h=>?_⟩
 ·have h1:x.kind=2:=by simpa using h
  rw[if_pos h1]at hres hdd
  subst hres
  have q1:=Aln n hn hm1 m d J D hm0 hD0 hD x.domain x.at_
  rw[← hdd]at q1
  refine rg ?_;conv=>whnf
  refine Ai (Ak [] E F115 q1 E ⟨E,E,E,E,Y⟩ E ⟨.inl E,.inl E,.inl E,.inl E,Y⟩) E E ?_
  refine rg ?_;conv=>whnf
  refine I4 1 4 E E qx ?_
  exact done E (.cons .tmp (.cons .tmp .nil)) [] (Acl n (pickT n m x.domain x.at_).1 dd) (fun _ h=>h) E E ⟨Y,⟨.inl E,E,.inl E,E,.inl E,E,.inl E,E,.inl E,E,Y⟩,E,E⟩
 have h1:¬ x.kind=2:=by simpa using h
 rw[if_neg h1]at hres hdd
 clear h
 refine rg ?_;conv=>whnf
 refine⟨fun h=>?_,fun h=>?_⟩
 ·have h1:x.kind=3:=by simpa using h
  rw[if_pos h1]at hres hdd
  subst hres
  subst hdd
  have q1:=Ack n m dd x.domain x.at_ (Eo hm0 _)
  refine rg ?_;conv=>whnf
  refine Ai (Ak [] E F116 q1 E ⟨E,E,E,E,Y⟩ E ⟨.inl E,.inl E,.inl E,.inl E,Y⟩) E E ?_
  refine rg ?_;conv=>whnf
  refine Ap 4 3 Dx E ?_
  refine I4 1 4 E E qx ?_
  exact done E (.cons .tmp (.cons .tmp .nil)) [] (Acl n (takeM m x.domain x.at_).1 dd) (fun _ h=>h) E E ⟨Y,⟨.inl E,E,.inl E,E,.inl E,E,.inl E,E,.inl E,E,Y⟩,E,E⟩
 have h1:¬ x.kind=3:=by simpa using h
 rw[if_neg h1]at hres hdd
 clear h
 refine rg ?_;conv=>whnf
 refine⟨fun h=>?_,fun h=>?_⟩
 ·have h1:x.kind=4:=by simpa using h
  rw[if_pos h1]at hres hdd
  subst hres
  subst hdd
  have q1:=Alm n m dd J D hm0 hn.domains
  refine rg ?_;conv=>whnf
  refine Ai (Ak [] E F117 q1 E ⟨E,E,E,E,Y⟩ E ⟨.inl E,.inl E,.inl E,.inl E,Y⟩) E E ?_
  refine rg ?_;conv=>whnf
  refine Ap 4 3 Dx E ?_
  refine I4 1 4 E E qx ?_
  exact done E (.cons .tmp (.cons .tmp .nil)) [] (Acl n (O2 m) dd) (fun _ h=>h) E E ⟨Y,⟨.inl E,E,.inl E,E,.inl E,E,.inl E,E,.inl E,E,Y⟩,E,E⟩
 have h1:¬ x.kind=4:=by simpa using h
 rw[if_neg h1]at hres hdd
 clear h
 refine rg ?_;conv=>whnf
 refine⟨fun h=>?_,fun h=>?_⟩
 ·have h1:x.kind=5:=by simpa using h
  rw[if_pos h1]at hres hdd
  clear h
  refine rg ?_;conv=>whnf
  refine⟨qq,?_⟩
  conv=>whnf
  refine⟨fun h=>?_,fun h=>?_⟩
  ·have h2:x.up.length=n.links.length:=by have:=of_decide_eq_true h;omega
   rw[if_pos h2]at hres hdd
   subst hres
   subst hdd
   clear h
   have hls:=hn.links
   unfold An at hls
   refine rg ?_;conv=>whnf
   refine Ag (Ag3 x.up qn) F118 E E E E E ?_
   refine rg ?_;conv=>whnf
   refine Ap 4 3 Dx E ?_
   refine Bc 55 (Ih n x.up false) E (.cons (.refl _) (.cons (.refl _) (.cons (.refl _) (.cons (.refl _) (.cons .nil .nil))))) ?_
   exact done E (.cons .tmp (.cons .tmp .nil)) [(4,55)] (Acl n (upT m x.up) false) (fun _ h=>h) E E ⟨Y,⟨.inl E,E,.inr E,E,.inl E,E,.inl E,E,.inl E,E,Y⟩,E,E⟩
  ·have h2:¬ x.up.length=n.links.length:=by have:=of_decide_eq_false h;omega
   rw[if_neg h2]at hres hdd
   subst hres
   subst hdd
   clear h
   refine rg ?_;conv=>whnf
   refine Ap 4 3 Dx E ?_
   refine I4 1 4 E E qx ?_
   exact done E (.cons .tmp (.cons .tmp .nil)) [] (Acl n m dd) (fun _ h=>h) E E ⟨Y,⟨.inl E,E,.inl E,E,.inl E,E,.inl E,E,.inl E,E,Y⟩,E,E⟩
 have h1:¬ x.kind=5:=by simpa using h
 rw[if_neg h1]at hres hdd
 subst hres
 subst hdd
 clear h
 refine rg ?_;conv=>whnf
 refine Ap 4 3 Dx E ?_
 refine I4 1 4 E E qx ?_
 exact done E (.cons .tmp (.cons .tmp .nil)) [] (Acl n m dd) (fun _ h=>h) E E ⟨Y,⟨.inl E,E,.inl E,E,.inl E,E,.inl E,E,.inl E,E,Y⟩,E,E⟩
theorem Afg (n:Net) (hn:n.Fin) (hb:okB n (List.replicate n.links.length true)=false) :
  Sy.Spec Tryz.prog 50 [Al n] [] (.tup [.val (.pointer none),Aa 2]) []:=Ab Γ hm 100 F50 Tryz.ntmps50 rfl fun F hF=>by
 have hls:=hn.links
 unfold An at hls
 have q1:=Aht n.links.length qn
 have q2:=Xy n (List.replicate n.links.length true) hn hb
 generalize List.replicate n.links.length true=up at *
 conv=>whnf
 refine Iq 7 Ad [true] E E ?_
 refine Au 7 E ?_
 refine rg ?_;conv=>whnf
 refine Ag q1 F111 E E E E E ?_
 refine rg ?_;conv=>whnf
 refine Ag q2 F112 E E E E E ?_
 (refine rg ?_;(conv=>whnf);refine aT ?_;refine rg ?_;conv=>whnf)
 exact Ac E (.cons .tmp (.cons .tmp .nil)) E E
theorem Aod (n:Net) (hn:n.Fin) (hb:okB n (List.replicate n.links.length true)=true) :
  Sy.Spec Tryz.prog 50 [Al n] [] (.tup [.ptr 0 0,Aa 0]) (C0 n (newT n) false):=Ab Γ hm 100 F50 Tryz.ntmps50 rfl fun F hF=>by
 have hls:=hn.links
 have hds:=hn.domains
 unfold An at hls hds
 have q1:=Aht n.links.length qn
 have q2:=Z0 n (List.replicate n.links.length true) hn hb
 have hnt:=newT.eq_1 n
 generalize newT n=m at *
 generalize List.replicate n.links.length true=up at *
 conv=>whnf
 refine Iq 7 Ad [true] E E ?_
 refine Au 7 E ?_
 refine rg ?_;conv=>whnf
 refine Ag q1 F111 E E E E E ?_
 refine rg ?_;conv=>whnf
 refine Ag q2 F112 E E E E E ?_
 (refine rg ?_;(conv=>whnf);refine aF ?_;refine rg ?_;conv=>whnf)
 refine Aq (copyS n hn) F113 E E E qq E ?_
 refine rd qq ?_;conv=>whnf
 refine Bn (Br Γ.toTy (d:=28) (n:=n.domains.length) (fun _:Unit=>.val (.slice none 0 0)) () E E E E E E E E qn qn E E E) qq E ?_
 refine rd qq ?_;conv=>whnf
 refine Bn (Br Γ.toTy (d:=32) (n:=n.domains.length) (fun _:Unit=>.val (.slice none 0 0)) () E E E E E E E E qn qn E E E) qq E ?_
 refine rd qq ?_;conv=>whnf
 refine⟨qq,?_⟩
 refine Ae6 28 (e':=Kd) (l':=List.replicate n.domains.length []) E qy (fun M w i h1 h2 v hv=>?_) ?_
 ·rw[List.getElem_replicate]
  simp only[RdD]at hv
  exact Ym hv
 refine Ae6 32 (e':=Lw) (l':=List.replicate n.domains.length []) E qy (fun M w i h1 h2 v hv=>?_) ?_
 ·rw[List.getElem_replicate]
  simp only[RdD]at hv
  exact Ym hv
 refine Bc 24 (Ih n up false) E (.cons (.refl _) (.cons (.refl _) (.cons (.refl _) (.cons (.refl _) (.cons .nil .nil))))) ?_
 refine rg ?_;conv=>whnf
 subst hnt
 exact done E (.cons .tmp (.cons .tmp .nil)) [(0,34),(1,24),(2,28),(3,32)] (C0 n ⟨up,List.replicate n.domains.length [],List.replicate n.domains.length [],0,0,fun _=>0⟩ false) (fun _ h=>h) E E ⟨Y,⟨.inl E,E,.inl E,E,.inl E,E,.inl E,E,Y⟩,E,E⟩
end Go.Sy.YteinjapglfkamaaGreat
namespace Go.Sy.YteinjapglfkamaaGreat
open Go.Proofs
def runF (n:Net) (s:MacM × Bool) (l:List StepM):MacM × Bool:=l.foldl (fun s x=>((doT n s.1 x).1,doD n s.1 s.2 x)) s
def runD (n:Net) (m:MacM) (d:Bool) (l:List StepM):Bool:=(runF n (m,d) l).2
theorem doT_ok {n:Net} (hn:n.Fin) (hm1:n.Num) {m:MacM} {J D:Int} (h:MacOK n m J D) (hJ:0≤J) (hD:0≤D) (x:StepM):MacOK n (doT n m x).1 (J+1) (D+4294967298):=by
 unfold doT
 split
 ·exact(Agk hn h hJ hD _ _).mono qn qn
 split
 ·have hok:=Wm h x.domain x.at_
  unfold pickT
  split
  ·exact hok.1.mono qn qn
  ·have hb:=Vl hn (Ks n (takeM m x.domain x.at_).1.up) (tableL (takeM m x.domain x.at_).1 x.domain) x.domain (takeM m x.domain x.at_).2.1 (takeM m x.domain x.at_).1.now
   have h1:=Adb hok.1 hD x.domain (Vj (n:=n) (fw:=Ks n (takeM m x.domain x.at_).1.up) (dom:=x.domain) (now:=(takeM m x.domain x.at_).1.now) (T8 hok.1 x.domain) hok.2)
   have h2:=Mt hn (takeM m x.domain x.at_).2.1.origin (Adc n (takeM m x.domain x.at_).1 x.domain (takeM m x.domain x.at_).2.1).2.1 h1 qn (Vk hn hm1 hok.2)
   refine h2.mono qn ?_
   unfold Adc
   omega
 split
 ·exact(Wm h x.domain x.at_).1.mono qn qn
 split
 ·have h1:=h.now
  refine⟨h.up,by unfold O2;simp only[List.length_map];exact h.tabs,h.ques,fun t ht=>?_,h.que,?_,?_,fun i=>?_⟩
  ·unfold O2 at ht
   obtain ⟨t0,ht0,rfl⟩:=List.mem_map.1 ht
   exact Apg (h.tab t0 ht0) _
  ·unfold O2
   dsimp only
   omega
  ·have:=h.inj
   unfold O2
   dsimp only
   omega
  ·have:=h.drp i
   unfold O2
   dsimp only
   omega
 split
 ·split
  ·rename_i h2
   exact MacOK.mono (n:=n) (m:=⟨x.up,m.tables,m.queues,m.now,m.injected,m.drops⟩) ⟨h2,h.tabs,h.ques,h.tab,h.que,h.now,h.inj,h.drp⟩ qn qn
  ·exact h.mono qn qn
 ·exact h.mono qn qn
theorem Ahx (n:Net):MacOK n (newT n) 0 0:=by
 refine⟨by simp[newT],by simp[newT],by simp[newT],fun t ht=>?_,fun l hl=>?_,by simp[newT],by simp[newT],fun i=>by simp[newT]⟩
 ·have:t=[]:=(List.mem_replicate.1 ht).2
  rw[this];exact Ui
 ·have:l=[]:=(List.mem_replicate.1 hl).2
  rw[this];exact U8
def upsT (n:Net):List Bool:=List.replicate n.links.length true
attribute [local irreducible] Go.Sy.G Go.Sy.DR
set_option maxRecDepth 100000
set_option maxHeartbeats 4000000
end Go.Sy.YteinjapglfkamaaGreat
namespace Go.Sy.YteinjapglfkamaaGreat
open Go.Proofs
theorem Yj {P:Hop→Prop} {S:Srch} (h:∀ f∈S.list,P f.hop) (d k:Int) {x:Hop} (hx:P x) (a:Int):∀ f∈(meetT S d k x a).list,P f.hop:=by
 rw[meetT]
 split
 ·exact h
 ·rw[Jf]
  split<;>(intro f hf;rcases List.mem_append.1 hf with hf | hf;exact h f hf;rw[List.mem_singleton]at hf;subst hf;exact hx)
theorem Yk {P:Hop→Prop} {k i:Int}:∀ {l:List Hop} {S:Srch},(∀ f∈S.list,P f.hop)→(∀ h∈l,P h)→∀ f∈(ext1 S k i l).list,P f.hop
 | [],S,h,_=>h
 | x::l,S,h,hl=>Yk (l:=l) (Yj h x.domain k (hl x qy) i) (fun y hy=>hl y (by simp[hy]))
theorem Aez {P:Hop→Prop} {i:Int}:∀ {l:List Lead} {S:Srch},(∀ f∈S.list,P f.hop)→(∀ q∈l,P ⟨3,0,q.domain,q.addr⟩)→∀ f∈(ext2 S i l).list,P f.hop
 | [],S,h,_=>h
 | x::l,S,h,hl=>Aez (l:=l) (Yj h x.domain 1 (hl x qy) i) (fun y hy=>hl y (by simp[hy]))
theorem Ape {P:Hop→Prop} {n:Net} (h1:∀ d,∀ x∈E3 n d,P x) (h2:∀ d,∀ q∈routesT n d,P ⟨3,0,q.domain,q.addr⟩) {S:Srch} (h:∀ f∈S.list,P f.hop) (i:Int):∀ f∈(extT n S i).list,P f.hop:=by
 rw[extT]
 split
 ·exact Aez (Yk h (h1 _)) (h2 _)
 ·exact Yk h (h1 _)
theorem Akq {P:Hop→Prop} {n:Net} {dev:Int} (h:∀ d,P ⟨0,0,d,0⟩) (l:List Int):∀ f∈(D2 n dev l).list,P f.hop:=by
 suffices hs:∀ (l:List Int) (S:Srch),(∀ f∈S.list,P f.hop)→∀ f∈(l.foldl (He n dev) S).list,P f.hop from hs l _ (fun f hf=>by simp[Is]at hf)
 intro l
 induction l with
 | nil=>exact fun S h=>h
 | cons x l ih =>
  intro S hS
  refine ih _ ?_
  rw[He]
  split
  ·exact hS
  ·exact Yj hS _ _ (h _) _
theorem Yi {P:Hop→Prop} {n:Net} (h1:∀ d,∀ x∈E3 n d,P x) (h2:∀ d,∀ q∈routesT n d,P ⟨3,0,q.domain,q.addr⟩) {to:Int}:∀ (k:Nat) (S:Srch) (i:Nat),S.OK n→Backs S.list→(∀ f∈S.list,P f.hop)→i≤S.list.length→(Cy n to k S i).2=true →
  ∀ h∈(Cy n to k S i).1,P h
 | 0,S,i,_,_,_,_,h=>by cases h
 | k+1,S,i,ok,bk,hk,hi,h=>by
  rw[Cy]at h ⊢
  split at h
  ·rename_i hlt
   rw[if_pos hlt]
   split at h
   ·rename_i hm2
    rw[if_pos hm2]
    exact(Il bk hk hlt).1
   ·rename_i hm2
    rw[if_neg hm2]
    have bk':=bk.ext (n:=n) (i:=i) ⟨by omega,by omega⟩
    exact Yi h1 h2 k _ _ (ok.ext i) bk'.1 (Ape h1 h2 hk i) qn h
  ·cases h
theorem Apd {P:Hop→Prop} {n:Net} (h1:∀ d,∀ x∈E3 n d,P x) (h2:∀ d,∀ q∈routesT n d,P ⟨3,0,q.domain,q.addr⟩) (h3:∀ d,P ⟨0,0,d,0⟩) {from_ to:Int} (h:(wayT n from_ to).2=true):∀ x∈(wayT n from_ to).1,P x:=by
 rw[wayT]at h ⊢
 split at h
 ·rename_i hc
  rw[if_pos hc]
  have hp:=Mo hc.1
  have ok0:(beginT n from_).OK n:=by
   rw[beginT,Ah hp.2]
   exact On fun v hv h0=>Hk hc.2.2.2 hp.2 hv h0
  have bk0:Backs (beginT n from_).list:=by rw[beginT];exact Ls _ _ _
  exact Yi h1 h2 _ _ _ ok0 bk0 (by rw[beginT];exact Akq h3 _) (Nat.zero_le _) h
 ·cases h
def LinkOK (n:Net) (h:Hop):Prop:=h.kind=1→(0≤h.port∧h.port.toNat<n.ports.length)∧0≤(nth n.ports h.port).link∧(nth n.ports h.port).link.toNat<n.links.length
theorem Adi {n:Net} {i:Int} (h:0≤Cn n i):(0≤i∧i.toNat<n.ports.length)∧0≤(nth n.ports i).link∧(nth n.ports i).link.toNat<n.links.length:=by
 have ht:=Hs h
 unfold Cn at h
 split at h
 ·rename_i hc
  have e1:nth n.ports i=n.ports[i.toNat]:=Ah ht.1.2
  rw[e1]at hc ⊢
  exact⟨ht.1,hc.2.1,(Hl hc.2.2 ht.1.2 hc.2.1).1⟩
 ·omega
theorem way_links {n:Net} {from_ to:Int} (h:(wayT n from_ to).2=true):∀ x∈(wayT n from_ to).1,LinkOK n x:=by
 refine Apd (fun d x hx=>?_) (fun d q _ e=>?_) (fun d e=>?_) h
 ·rw[E3]at hx
  split at hx
  ·rcases List.mem_append.1 hx with hx | hx
   ·obtain ⟨p,_,hp⟩:=List.mem_filterMap.1 hx
    rw[linkHop]at hp
    split at hp
    ·rename_i hc
     simp only[Option.some.injEq]at hp
     subst hp
     intro _
     refine Adi ?_
     rw[linkDomT]at hc
     split at hc
     ·rename_i hd
      rw[crossT]at hd
      split at hd
      ·rename_i hc2;exact hc2.1
      ·cases hd
     ·cases hc
    ·cases hp
   ·obtain ⟨p,hp,rfl⟩:=List.mem_map.1 hx
    intro e
    simp[E8]at e
  ·cases hx
 ·simp at e
 ·simp at e
def V5:Nat:=2203318222849
def stepB (n:Net) (l:List Hop) (i:Nat) (h:Hop):Bool:=Aj h.domain n.domains.length && !(decide (h.kind=3) && (decide (i=0) || decide ((nth n.domains (nth l ((i:Int)-1)).domain).irb<0)))
def Ud (l:List Hop):Int:=Ct (fun h=>decide (h.kind=3)) l
def Vq (a:Nat):PacketM:=⟨0,0,64,17,1,a,[]⟩
def irbOf (n:Net) (l:List Hop):Irb:=nth n.irbs (nth n.domains (nth l (Ud l-1)).domain).irb
def frameW (n:Net) (l:List Hop):FrameM:=if 0<Ud l then ⟨Ii (irbOf n l).addr,V5,2048,(ipPutT (Vq (nth l (Ud l)).addr.toNat)).1⟩ else ⟨281474976710655,V5,34997,[]⟩
def wayBytes (n:Net) (l:List Hop):List UInt8 × Int:=if Ae n=true∧l≠[]∧Co (stepB n l) l=true then (Qp (frameW n l),0) else ([],2)
def injectW (n:Net) (from_:Int) (l:List Hop):StepM :=
 ⟨1,from_,0,0,if (nth n.domains (nth l 0).domain).vlan≠(nth n.ports from_).native then Qp (tagT (takeF (wayBytes n l).1).1 (nth n.domains (nth l 0).domain).vlan).1 else (wayBytes n l).1,[]⟩
structure GoM where
 m:MacM
 d:Bool
 out:List StepM
def doW (n:Net) (s:GoM) (x:StepM):GoM:=⟨(doT n s.m x).1,doD n s.m s.d x,s.out++[x]⟩
def pickX (m:MacM) (d:Int):StepM:=⟨2,0,d,if (((if Aj d m.queues.length then queueL m d else []).length:Int)-1)<0 then 0 else ((if Aj d m.queues.length then queueL m d else []).length:Int)-1,[],[]⟩
def Xc (n:Net) (s:GoM) (d:Int):GoM:=doW n s (pickX s.m d)
def upW (n:Net) (h:Hop):List Bool:=(List.replicate n.links.length false).set (nth n.ports h.port).link.toNat true
def linkW (n:Net) (s:GoM) (h:Hop):GoM:=if h.kind=1 then doW n s ⟨5,0,0,0,[],upW n h⟩ else s
def goW (n:Net) (from_:Int) (l:List Hop):Nat→GoM
 | 0=>doW n ⟨newT n,false,[]⟩ (injectW n from_ l)
 | k+1=>Xc n (linkW n (goW n from_ l k) (nth l ((k+1:Nat):Int))) (nth l ((k:Nat):Int)).domain
def Ao5 (n:Net) (from_:Int) (l:List Hop):GoM:=Xc n (goW n from_ l (l.length-1)) (nth l ((l.length:Int)-1)).domain
def wscriptT (n:Net) (from_ to:Int):List StepM × Int :=
 if Hv n from_=true∧Hv n to=true∧from_≠to∧okB n (upsT n)=true then
  (if (wayT n from_ to).2=true then ((Ao5 n from_ (wayT n from_ to).1).out,0) else ([],31))
 else ([],2)
end Go.Sy.YteinjapglfkamaaGreat
namespace Go.Sy.YteinjapglfkamaaGreat
open Go.Proofs
attribute [local irreducible] Go.Sy.G Go.Sy.DR
structure Bx (Q:Prop):Prop where out:Q
theorem sE {α:Sort _} {a b:α} {K:Prop} (e:a=b) (h:K):a=b∧K:=⟨e,h⟩
theorem xE {α:Sort _} {a b:α} {K:a=b→Prop} (e:a=b) (h:K e):∃ e:a=b,K e:=⟨e,h⟩
theorem sL {a b:Int} {K:Prop} (e:a≤b) (h:K):a≤b∧K:=⟨e,h⟩
theorem xL {a b:Int} {K:a≤b→Prop} (e:a≤b) (h:K e):∃ e:a≤b,K e:=⟨e,h⟩
theorem sM {a b:Nat} {K:Prop} (e:a≤b) (h:K):a≤b∧K:=⟨e,h⟩
theorem sT {a b:Nat} {K:Prop} (e:a<b) (h:K):a<b∧K:=⟨e,h⟩
theorem xT {a b:Nat} {K:a<b→Prop} (e:a<b) (h:K e):∃ e:a<b,K e:=⟨e,h⟩
theorem sN {a b:Int} {K:Prop} (e:a≠b) (h:K):a≠b∧K:=⟨e,h⟩
theorem sI {a:Int} {K:Prop} (e:I64 a) (h:K):I64 a∧K:=⟨e,h⟩
theorem ct {p q:Prop} {b:Bool} (h:q) (e:b=true→False:=by
 intro _h
 first | exact absurd _h qx | exact Bool.false_ne_true (Eq.trans (Eq.symm (by with_reducible assumption)) _h) | (simp at _h;done) | (simp at _h;omega)):(b=true→p)∧(b=false→q):=⟨fun x=>(e x).elim,fun _=>h⟩
theorem cf {p q:Prop} {b:Bool} (h:p) (e:b=false→False:=by
 intro _h
 first | exact absurd _h qx | exact Bool.false_ne_true (Eq.trans (Eq.symm _h) (by with_reducible assumption)) | (simp at _h;done) | (simp at _h;omega)):(b=true→p)∧(b=false→q):=⟨fun _=>h,fun x=>(e x).elim⟩
theorem S {P Q:Prop} (h:Q) (e:Bx Q→P:=by
 intro hb
 first | refine rg ?_ | refine rd qq ?_ | skip
 conv=>whnf
 repeat (first
  | ((first | refine aF ?_ | refine aT ?_ | refine ct ?_ | refine cf ?_);(first | refine rg ?_ | refine rd qq ?_);(conv=>whnf))
  | ((first | refine⟨(by kernel_rfl:Abm _ _=true),?_⟩ | refine sI (by unfold I64;omega) ?_);(conv=>whnf)))
 exact hb.out):P:=e ⟨h⟩
theorem T {P Q:Prop} (h:Q) (e:Bx Q→P:=by
 intro hb
 refine S ?_
 repeat ((first | refine sE (by exact rfl) ?_ | refine sL (by first | omega | decide) ?_ | refine xL (by first | omega | decide) ?_ | refine sT (by first | omega | decide) ?_ | refine xT (by first | omega | decide) ?_ | refine sM (by first | omega | decide) ?_ | refine sN (by first | omega | decide) ?_ | refine xE (by exact rfl) ?_);refine S ?_)
 exact hb.out):P:=e ⟨h⟩
theorem D {P:Prop} (h:P:=by
 apply Ac
 ·exact E
 ·(repeat (first | exact ResVs.nil | (apply ResVs.cons;(first | exact .tmp | exact .cell rfl rfl rfl rfl))))
 ·exact E
 ·exact E):P:=h
theorem U {P:Prop} (h:P:=by
 refine⟨?_,?_,E,E⟩
 ·repeat (first | exact trivial | exact rfl | refine⟨rfl,rfl,?_⟩)
 ·repeat (first | exact trivial | refine⟨.inl rfl,rfl,?_⟩ | refine⟨.inr rfl,rfl,?_⟩)):P:=h
theorem W {P:Prop} (h:P:=by
 repeat (first | exact trivial | exact rfl | refine⟨rfl,?_⟩)):P:=h
theorem V {P:Prop} (h:P:=by
 repeat (first | exact trivial | refine⟨.inl rfl,?_⟩ | refine⟨.inr rfl,?_⟩)):P:=h
theorem C {P:Program} {f:FuncId} {fn:Func} {c:Code} {A:List SV} {R:SV} {Z Q:Prop} (hs:Sy.Spec P f A [] R []) (hf:Fun P f fn c) (h:Q) (e:Sy.Spec P f A [] R []→Fun P f fn c→Bx Q→Z:=by
 intro hs hf hb
 first | refine Ag hs hf rfl rfl rfl rfl rfl ?_ | refine Aq hs hf rfl rfl rfl qq rfl ?_
 refine T ?_
 exact hb.out):Z:=e hs hf ⟨h⟩
theorem X {C:Cx} {k:List KI} {s:SS} {all:Array Oper} {o:Oper} {rest:List Oper} {V:Up} {Q:Prop} (hg:Good C.P o s V) (h:Q) (hd:Qh C.n o=true:=by exact rfl) (hw:D0 C.n all o s=some true:=by exact rfl) (e:Bx Q→G C (.ops all rest::k) (s.upd o.dst V):=by
 intro hb
 refine T ?_
 exact hb.out):G C (.ops all (o::rest)::k) s:=Ai hg hd hw (e ⟨h⟩)
theorem Xd {C:Cx} {k:List KI} {s:SS} {all:Array Oper} {done:List Stp} {o:Oper} {rest:List Oper} {V:Up} {Q:Prop} (hg:Good C.P o s V) (h:Q) (hi:all[done.length]? = some o:=by kernel_rfl) (hw:D0 C.n all o s=some true:=by exact rfl) (hn:(Hh o || J8 o)=false:=by exact rfl) (e:Bx Q→DR C k all (done++[⟨done.length,o,V,true⟩]) rest (s.upd o.dst V):=by
 intro hb
 refine T ?_
 exact hb.out):DR C k all done (o::rest) s:=Bn hg hi hw (e ⟨h⟩) hn
theorem Xe {C:Cx} {k:List KI} {s:SS} {all:Array Oper} {done:List Stp} {o:Oper} {rest:List Oper} {V:Up} {Q:Prop} (hg:Good C.P o s V) (h:Q) (hk:KeepL s V.objs:=by exact W) (hi:all[done.length]? = some o:=by kernel_rfl) (hw:D0 C.n all o s=some true:=by exact rfl) (hn:(Hh o || J8 o)=false:=by exact rfl) (e:Bx Q→DR C k all (done++[⟨done.length,o,⟨V.v,V.rd++V.ws,[]⟩,true⟩]) rest (s.upd o.dst ⟨V.v,V.rd++V.ws,[]⟩):=by
 intro hb
 refine T ?_
 exact hb.out):DR C k all done (o::rest) s:=stepD2 hg hk hi hw (e ⟨h⟩) hn
end Go.Sy.YteinjapglfkamaaGreat
namespace Go.Sy.YteinjapglfkamaaGreat
open Go.Proofs
attribute [local irreducible] Go.Sy.G Go.Sy.DR
set_option maxRecDepth 100000
set_option maxHeartbeats 4000000
theorem Xr (l:List Hop) (p:Hop→Bool) (f:FuncId) (first cap:List SV) (hc:(SV.clo (.func f) first cap).inn []=true) (hf:∀ x∈l,Hz Tryz.prog f (first++[A6 x]++cap) (Ad (p x))) (hl:An l) :
  Sy.Spec Tryz.prog 41 [.sl 4 A6 l,.clo (.func f) first cap] [] (Aa (Ct p l)) []:=Ab Γ hm 100 F41 Tryz.ntmps41 rfl fun F hF=>by
 unfold An at hl
 have hin:∀ x:Hop,B8 [] (first++[A6 x]++cap)=true:=fun x=>Cr hc rfl
 conv=>whnf
 refine Ay l.length (fun j=>Dk (fun _ x=>!(p x)) l j) (fun j=>[(0,.sl 4 A6 l),(1,.clo (.func f) first cap),(7,Aa l.length),(8,Aa j)]) (fun _=>[]) [] (A2 _ _) ⟨⟨E,E,Bb _,hc,E,E,E,E,Y⟩,Y,E,E⟩ ?_
 intro j hj hI
 refine rg ?_;conv=>whnf
 refine⟨fun h=>?_,fun h=>?_⟩
 ·have h:=of_decide_eq_true h
  have hj2:j<l.length:=by omega
  refine rg ?_;conv=>whnf
  refine⟨E,by omega,by omega,?_⟩
  conv=>whnf
  refine D7 (hf l[j] (List.getElem_mem hj2)) E E E (by simp only[hin];rfl) E E ?_
  refine rg ?_;conv=>whnf
  refine⟨fun h2=>?_,fun h2=>?_⟩
  ·refine rg ?_;conv=>whnf
   refine Ac E (.cons .tmp .nil) (congrArg Aa ?_) E
   exact Dh hj2 (fun i hi hij=>by simpa using hI i hi hij) h2
  ·refine rg ?_;conv=>whnf
   refine⟨by unfold I64;omega,?_⟩
   conv=>whnf
   exact Av [] hI hj2 (Ax hI hj2 (by simp[h2])) ⟨⟨E,E,Bb _,hc,E,E,E,E,Y⟩,Y,E,E⟩
 ·have h:=of_decide_eq_false h
  refine rg ?_;conv=>whnf
  refine Ac E (.cons .tmp .nil) (congrArg Aa ?_) E
  exact Ea fun i hi=>by simpa using hI i hi qn
theorem Afl (h:Hop):Sy.Spec Tryz.prog 42 [A6 h] [] (Ad (decide (h.kind=3))) []:=Ab Γ hm 100 F42 Tryz.ntmps42 rfl fun F hF=>by
 refine T ?_
 exact D
theorem Aox {α:Type} {p:α→Bool} {l:List α} {i:Int} (h:Ct p l=i) (h0:0≤i):∃ hi:i.toNat<l.length,p l[i.toNat]=true:=by
 rcases Ll p l with ⟨h1,_⟩ | ⟨k,hk,h1,h2,_⟩
 ·omega
 ·have e:i.toNat=k:=by omega
  subst e
  exact⟨hk,h2⟩
theorem Anu (a:Nat) (h:a<4294967296):PacketOK (Vq a):=⟨by show 0≤255;decide,by show 0≤65535;decide,by show 64≤255;decide,by show 17≤255;decide,by show 1<4294967296;decide,h⟩
theorem Akv (a:Nat):(ipPutT (Vq a)).1.length=20:=by
 rw[ipPutT,if_neg (by show ¬ 1480<0;decide)]
 show (H6 (Vq a) _++[]).length=20
 rw[List.append_nil]
 rfl
theorem Adl {n:Net} (hu:Df n) (d:Int):0≤(nth n.irbs d).addr∧(nth n.irbs d).addr<4294967296:=by
 rw[nth]
 cases h:n.irbs[d.toNat]? with
 | none=>exact⟨by decide,by decide⟩
 | some x=>exact hu x (List.mem_of_getElem? h)
theorem Zz {n:Net} (hu:Df n) (l:List Hop):FrameOK (frameW n l):=by
 unfold frameW
 split
 ·have:=Adl hu (nth n.domains (nth l (Ud l-1)).domain).irb
  refine⟨?_,by show 2203318222849<281474976710656;decide,by show 2048≤65535;decide,?_⟩
  ·show 2199023255552+(irbOf n l).addr.toNat<281474976710656
   unfold irbOf
   omega
  ·show (ipPutT _).1.length≤1504
   rw[Akv];decide
 ·exact⟨by decide,by decide,by decide,by decide⟩
theorem Y9 (n:Net) (hn:n.Fin) (hu:Df n) (l:List Hop) (hl:An l) (hla:∀ h∈l,0≤h.addr∧h.addr<4294967296) :
  Sy.Spec Tryz.prog 14 [Al n,.sl 4 A6 l] [] (.tup [.sl 1 Ao (wayBytes n l).1,Aa (wayBytes n l).2]) []:=Ab Γ hm 100 F14 Tryz.ntmps14 rfl fun F hF=>by
 have hres:=wayBytes.eq_1 n l
 generalize wayBytes n l=res at *
 have hr:=Be n hn
 have hl2:=hl
 unfold An at hl2
 conv=>whnf
 refine⟨fun h=>?_,fun h=>?_⟩
 ·have h0:l=[]:=List.eq_nil_of_length_eq_zero (by have:=of_decide_eq_true h;omega)
  rw[if_neg (fun x=>x.2.1 h0)]at hres
  subst hres
  refine T ?_
  refine Ap 4 1 Ao E ?_
  exact D
 have h0:0<l.length:=by have:=of_decide_eq_false h;omega
 clear h
 have hne:l≠[]:=fun e=>by rw[e]at h0;simp at h0
 refine A3 2 8 (Al n) E E E ?_
 refine T ?_
 refine C hr F23 ?_
 cases hb:Ae n
 ·rw[if_neg (fun x=>by rw[hb]at x;cases x.1)]at hres
  subst hres
  refine T ?_
  refine Ap 4 1 Ao E ?_
  exact D
 refine T ?_
 refine Ay l.length (fun j=>Dk (stepB n l) l j) (fun j=>[(1,.sl 4 A6 l),(2,.ref 8 (Al n) 0),(6,.ptr 6 0),(22,.sl 4 A6 l),(23,Aa l.length),(24,Aa j)]) (fun _=>[(6,.box [Bf 281474976710655,Bf 2203318222849,Aa 34997,.val (.slice none 0 0)])]) [] (A2 _ _) U ?_
 intro j hj hI
 refine T ?_
 refine⟨fun h=>?_,fun h=>?_⟩
 ·have hlt:j<l.length:=by have:=of_decide_eq_true h;omega
  have hj0:((j:Nat):Int).toNat<l.length:=by simpa using hlt
  obtain ⟨x,hoo⟩:∃ x,l[j]=x:=⟨_,rfl⟩
  have e1:l[((j:Nat):Int).toNat]'hj0=x:=hoo
  have hst:=stepB.eq_1 n l j x
  have hbad:stepB n l j x=false→res=([],2):=fun h2=>by
   rw[if_neg (fun y=>by have:=allB_iff.1 y.2.2 j hlt;rw[hoo,h2]at this;cases this)]at hres
   exact hres
  clear h
  refine S ?_
  refine⟨E,by omega,hj0,?_⟩
  rw[e1]
  by_cases hd1:x.domain<0
  ·have hres:=hbad (by rw[hst,Hr qn,Bool.false_and])
   subst hres
   refine T ?_
   refine Ap 4 1 Ao E ?_
   exact D
  by_cases hd2:(n.domains.length:Int)≤x.domain
  ·have hres:=hbad (by rw[hst,Hr qn,Bool.false_and])
   subst hres
   refine T ?_
   refine Ap 4 1 Ao E ?_
   exact D
  have hpl:=Cd (n:=n.domains.length) (i:=x.domain) qn
  rw[hpl,Bool.true_and]at hst
  by_cases hk:x.kind=3
  rotate_left
  ·rw[decide_eq_false hk,Bool.false_and]at hst
   refine T ?_
   exact Av [] hI hlt (Ax hI hlt (by rw[hoo];exact hst)) U
  rw[decide_eq_true hk,Bool.true_and]at hst
  by_cases hj1:j=0
  ·have hres:=hbad (by rw[hst,decide_eq_true hj1];rfl)
   subst hres
   refine T ?_
   refine Ap 4 1 Ao E ?_
   exact D
  rw[decide_eq_false hj1,Bool.false_or]at hst
  have hk1:((j:Int)-1).toNat<l.length:=by omega
  have hpr:=hI (j-1) qn qn
  have hpr2:Aj (l[((j:Int)-1).toNat]'hk1).domain n.domains.length=true:=by
   have e:((j:Int)-1).toNat=j-1:=by omega
   simp only[e]
   unfold stepB at hpr
   simp only[Bool.and_eq_true]at hpr
   exact hpr.1
  have hpi:=placeB_iff.1 hpr2
  rw[Ah hk1,Ah hpi.2]at hst
  by_cases hir:(n.domains[(l[((j:Int)-1).toNat]'hk1).domain.toNat]'hpi.2).irb<0
  ·have hres:=hbad (by rw[hst,decide_eq_true hir];rfl)
   subst hres
   refine T ?_
   refine⟨fun _=>?_,fun h=>absurd hir (of_decide_eq_false h)⟩
   refine T ?_
   refine Ap 4 1 Ao E ?_
   exact D
  rw[decide_eq_false hir]at hst
  refine T ?_
  refine⟨fun h=>absurd (of_decide_eq_true h) hir,fun _=>?_⟩
  refine T ?_
  exact Av [] hI hlt (Ax hI hlt (by rw[hoo];exact hst)) U
 ·have hjj:j=l.length:=by have:=of_decide_eq_false h;omega
  subst hjj
  clear h
  have hall:Co (stepB n l) l=true:=allB_iff.2 fun i hi=>hI i hi hi
  rw[if_pos ⟨hb,hne,hall⟩]at hres
  subst hres
  have qi:=Xr l (fun h=>decide (h.kind=3)) 42 [] [] rfl (fun x hx=>⟨⟨_,_,F42⟩,Afl x⟩) hl
  have hri:Ct (fun h=>decide (h.kind=3)) l=Ud l:=rfl
  rw[hri]at qi
  have hlt:=E9 (fun h:Hop=>decide (h.kind=3)) l
  have his:=fun h0=>Aox hri h0
  rw[hri]at hlt
  have q7:=I3 (frameW n l) (Zz hu l)
  have hfw:=frameW.eq_1 n l
  have hirb:=irbOf.eq_1 n l
  generalize irbOf n l=ib at *
  generalize Ud l=r at *
  refine T ?_
  refine C qi F41 ?_
  refine⟨fun h=>?_,fun h=>?_⟩
  ·have h1:0<r:=of_decide_eq_true h
   rw[if_pos h1]at hfw
   obtain ⟨hr0,hr3⟩:=his qn
   have hst:=allB_iff.1 hall r.toNat hr0
   have hk1:(r-1).toNat<l.length:=by omega
   have hpr2:Aj (l[(r-1).toNat]'hk1).domain n.domains.length=true:=by
    have hpr:=allB_iff.1 hall (r-1).toNat hk1
    unfold stepB at hpr
    simp only[Bool.and_eq_true]at hpr
    exact hpr.1
   have hpi:=placeB_iff.1 hpr2
   unfold stepB at hst
   rw[hr3,show ((r.toNat:Int)-1)=r-1 by omega,Ah hk1,Ah hpi.2]at hst
   simp only[Bool.and_eq_true,Bool.true_and,Bool.not_eq_true',Bool.or_eq_false_iff,decide_eq_false_iff_not]at hst
   have hin:=(Z4 hb hpi.2).resolve_left qn
   have hin1:0≤(n.domains[(l[(r-1).toNat]'hk1).domain.toNat]'hpi.2).irb∧(n.domains[(l[(r-1).toNat]'hk1).domain.toNat]'hpi.2).irb.toNat<n.irbs.length:=by unfold InIrbs at hin;omega
   rw[Ah hk1,Ah hpi.2,Ah hin1.2]at hirb
   rw[Ah hr0]at hfw
   have ha:=hla _ (List.getElem_mem hr0)
   have hae:=Int.toNat_of_nonneg ha.1
   have hxa:=hu _ (List.getElem_mem hin1.2)
   have hxe:=Int.toNat_of_nonneg hxa.1
   have q5:Sy.Spec Tryz.prog 43 [.agg [Aa 0,Aa 0,Aa 64,Aa 17,Bj 1,Bj ((l[r.toNat]'hr0).addr.toNat:Nat),.sl 1 Ao []]] [] (.tup [.sl 1 Ao (ipPutT (Vq (l[r.toNat]'hr0).addr.toNat)).1,Aa (ipPutT (Vq (l[r.toNat]'hr0).addr.toNat)).2]) []:=Aa9 (Vq (l[r.toNat]'hr0).addr.toNat) (Anu _ qn) (by show 0<100000;decide)
   rw[hae]at q5
   have q6:=Zu (n.irbs[(n.domains[(l[(r-1).toNat]'hk1).domain.toNat]'hpi.2).irb.toNat]'hin1.2).addr.toNat qn
   rw[hxe]at q6
   subst hirb
   rw[hfw]at q7 ⊢
   clear hfw
   generalize (ipPutT (Vq (l[r.toNat]'hr0).addr.toNat)).1=bo at *
   refine T ?_
   refine G_vw 74 (.agg [Aa 0,Aa 0,Aa 64,Aa 17,Bj 1,Bj (l[r.toNat]'hr0).addr,.sl 1 Ao []]) (.agg (.cons (.refl _) (.cons (.refl _) (.cons (.refl _) (.cons (.refl _) (.cons (.refl _) (.cons (.refl _) (.cons .nil .nil)))))))) ?_
   refine C q5 F43 ?_
   refine C q6 F44 ?_
   refine Ai (Ak [(0,999)] E F45 q7 E Y E ⟨.inr E,Y⟩) E E ?_
   refine Au 999 E ?_
   refine T ?_
   exact D
  ·have h1:¬ 0<r:=of_decide_eq_false h
   rw[if_neg h1]at hfw
   rw[hfw]at q7 ⊢
   clear hfw
   refine T ?_
   refine G_vw 99 (.agg [Bf 281474976710655,Bf V5,Aa 34997,.sl 1 Ao []]) (.agg (.cons (.refl _) (.cons (.refl _) (.cons (.refl _) (.cons .nil .nil))))) ?_
   refine Ai (Ak [(0,999)] E F45 q7 E Y E ⟨.inr E,Y⟩) E E ?_
   refine Au 999 E ?_
   refine T ?_
   exact D
theorem Zc (b:List UInt8):FrameOK (takeF b).1:=by
 by_cases h:(takeF b).2=0
 ·exact Wn h
 ·rw[Ain h];exact C4
theorem Acg {f:FrameM} (hf:FrameOK f) (v:Nat) (hv:v≤4094):FrameOK (tagT f v).1:=by
 by_cases h:(tagT f v).2=0
 ·exact Ale hf v hv h
 ·unfold tagT at h ⊢
  split
  ·exact C4
  ·rename_i h1
   rw[if_neg h1]at h
   split
   ·exact C4
   ·rename_i h2
    rw[if_neg h2]at h
    exact absurd E h
theorem Q9 {n:Net} (hu:Df n) (l:List Hop):(wayBytes n l).1.length≤1518:=by
 unfold wayBytes
 split
 ·show (Qp _).length≤1518
  rw[Hg]
  have:=(Zz hu l).body
  omega
 ·show 0≤1518;decide
theorem Ae9 (n:Net) (hn:n.Fin) (hu:Df n) (hb:Ae n=true) (port:Int) (hp:0≤port∧port.toNat<n.ports.length) (l:List Hop) (hl:An l) (hla:∀ h∈l,T1 n h) (h0:0<l.length) :
  Sy.Spec Tryz.prog 55 [Al n,Aa port,.sl 4 A6 l] [] (Ed (injectW n port l)) []:=Ab Γ hm 100 F55 Tryz.ntmps55 rfl fun F hF=>by
 have hk0:(0:Int).toNat<l.length:=h0
 have hd:=hla _ (List.getElem_mem hk0)
 have q1:=Y9 n hn hu l hl (fun h hh=>(hla h hh).2)
 have hwl:=Q9 (n:=n) hu l
 have hv:=Qy hb hd.1.2
 have hres:=injectW.eq_1 n port l
 rw[Ah hk0,Ah hd.1.2,Ah hp.2]at hres
 generalize injectW n port l=res at *
 obtain ⟨ve,hve⟩:∃ v:Nat,(n.domains[(l[(0:Int).toNat]'hk0).domain.toNat]'hd.1.2).vlan=v:=⟨_,(Int.toNat_of_nonneg qn).symm⟩
 have hd1:0≤(l[(0:Int).toNat]'hk0).domain∧(l[(0:Int).toNat]'hk0).domain.toNat<n.domains.length:=hd.1
 have q3:=fun f hf=>Ach f ve hf qn
 have ho:=fun f hf=>Acg (f:=f) hf ve qn
 rw[← hve]at q3 ho
 clear hve
 generalize wayBytes n l=bb at *
 have q2:=Lo bb.1 qn
 have hf:=Zc bb.1
 generalize takeF bb.1=tk at *
 have q3:=q3 _ hf
 have q4:=I3 _ (ho _ hf)
 clear ho
 conv=>whnf
 refine A3 3 8 (Al n) E E E ?_
 refine T ?_
 refine C q1 F14 ?_
 refine⟨fun h=>?_,fun h=>?_⟩
 ·have hv2:(n.domains[(l[(0:Int).toNat]'hk0).domain.toNat]'hd.1.2).vlan≠(n.ports[port.toNat]'hp.2).native:=by simpa using h
  rw[if_pos hv2]at hres
  clear h hv hv2
  generalize tagT tk.1 (n.domains[(l[(0:Int).toNat]'hk0).domain.toNat]'hd.1.2).vlan=tg at *
  subst hres
  refine T ?_
  refine C q2 F121 ?_
  refine C q3 F122 ?_
  refine Ai (Ak [(0,55)] E F45 q4 E Y E ⟨.inr E,Y⟩) E E ?_
  refine Au 55 E ?_
  refine T ?_
  refine Bc 6 [Aa 1,Aa port,Aa 0,Aa 0,.sl 1 Ao (Qp tg.1),.sl 1 Ad []] E (.cons (.refl _) (.cons (.refl _) (.cons (.refl _) (.cons (.refl _) (.cons (.refl _) (.cons .nil .nil)))))) ?_
  exact D
 ·have hv2:¬ (n.domains[(l[(0:Int).toNat]'hk0).domain.toNat]'hd.1.2).vlan≠(n.ports[port.toNat]'hp.2).native:=by simpa using h
  rw[if_neg hv2]at hres
  subst hres
  refine T ?_
  refine Bc 6 [Aa 1,Aa port,Aa 0,Aa 0,.sl 1 Ao bb.1,.sl 1 Ad []] E (.cons (.refl _) (.cons (.refl _) (.cons (.refl _) (.cons (.refl _) (.cons (.refl _) (.cons .nil .nil)))))) ?_
  exact D
abbrev stO (n:Net) (s:GoM):Obs:=[(0,.box (L7 n 1 s.m.now s.m.injected s.m.drops)),(1,.box (Ih n s.m.up s.d)),(2,.row 1 Kd s.m.tables),(3,.row 1 Lw s.m.queues),(5,.box [.ptr 0 0]),(6,.box [.osl 7]),(7,.row 6 Ed s.out)]
abbrev stN (n:Net) (s:GoM):Obs:=[(0,.box (L7 n 4 s.m.now s.m.injected s.m.drops)),(1,.non),(2,.row 1 Kd s.m.tables),(3,.row 1 Lw s.m.queues),(4,.box (Ih n s.m.up s.d)),(5,.box [.ptr 0 0]),(6,.box [.osl 8]),(7,.non),(8,.row 6 Ed s.out)]
abbrev doSV:SV:=.clo (.func 51) [] [.ptr 5 0,.ptr 6 0]
abbrev pkO (n:Net) (s:GoM):Obs:=[(0,.box (L7 n 1 s.m.now s.m.injected s.m.drops)),(1,.box (Ih n s.m.up s.d)),(2,.row 1 Kd s.m.tables),(3,.row 1 Lw s.m.queues),(5,.box [.ptr 0 0]),(6,.box [.osl 7]),(7,.row 6 Ed s.out),(9,.box [doSV])]
abbrev pkN (n:Net) (s:GoM):Obs:=[(0,.box (L7 n 4 s.m.now s.m.injected s.m.drops)),(1,.non),(2,.row 1 Kd s.m.tables),(3,.row 1 Lw s.m.queues),(4,.box (Ih n s.m.up s.d)),(5,.box [.ptr 0 0]),(6,.box [.osl 8]),(7,.non),(8,.row 6 Ed s.out),(9,.box [doSV])]
theorem Ak0 (n:Net) (hn:n.Fin) (hm1:n.Num) (s:GoM) (J D:Int) (hm0:MacOK n s.m J D) (hJ:J<900000000000) (hD0:0≤D) (hD:D≤900000000000) (hlen:s.out.length<1000000) (x:StepM) (hb:x.bytes.length<100000) :
  Sy.Spec Tryz.prog 51 [Ed x,.ptr 5 0,.ptr 6 0] (stO n s) (.tup []) (stN n (doW n s x)):=Ab Γ hm 100 F51 Tryz.ntmps51 rfl fun F hF=>by
 have q1:=Alq n hn hm1 s.m s.d J D hm0 hJ hD0 hD x hb
 have hres:=doW.eq_1 n s x
 generalize doT n s.m x=r at *
 generalize doD n s.m s.d x=dd at *
 generalize doW n s x=res at *
 subst hres
 conv=>whnf
 refine X (Th (d:=900) E E E) ?_
 refine X (Ak [] E F52 q1 E W E V) ?_
 refine X (Am Γ.toTy 8 E E E E E (.row E) (.lit (e:=Ed) (l:=[x]) E E) qy (by simp;omega) (by simp;omega)) ?_
 exact Ba E .nil [] (stN n ⟨r.1,dd,s.out++[x]⟩) (fun _ h=>h) E E U
theorem An0 (n:Net) (hn:n.Fin) (hm1:n.Num) (m:MacM) (d:Bool) (J D:Int) (hm0:MacOK n m J D) (hJ:J<900000000000) (hD0:0≤D) (hD:D≤900000000000) (x:StepM) (hb:x.bytes.length<100000) :
  Sy.Spec Tryz.prog 51 [Ed x,.ptr 5 0,.ptr 6 0] [(0,.box (L7 n 1 m.now m.injected m.drops)),(1,.box (Ih n m.up d)),(2,.row 1 Kd m.tables),(3,.row 1 Lw m.queues),(5,.box [.ptr 0 0]),(6,.box [.val (.slice none 0 0)])] (.tup [])
   [(0,.box (L7 n 4 (doW n ⟨m,d,[]⟩ x).m.now (doW n ⟨m,d,[]⟩ x).m.injected (doW n ⟨m,d,[]⟩ x).m.drops)),(1,.non),(2,.row 1 Kd (doW n ⟨m,d,[]⟩ x).m.tables),(3,.row 1 Lw (doW n ⟨m,d,[]⟩ x).m.queues),(4,.box (Ih n (doW n ⟨m,d,[]⟩ x).m.up (doW n ⟨m,d,[]⟩ x).d)),(5,.box [.ptr 0 0]),(6,.box [.osl 8]),(8,.row 6 Ed (doW n ⟨m,d,[]⟩ x).out)]:=Ab Γ hm 100 F51 Tryz.ntmps51 rfl fun F hF=>by
 have q1:=Alq n hn hm1 m d J D hm0 hJ hD0 hD x hb
 have hres:=doW.eq_1 n ⟨m,d,[]⟩ x
 dsimp only at hres
 generalize doT n m x=r at *
 generalize doD n m d x=dd at *
 generalize doW n ⟨m,d,[]⟩ x=res at *
 subst hres
 conv=>whnf
 refine X (Th (d:=900) E E E) ?_
 refine X (Ak [] E F52 q1 E W E V) ?_
 refine X (Am Γ.toTy 8 E E E E E .nil (.lit (e:=Ed) (l:=[x]) E E) qy qy qy) ?_
 exact Ba E .nil [] [(0,.box (L7 n 4 r.1.now r.1.injected r.1.drops)),(1,.non),(2,.row 1 Kd r.1.tables),(3,.row 1 Lw r.1.queues),(4,.box (Ih n r.1.up dd)),(5,.box [.ptr 0 0]),(6,.box [.osl 8]),(8,.row 6 Ed ([]++[x]))] (fun _ h=>h) E E U
theorem Aka {P:Program} {o:Oper} {s:SS} {x y:Operand} {at_:Array TypeId} {k k':IntKind} {m n r:Int} (hr:(if m<n then n else m)=r) (h:o.op=.call ⟨.builtin .max,#[x,y],at_⟩)
  (hx:ev s x=.val (.int k m)) (hy:ev s y=.val (.int k' n)):Good P o s ⟨.val (.int k r),[],[]⟩:=by
 subst hr
 exact Good.pure fun κ a w _ hr ho=>by
  have h1:=hr x (by simp[h,Op.operands,Call.operands])
  have h2:=hr y (by simp[h,Op.operands,Call.operands])
  rw[hx]at h1
  rw[hy]at h2
  refine⟨.int k (if m<n then n else m),?_,by simp[Rd]⟩
  simp[execOp,h,resolve,invoke,builtin,Builtin.max_,Builtin.max2,h1.val,h2.val]
theorem Wi (n:Net) (hn:n.Fin) (hm1:n.Num) (s:GoM) (J D:Int) (hm0:MacOK n s.m J D) (hJ:J<900000000000) (hD0:0≤D) (hD:D≤900000000000) (hlen:s.out.length<1000000) (dom:Int) :
  Sy.Spec Tryz.prog 53 [Aa dom,.ptr 9 0,.ptr 5 0] (pkO n s) (.tup []) (pkN n (Xc n s dom)):=Ab Γ hm 100 F53 Tryz.ntmps53 rfl fun F hF=>by
 have hqo:=Eo hm0 dom
 have q1:=Aiw n s.m s.d dom hqo
 have q2:=Ak0 n hn hm1 s J D hm0 hJ hD0 hD hlen (pickX s.m dom) (by show 0<100000;decide)
 rw[Xc]
 generalize doW n s (pickX s.m dom)=res at *
 have hpx:=pickX.eq_1 s.m dom
 have hql:(if Aj dom s.m.queues.length=true then queueL s.m dom else []).length<1000000:=by
  have:=hqo.1
  split
  ·omega
  ·simp
 generalize (if Aj dom s.m.queues.length=true then queueL s.m dom else [])=qs at *
 obtain ⟨v,hv⟩:∃ v:Int,(if (qs.length:Int)-1<0 then 0 else (qs.length:Int)-1)=v:=⟨_,rfl⟩
 rw[hv]at hpx
 generalize pickX s.m dom=px at *
 subst hpx
 refine T ?_
 refine Xe (Ak [] E F54 q1 E W E V) ?_
 refine Xd (Aka hv E E E) ?_
 refine Xd (Hj [] [] (Cu E E F51) q2 (.cons (.agg (.cons (.refl _) (.cons (.refl _) (.cons (.refl _) (.cons (.refl _) (.cons .nil (.cons .nil .nil))))))) (.cons (.refl _) (.cons (.refl _) .nil))) W E V E) ?_
 exact Ba E .nil [] (pkN n res) (fun _ h=>h) E E U
end Go.Sy.YteinjapglfkamaaGreat
namespace Go.Sy.YteinjapglfkamaaGreat
open Go.Proofs
theorem Abo {n:Net} (hn:n.Fin) (hm1:n.Num) {s:GoM} {J D:Int} (h:MacOK n s.m J D) (hJ:0≤J) (hD:0≤D) (x:StepM):MacOK n (doW n s x).m (J+1) (D+4294967298)∧(doW n s x).out.length=s.out.length+1 :=
 ⟨doT_ok hn hm1 h hJ hD x,by simp[doW]⟩
theorem Amo {n:Net} (hn:n.Fin) (hm1:n.Num) {s:GoM} {J D:Int} (h:MacOK n s.m J D) (hJ:0≤J) (hD:0≤D) (x:Hop):MacOK n (linkW n s x).m (J+1) (D+4294967298)∧(linkW n s x).out.length≤s.out.length+1:=by
 unfold linkW
 split
 ·have:=Abo hn hm1 h hJ hD ⟨5,0,0,0,[],upW n x⟩
  exact⟨this.1,by omega⟩
 ·exact⟨h.mono qn qn,by omega⟩
theorem Am4 {n:Net} (hn:n.Fin) (hm1:n.Num) (from_:Int) (l:List Hop):∀ k:Nat,MacOK n (goW n from_ l k).m (1+2 * k) ((1+2 * k) * 4294967298)∧(goW n from_ l k).out.length≤1+2 * k
 | 0=>by
  have:=Abo hn hm1 (s:=⟨newT n,false,[]⟩) (Ahx n) (Int.le_refl _) (Int.le_refl _) (injectW n from_ l)
  rw[goW]
  exact⟨this.1.mono qn qn,by rw[this.2];simp⟩
 | k+1=>by
  obtain ⟨h1,h2⟩:=Am4 hn hm1 from_ l k
  rw[goW]
  have h3:=Amo hn hm1 h1 qn qn (nth l ((k+1:Nat):Int))
  have h4:=Abo hn hm1 h3.1 qn qn (pickX (linkW n (goW n from_ l k) (nth l ((k+1:Nat):Int))).m (nth l ((k:Nat):Int)).domain)
  refine⟨h4.1.mono qn qn,?_⟩
  have h5:=h4.2
  unfold Xc
  omega
theorem Ad2 {n:Net} (hu:Df n) (hb:Ae n=true) (from_:Int) {l:List Hop} (h0:0<l.length) (hla:∀ h∈l,T1 n h):(injectW n from_ l).bytes.length<100000:=by
 have hk0:(0:Int).toNat<l.length:=h0
 have hd:=hla _ (List.getElem_mem hk0)
 have hv:=Qy hb hd.1.2
 show (if _ then _ else _:List UInt8).length<100000
 rw[Ah hk0,Ah hd.1.2]
 obtain ⟨ve,hve⟩:∃ v:Nat,(n.domains[(l[(0:Int).toNat]'hk0).domain.toNat]'hd.1.2).vlan=v:=⟨_,(Int.toNat_of_nonneg qn).symm⟩
 rw[hve]
 split
 ·rw[Hg]
  have:=(Acg (Zc (wayBytes n l).1) ve qn).body
  omega
 ·have:=Q9 (n:=n) hu l
  omega
attribute [local irreducible] Go.Sy.G Go.Sy.DR
set_option maxRecDepth 100000
set_option maxHeartbeats 8000000
theorem Wh (n:Net) (hn:n.Fin) (hm1:n.Num) (hu:Df n) (from_ to:Int) :
  Sy.Spec Tryz.prog 16 [Al n,Aa from_,Aa to] [] (.tup [.sl 6 Ed (wscriptT n from_ to).1,Aa (wscriptT n from_ to).2]) []:=Ab Γ hm 100 F16 Tryz.ntmps16 rfl fun F hF=>by
 have hlk:=wscriptT.eq_1 n from_ to
 generalize wscriptT n from_ to=res at *
 have h1:=Q8 n from_
 have h2:=Q8 n to
 have hls:=hn.links
 unfold An at hls
 conv=>whnf
 refine A3 3 8 (Al n) E E E ?_
 refine T ?_
 refine C h1 F22 ?_
 cases hf:Hv n from_
 ·rw[if_neg (fun x=>by rw[hf]at x;cases x.1)]at hlk
  subst hlk
  refine T ?_
  refine Ap 6 6 Ed E ?_
  exact D
 refine T ?_
 refine C h2 F22 ?_
 cases ht:Hv n to
 ·rw[if_neg (fun x=>by rw[ht]at x;cases x.2.1)]at hlk
  subst hlk
  refine T ?_
  refine Ap 6 6 Ed E ?_
  exact D
 refine T ?_
 refine⟨fun h=>?_,fun h=>?_⟩
 ·rw[if_neg (fun x=>x.2.2.1 (by simpa using h))]at hlk
  subst hlk
  refine T ?_
  refine Ap 6 6 Ed E ?_
  exact D
 have hne:from_≠to:=by simpa using h
 clear h
 refine T ?_
 cases hok:okB n (upsT n)
 ·rw[if_neg (fun x=>by rw[hok]at x;cases x.2.2.2)]at hlk
  subst hlk
  refine C (Afg n hn hok) F50 ?_
  refine Ap 6 6 Ed E ?_
  exact D
 rw[if_pos ⟨hf,ht,hne,hok⟩]at hlk
 refine X (Ak [(0,800),(1,801),(2,802),(3,803)] E F50 (Aod n hn hok) E Y E V) ?_
 have q2:=wayS n hn hu from_ to
 have hfac:=@wayT_facts n hu from_ to
 have hlnk:=@way_links n from_ to
 have hsh:An (wayT n from_ to).1∨True:=.inr trivial
 generalize wayT n from_ to=wr at *
 obtain ⟨l,ok⟩:=wr
 cases ok
 ·rw[if_neg qy]at hlk
  subst hlk
  refine C q2 F9 ?_
  refine Ap 6 6 Ed E ?_
  exact D
 rw[if_pos rfl]at hlk
 obtain ⟨hla,hlen,hlne,hb⟩:=hfac rfl
 have hlk2:=hlnk rfl
 clear hfac hlnk hsh
 dsimp only at *
 have hfe:=Ah8 hb
 have h0:0<l.length:=List.length_pos_iff.2 hlne
 have hsl:An l:=by unfold An;omega
 have hp:=Mo hf
 have q3:=Ae9 n hn hu hb from_ hp l hsl hla h0
 have q4:=An0 n hn hm1 (newT n) false 0 0 (Ahx n) qn qn qn (injectW n from_ l) (Ad2 hu hb from_ h0 hla)
 rw[show doW n ⟨newT n,false,[]⟩ (injectW n from_ l)=goW n from_ l 0 from rfl]at q4
 refine C q2 F9 ?_
 refine C q3 F55 ?_
 refine Xd (Cc [(0,800),(1,801),(2,802),(3,803),(4,804),(5,8),(6,12),(8,805)] (Cu E E F51) q4 E W E V) ?_
 have hdl:(l.drop 1).length=l.length-1:=by simp
 refine X (Qc (lo:=1) (hi:=l.length) Γ.toTy (l.drop 1) E E E E (.inr ⟨_,_,E,E⟩) (.inl ⟨E,E⟩) qn (Nat.le_refl _) (by rw[List.take_length])) ?_
 clear q2 q3 q4
 refine Aw (l.drop 1).length (fun j=>[(3,.ref 8 (Al n) 0),(10,.sl 4 A6 l),(12,.ptr 6 0),(13,.ptr 9 0),(14,.clo (.func 53) [] [.ptr 9 0,.ptr 5 0]),(58,.sl 4 A6 (l.drop 1)),(59,Aa (l.drop 1).length),(60,Aa j)]) (fun j=>pkO n (goW n from_ l j))
  [(0,800),(1,804),(2,802),(3,803),(5,8),(6,12),(7,805),(9,13)] U ?_
 intro j hj
 obtain ⟨hm0,hol⟩:=Am4 hn hm1 from_ l j
 refine T ?_
 refine⟨fun h=>?_,fun h=>?_⟩
 ·have hlt:j<(l.drop 1).length:=by have:=of_decide_eq_true h;omega
  have hj0:((j:Nat):Int).toNat<(l.drop 1).length:=by simpa using hlt
  have hk1:((j+1:Nat):Int).toNat<l.length:=by omega
  have hk0:((j:Nat):Int).toNat<l.length:=by omega
  have hgs:goW n from_ l (j+1)=Xc n (linkW n (goW n from_ l j) (l[((j+1:Nat):Int).toNat]'hk1)) (l[((j:Nat):Int).toNat]'hk0).domain:=by rw[goW,Ah hk1,Ah hk0]
  have e1:(l.drop 1)[((j:Nat):Int).toNat]'hj0=l[((j+1:Nat):Int).toNat]'hk1:=by
   rw[List.getElem_drop]
   congr 1
   omega
  have hxl:=hlk2 _ (List.getElem_mem hk1)
  generalize l[((j+1:Nat):Int).toNat]'hk1=x at *
  generalize goW n from_ l j=s at *
  have hgl:=linkW.eq_1 n s x
  clear h
  refine S ?_
  refine⟨E,by omega,hj0,?_⟩
  rw[e1]
  refine T ?_
  refine⟨fun h=>?_,fun h=>?_⟩
  ·have hk:x.kind=1:=by simpa using h
   rw[if_pos hk]at hgl
   obtain ⟨hp1,hl0,hl1⟩:=hxl hk
   have hup:=upW.eq_1 n x
   rw[Ah hp1.2]at hl0 hl1 hup
   have q6:=Ak0 n hn hm1 s _ _ hm0 qn qn qn qn ⟨5,0,0,0,[],upW n x⟩ (by show 0<100000;decide)
   obtain ⟨hm2,hol2⟩:=Abo hn hm1 hm0 qn qn ⟨5,0,0,0,[],upW n x⟩
   rw[← hgl]at q6 hm2 hol2
   rw[hup]at q6
   clear hgl hup
   generalize linkW n s x=s1 at *
   have q7:=Wi n hn hm1 s1 _ _ hm2 qn qn qn qn (l[((j:Nat):Int).toNat]'hk0).domain
   rw[← hgs]at q7
   clear h
   refine T ?_
   refine X (Br Γ.toTy (d:=71) (n:=n.links.length) Ad false E E E E E E E E qn qn E E E) ?_
   refine⟨by rw[List.length_replicate];exact hl1,?_⟩
   conv=>whnf
   refine⟨E,(by rw[List.length_replicate];exact hl1),true,E,E,?_⟩
   refine T ?_
   refine Au 71 E ?_
   refine X (Hj [(4,40),(8,41)] [] (Cu E E F51) q6 (.cons (.agg (.cons (.refl _) (.cons (.refl _) (.cons (.refl _) (.cons (.refl _) (.cons .nil (.cons (.refl _) .nil))))))) (.cons (.refl _) (.cons (.refl _) .nil))) W E V E) ?_
   refine X (Cc [(1,40),(7,41),(4,42),(8,43)] (Cu E E F53) q7 E W E V) ?_
   exact Ar [(1,42),(7,43)] hlt U
  ·have hk:¬ x.kind=1:=by simpa using h
   rw[if_neg hk]at hgl
   rw[hgl]at hgs
   have q7:=Wi n hn hm1 s _ _ hm0 qn qn qn qn (l[((j:Nat):Int).toNat]'hk0).domain
   rw[← hgs]at q7
   clear h
   refine T ?_
   refine X (Cc [(4,42),(8,43)] (Cu E E F53) q7 E W E V) ?_
   exact Ar [(1,42),(7,43)] hlt U
 ·have hjj:j=(l.drop 1).length:=by have:=of_decide_eq_false h;omega
  subst hjj
  have hkl:((l.length:Int)-1).toNat<l.length:=by omega
  have hend:Ao5 n from_ l=Xc n (goW n from_ l (l.drop 1).length) (l[((l.length:Int)-1).toNat]'hkl).domain:=by rw[Ao5,Ah hkl,hdl]
  have q7:=Wi n hn hm1 _ _ _ hm0 qn qn qn qn (l[((l.length:Int)-1).toNat]'hkl).domain
  rw[← hend]at q7
  clear hend
  generalize Ao5 n from_ l=s2 at *
  generalize goW n from_ l (l.drop 1).length=s at *
  subst hlk
  clear h
  refine T ?_
  refine X (Cc [(4,42),(8,43)] (Cu E E F53) q7 E W E V) ?_
  refine Au 43 E ?_
  exact D
end Go.Sy.YteinjapglfkamaaGreat
namespace Go.Sy
open Go.ChangeShapes Go.WideShapes Go.ChangeAt Go.RowKit
section
variable {H:Type} (enc:TypeId × Value→H) (P:Program) (W:World)
def Op1 (t:TypeId) {α:Type} (e:α→SV) (p:α→Prop):Prop :=
 ∀ n c y,DataW.trod enc P W 0 (fun _=>true) true n t [c]=some y→∃ x,p x∧Rd κ0 W (e x) c∧c.oneCell'=true
def OpN (t:TypeId) {α:Type} (e:α→SV) (p:α→Prop) (sz:Nat):Prop :=
 ∀ n cs y,DataW.trod enc P W 0 (fun _=>true) true n t cs=some y→∃ x,p x∧cs.length=sz∧Ones cs∧RdL κ0 W (cellsOf (e x)) cs
variable {enc P W}
theorem Cb {t:TypeId} {k:IntKind} (ht:P.underlying t=some (.int k)):Op1 enc P W t (fun z=>.val (.int k z)) (fun z=>(Lit.int k z).wf=true):=fun n c y h=>by
 obtain ⟨z,e,_,hw⟩:=DataW.trod_int ht h
 have e:c=.int k z:=by simpa using e
 subst e
 exact⟨z,hw,by simp[Rd],E⟩
theorem Af2 {t:TypeId} (ht:P.underlying t=some .string):Op1 enc P W t Ze (fun s=>s.size≤maxLen):=fun n c y h=>by
 obtain ⟨z,e,_,hw⟩:=DataW.trod_string ht h
 have e:c=.string z:=by simpa using e
 subst e
 exact⟨z,hw,by simp[Ze,Rd],E⟩
theorem Ahw {t:TypeId} {k:IntKind} (ht:P.underlying t=some (.int k)):OpN enc P W t (fun z=>.val (.int k z)) (fun z=>(Lit.int k z).wf=true) 1:=fun n cs y h=>by
 obtain ⟨z,rfl,_,hw⟩:=DataW.trod_int ht h
 refine⟨z,hw,E,fun c hc=>by simp at hc;subst hc;rfl,?_⟩
 simp[cellsOf,RdL,Rd]
theorem Z9 {base:Nat} {a:Addr} {n:Nat} {cs:List Value} (h:W.cells? base a n=some cs):cs.length=n∧∀ j (_:j<n),W.cell? (a.add j)=cs[j]?:=by
 unfold World.cells? at h
 split at h
 ·refine⟨by simpa using mapM_some_length h,fun j hj=>?_⟩
  exact mapM_some_get h j j (by simp[hj])
 ·cases h
theorem E0 {t et:TypeId} {α:Type} {e:α→SV} {p:α→Prop} {sz:Nat} (ht:P.underlying t=some (.slice et)) (hsz:P.cellsOf et=sz) (h0:0<sz) (hb:∀ x,(e x).boxed=true) (hd:∀ x,(e x).data=true) (hO:OpN enc P W et e p sz) :
  Op1 enc P W t (fun l:List α=>.sl sz e l) (fun l=>(∀ x∈l,p x)∧l.length≤maxLen):=fun n c y h=>by
 rcases DataW.trod_slice ht h with ⟨hcs,_⟩ | ⟨a,len,cap,elems,rest,m,rfl,hcs,_,_,hlc,hcm,hel,hget,_⟩
 ·have hc:c=.slice none 0 0:=by simpa using hcs
  subst hc
  refine⟨[],⟨by simp,Nat.zero_le _⟩,?_,E⟩
  simp only[Rd,RdD]
  exact .inl ⟨Y,none,0,E⟩
 ·have hc:c=.slice (some a) len cap:=by simpa using hcs
  subst hc
  rw[hsz]at hget
  have hall:∀ i:Fin len,∃ x,p x∧∃ cs,W.cells? 0 (a.add (i * sz)) sz=some cs∧cs.length=sz∧Ones cs∧RdL κ0 W (cellsOf (e x)) cs:=fun i=>by
   have h1:=hget i.1 i.2
   rw[List.getElem?_eq_getElem qn]at h1
   obtain ⟨cs,h2,h3⟩:=Option.bind_eq_some_iff.1 h1
   obtain ⟨x,h4,h5,h6,h7⟩:=hO _ _ _ h3
   exact⟨x,h4,cs,h2,h5,h6,h7⟩
  let xs:Fin len→α:=fun i=>Classical.choose (hall i)
  have hxs:∀ i,p (xs i)∧∃ cs,W.cells? 0 (a.add (i.1 * sz)) sz=some cs∧cs.length=sz∧Ones cs∧RdL κ0 W (cellsOf (e (xs i))) cs:=fun i=>Classical.choose_spec (hall i)
  refine⟨List.ofFn xs,⟨fun x hx=>?_,by simp;omega⟩,?_,E⟩
  ·obtain ⟨i,rfl⟩:=List.mem_ofFn.1 hx
   exact(hxs i).1
  ·simp only[Rd,RdD]
   by_cases hl:len=0
   ·subst hl
    exact .inl ⟨by simp,_,_,E⟩
   ·have hcell:∀ i:Fin len,∀ j,j<sz→∃ v,W.cell? ((a.add (i.1 * sz)).add j)=some v:=fun i j hj=>by
     obtain ⟨_,cs,h1,h2,_⟩:=hxs i
     have:=(Z9 h1).2 j hj
     rw[List.getElem?_eq_getElem qn]at this
     exact⟨_,this⟩
    obtain ⟨b,off,spot⟩:=a
    have hspot:spot=none:=by
     obtain ⟨v,hv⟩:=hcell ⟨0,by omega⟩ 0 h0
     simpa [Addr.add] using World.cell?_spot hv
    subst hspot
    have hadd:∀ i j,((⟨b,off,none⟩:Addr).add i).add j=⟨b,off+i+j,none⟩:=fun i j=>by rw[Addr.add_lit,Addr.add_lit]
    refine .inr ⟨b,off,cap,by simp,by simpa using hlc,?_,?_,fun i hi=>?_⟩
    ·rintro (⟨k,hk⟩ | hk)
     ·cases hk
     ·exact hk
    ·obtain ⟨v,hv⟩:=hcell ⟨0,by omega⟩ 0 h0
     rw[hadd]at hv
     rcases Nat.lt_or_ge b W.heap.size with h | h
     ·exact h
     ·simp[World.cell?,Array.getElem?_eq_none h]at hv
    ·simp only[List.length_ofFn]at hi
     obtain ⟨_,cs,h1,h2,h3,h4⟩:=hxs ⟨i,hi⟩
     obtain ⟨u,g1,g2⟩:=Rd.of_cells (hb _) h3 h4
     refine⟨u,?_,?_,by rw[g2];exact h3,fun j hj=>?_⟩
     ·rw[List.getElem_ofFn]
      exact Rd.data _ _ (hd _) g1
     ·have:u.cells.toList.length=sz:=by rw[g2,h2]
      simpa using this
     ·have:=(Z9 h1).2 j hj
      rw[hadd]at this
      rw[this,← g2]
      simp
end
end Go.Sy
namespace Go.Sy.YteinjapglfkamaaGreat
open Go.Proofs Go.ChangeShapes Go.WideShapes Go.ChangeAt Go.RowKit
set_option maxRecDepth 100000
section
variable {H:Type} {enc:TypeId × Value→H} {W:World}
def wI (k:IntKind) (z:Int):Prop:=(Lit.int k z).wf=true
theorem V7:Op1 enc Tryz.prog W 56 (fun l:List Int=>.sl 1 (fun z=>.val (.int .i64 z)) l) (fun l=>(∀ z∈l,wI .i64 z)∧l.length≤maxLen) :=
 E0 Tryz.underlying56 (by kernel_rfl:Tryz.prog.cellsOf 3=1) qx (fun _=>rfl) (fun _=>rfl) (Ahw Tryz.underlying3)
theorem Aok:Op1 enc Tryz.prog W 70 (fun l:List Int=>.sl 1 (fun z=>.val (.int .u32 z)) l) (fun l=>(∀ z∈l,wI .u32 z)∧l.length≤maxLen) :=
 E0 Tryz.underlying70 (by kernel_rfl:Tryz.prog.cellsOf 75=1) qx (fun _=>rfl) (fun _=>rfl) (Ahw Tryz.underlying75)
def Device.In (x:Device):Prop:=wI .i64 x.row∧wI .i64 x.prio∧x.name.size≤maxLen∧wI .u64 x.mac∧wI .u32 x.vtep
theorem Af5:OpN enc Tryz.prog W 77 Bm Device.In 5:=fun n cs y h=>by
 obtain ⟨xs,m,_,_,hlen,hx,hg⟩:=DataW.trod_struct Tryz.underlying77 h
 have hlen:cs.length=5:=hlen.trans (by kernel_rfl:Tryz.prog.cellsOf 77=5)
 have hx:xs.length=5:=hx
 match cs,hlen with
 | [c0,c1,c2,c3,c4],_ =>
  have g0:DataW.trod enc Tryz.prog W 0 (fun _=>true) true m 3 (([c0,c1,c2,c3,c4].drop 0).take (Tryz.prog.cellsOf 3))=xs[0]?:=hg 0 _ rfl
  rw[(by kernel_rfl:Tryz.prog.cellsOf 3=1),List.getElem?_eq_getElem qn]at g0
  obtain ⟨z0,p0,r0,o0⟩:=Cb Tryz.underlying3 _ _ _ g0
  have g1:DataW.trod enc Tryz.prog W 0 (fun _=>true) true m 3 (([c0,c1,c2,c3,c4].drop 1).take (Tryz.prog.cellsOf 3))=xs[1]?:=hg 1 _ rfl
  rw[(by kernel_rfl:Tryz.prog.cellsOf 3=1),List.getElem?_eq_getElem qn]at g1
  obtain ⟨z1,p1,r1,o1⟩:=Cb Tryz.underlying3 _ _ _ g1
  have g2:DataW.trod enc Tryz.prog W 0 (fun _=>true) true m 9 (([c0,c1,c2,c3,c4].drop 2).take (Tryz.prog.cellsOf 9))=xs[2]?:=hg 2 _ rfl
  rw[(by kernel_rfl:Tryz.prog.cellsOf 9=1),List.getElem?_eq_getElem qn]at g2
  obtain ⟨z2,p2,r2,o2⟩:=Af2 Tryz.underlying9 _ _ _ g2
  have g3:DataW.trod enc Tryz.prog W 0 (fun _=>true) true m 57 (([c0,c1,c2,c3,c4].drop 3).take (Tryz.prog.cellsOf 57))=xs[3]?:=hg 3 _ rfl
  rw[(by kernel_rfl:Tryz.prog.cellsOf 57=1),List.getElem?_eq_getElem qn]at g3
  obtain ⟨z3,p3,r3,o3⟩:=Cb Tryz.underlying57 _ _ _ g3
  have g4:DataW.trod enc Tryz.prog W 0 (fun _=>true) true m 75 (([c0,c1,c2,c3,c4].drop 4).take (Tryz.prog.cellsOf 75))=xs[4]?:=hg 4 _ rfl
  rw[(by kernel_rfl:Tryz.prog.cellsOf 75=1),List.getElem?_eq_getElem qn]at g4
  obtain ⟨z4,p4,r4,o4⟩:=Cb Tryz.underlying75 _ _ _ g4
  refine⟨⟨z0,z1,z2,z3,z4⟩,⟨p0,p1,p2,p3,p4⟩,E,fun c hc=>?_,?_⟩
  ·simp only[List.mem_cons,List.not_mem_nil,or_false]at hc
   rcases hc with rfl | rfl | rfl | rfl | rfl<;>assumption
  ·simp only[Bm,cellsOf,RdL]
   exact⟨_,_,E,r0,_,_,E,r1,_,_,E,r2,_,_,E,r3,_,_,E,r4,E⟩
def Port.In (x:Port):Prop:=wI .i64 x.row∧wI .i64 x.dev∧wI .i64 x.native∧wI .i64 x.cost∧wI .i64 x.link∧x.name.size≤maxLen∧((∀ z∈x.tagged,wI .i64 z)∧x.tagged.length≤maxLen)
theorem Al8:OpN enc Tryz.prog W 67 A5 Port.In 7:=fun n cs y h=>by
 obtain ⟨xs,m,_,_,hlen,hx,hg⟩:=DataW.trod_struct Tryz.underlying67 h
 have hlen:cs.length=7:=hlen.trans (by kernel_rfl:Tryz.prog.cellsOf 67=7)
 have hx:xs.length=7:=hx
 match cs,hlen with
 | [c0,c1,c2,c3,c4,c5,c6],_ =>
  have g0:DataW.trod enc Tryz.prog W 0 (fun _=>true) true m 3 (([c0,c1,c2,c3,c4,c5,c6].drop 0).take (Tryz.prog.cellsOf 3))=xs[0]?:=hg 0 _ rfl
  rw[(by kernel_rfl:Tryz.prog.cellsOf 3=1),List.getElem?_eq_getElem qn]at g0
  obtain ⟨z0,p0,r0,o0⟩:=Cb Tryz.underlying3 _ _ _ g0
  have g1:DataW.trod enc Tryz.prog W 0 (fun _=>true) true m 3 (([c0,c1,c2,c3,c4,c5,c6].drop 1).take (Tryz.prog.cellsOf 3))=xs[1]?:=hg 1 _ rfl
  rw[(by kernel_rfl:Tryz.prog.cellsOf 3=1),List.getElem?_eq_getElem qn]at g1
  obtain ⟨z1,p1,r1,o1⟩:=Cb Tryz.underlying3 _ _ _ g1
  have g2:DataW.trod enc Tryz.prog W 0 (fun _=>true) true m 3 (([c0,c1,c2,c3,c4,c5,c6].drop 2).take (Tryz.prog.cellsOf 3))=xs[2]?:=hg 2 _ rfl
  rw[(by kernel_rfl:Tryz.prog.cellsOf 3=1),List.getElem?_eq_getElem qn]at g2
  obtain ⟨z2,p2,r2,o2⟩:=Cb Tryz.underlying3 _ _ _ g2
  have g3:DataW.trod enc Tryz.prog W 0 (fun _=>true) true m 3 (([c0,c1,c2,c3,c4,c5,c6].drop 3).take (Tryz.prog.cellsOf 3))=xs[3]?:=hg 3 _ rfl
  rw[(by kernel_rfl:Tryz.prog.cellsOf 3=1),List.getElem?_eq_getElem qn]at g3
  obtain ⟨z3,p3,r3,o3⟩:=Cb Tryz.underlying3 _ _ _ g3
  have g4:DataW.trod enc Tryz.prog W 0 (fun _=>true) true m 3 (([c0,c1,c2,c3,c4,c5,c6].drop 4).take (Tryz.prog.cellsOf 3))=xs[4]?:=hg 4 _ rfl
  rw[(by kernel_rfl:Tryz.prog.cellsOf 3=1),List.getElem?_eq_getElem qn]at g4
  obtain ⟨z4,p4,r4,o4⟩:=Cb Tryz.underlying3 _ _ _ g4
  have g5:DataW.trod enc Tryz.prog W 0 (fun _=>true) true m 9 (([c0,c1,c2,c3,c4,c5,c6].drop 5).take (Tryz.prog.cellsOf 9))=xs[5]?:=hg 5 _ rfl
  rw[(by kernel_rfl:Tryz.prog.cellsOf 9=1),List.getElem?_eq_getElem qn]at g5
  obtain ⟨z5,p5,r5,o5⟩:=Af2 Tryz.underlying9 _ _ _ g5
  have g6:DataW.trod enc Tryz.prog W 0 (fun _=>true) true m 56 (([c0,c1,c2,c3,c4,c5,c6].drop 6).take (Tryz.prog.cellsOf 56))=xs[6]?:=hg 6 _ rfl
  rw[(by kernel_rfl:Tryz.prog.cellsOf 56=1),List.getElem?_eq_getElem qn]at g6
  obtain ⟨z6,p6,r6,o6⟩:=V7 _ _ _ g6
  refine⟨⟨z0,z1,z2,z3,z4,z5,z6⟩,⟨p0,p1,p2,p3,p4,p5,p6⟩,E,fun c hc=>?_,?_⟩
  ·simp only[List.mem_cons,List.not_mem_nil,or_false]at hc
   rcases hc with rfl | rfl | rfl | rfl | rfl | rfl | rfl<;>assumption
  ·simp only[A5,cellsOf,RdL]
   exact⟨_,_,E,r0,_,_,E,r1,_,_,E,r2,_,_,E,r3,_,_,E,r4,_,_,E,r5,_,_,E,r6,E⟩
def Link.In (x:Link):Prop:=wI .i64 x.row∧wI .i64 x.a∧wI .i64 x.b
theorem Al9:OpN enc Tryz.prog W 167 Ch Link.In 3:=fun n cs y h=>by
 obtain ⟨xs,m,_,_,hlen,hx,hg⟩:=DataW.trod_struct Tryz.underlying167 h
 have hlen:cs.length=3:=hlen.trans (by kernel_rfl:Tryz.prog.cellsOf 167=3)
 have hx:xs.length=3:=hx
 match cs,hlen with
 | [c0,c1,c2],_ =>
  have g0:DataW.trod enc Tryz.prog W 0 (fun _=>true) true m 3 (([c0,c1,c2].drop 0).take (Tryz.prog.cellsOf 3))=xs[0]?:=hg 0 _ rfl
  rw[(by kernel_rfl:Tryz.prog.cellsOf 3=1),List.getElem?_eq_getElem qn]at g0
  obtain ⟨z0,p0,r0,o0⟩:=Cb Tryz.underlying3 _ _ _ g0
  have g1:DataW.trod enc Tryz.prog W 0 (fun _=>true) true m 3 (([c0,c1,c2].drop 1).take (Tryz.prog.cellsOf 3))=xs[1]?:=hg 1 _ rfl
  rw[(by kernel_rfl:Tryz.prog.cellsOf 3=1),List.getElem?_eq_getElem qn]at g1
  obtain ⟨z1,p1,r1,o1⟩:=Cb Tryz.underlying3 _ _ _ g1
  have g2:DataW.trod enc Tryz.prog W 0 (fun _=>true) true m 3 (([c0,c1,c2].drop 2).take (Tryz.prog.cellsOf 3))=xs[2]?:=hg 2 _ rfl
  rw[(by kernel_rfl:Tryz.prog.cellsOf 3=1),List.getElem?_eq_getElem qn]at g2
  obtain ⟨z2,p2,r2,o2⟩:=Cb Tryz.underlying3 _ _ _ g2
  refine⟨⟨z0,z1,z2⟩,⟨p0,p1,p2⟩,E,fun c hc=>?_,?_⟩
  ·simp only[List.mem_cons,List.not_mem_nil,or_false]at hc
   rcases hc with rfl | rfl | rfl<;>assumption
  ·simp only[Ch,cellsOf,RdL]
   exact⟨_,_,E,r0,_,_,E,r1,_,_,E,r2,E⟩
def Domain.In (x:Domain):Prop:=wI .i64 x.dev∧wI .i64 x.vlan∧wI .i64 x.vni∧wI .i64 x.irb∧wI .i64 x.row∧((∀ z∈x.peers,wI .i64 z)∧x.peers.length≤maxLen)
theorem Af4:OpN enc Tryz.prog W 69 At Domain.In 6:=fun n cs y h=>by
 obtain ⟨xs,m,_,_,hlen,hx,hg⟩:=DataW.trod_struct Tryz.underlying69 h
 have hlen:cs.length=6:=hlen.trans (by kernel_rfl:Tryz.prog.cellsOf 69=6)
 have hx:xs.length=6:=hx
 match cs,hlen with
 | [c0,c1,c2,c3,c4,c5],_ =>
  have g0:DataW.trod enc Tryz.prog W 0 (fun _=>true) true m 3 (([c0,c1,c2,c3,c4,c5].drop 0).take (Tryz.prog.cellsOf 3))=xs[0]?:=hg 0 _ rfl
  rw[(by kernel_rfl:Tryz.prog.cellsOf 3=1),List.getElem?_eq_getElem qn]at g0
  obtain ⟨z0,p0,r0,o0⟩:=Cb Tryz.underlying3 _ _ _ g0
  have g1:DataW.trod enc Tryz.prog W 0 (fun _=>true) true m 3 (([c0,c1,c2,c3,c4,c5].drop 1).take (Tryz.prog.cellsOf 3))=xs[1]?:=hg 1 _ rfl
  rw[(by kernel_rfl:Tryz.prog.cellsOf 3=1),List.getElem?_eq_getElem qn]at g1
  obtain ⟨z1,p1,r1,o1⟩:=Cb Tryz.underlying3 _ _ _ g1
  have g2:DataW.trod enc Tryz.prog W 0 (fun _=>true) true m 3 (([c0,c1,c2,c3,c4,c5].drop 2).take (Tryz.prog.cellsOf 3))=xs[2]?:=hg 2 _ rfl
  rw[(by kernel_rfl:Tryz.prog.cellsOf 3=1),List.getElem?_eq_getElem qn]at g2
  obtain ⟨z2,p2,r2,o2⟩:=Cb Tryz.underlying3 _ _ _ g2
  have g3:DataW.trod enc Tryz.prog W 0 (fun _=>true) true m 3 (([c0,c1,c2,c3,c4,c5].drop 3).take (Tryz.prog.cellsOf 3))=xs[3]?:=hg 3 _ rfl
  rw[(by kernel_rfl:Tryz.prog.cellsOf 3=1),List.getElem?_eq_getElem qn]at g3
  obtain ⟨z3,p3,r3,o3⟩:=Cb Tryz.underlying3 _ _ _ g3
  have g4:DataW.trod enc Tryz.prog W 0 (fun _=>true) true m 3 (([c0,c1,c2,c3,c4,c5].drop 4).take (Tryz.prog.cellsOf 3))=xs[4]?:=hg 4 _ rfl
  rw[(by kernel_rfl:Tryz.prog.cellsOf 3=1),List.getElem?_eq_getElem qn]at g4
  obtain ⟨z4,p4,r4,o4⟩:=Cb Tryz.underlying3 _ _ _ g4
  have g5:DataW.trod enc Tryz.prog W 0 (fun _=>true) true m 56 (([c0,c1,c2,c3,c4,c5].drop 5).take (Tryz.prog.cellsOf 56))=xs[5]?:=hg 5 _ rfl
  rw[(by kernel_rfl:Tryz.prog.cellsOf 56=1),List.getElem?_eq_getElem qn]at g5
  obtain ⟨z5,p5,r5,o5⟩:=V7 _ _ _ g5
  refine⟨⟨z0,z1,z2,z3,z4,z5⟩,⟨p0,p1,p2,p3,p4,p5⟩,E,fun c hc=>?_,?_⟩
  ·simp only[List.mem_cons,List.not_mem_nil,or_false]at hc
   rcases hc with rfl | rfl | rfl | rfl | rfl | rfl<;>assumption
  ·simp only[At,cellsOf,RdL]
   exact⟨_,_,E,r0,_,_,E,r1,_,_,E,r2,_,_,E,r3,_,_,E,r4,_,_,E,r5,E⟩
def Static.In (x:Static):Prop:=wI .i64 x.row∧wI .i64 x.domain∧wI .i64 x.port∧wI .u64 x.mac
theorem Af3:OpN enc Tryz.prog W 171 Bk Static.In 4:=fun n cs y h=>by
 obtain ⟨xs,m,_,_,hlen,hx,hg⟩:=DataW.trod_struct Tryz.underlying171 h
 have hlen:cs.length=4:=hlen.trans (by kernel_rfl:Tryz.prog.cellsOf 171=4)
 have hx:xs.length=4:=hx
 match cs,hlen with
 | [c0,c1,c2,c3],_ =>
  have g0:DataW.trod enc Tryz.prog W 0 (fun _=>true) true m 3 (([c0,c1,c2,c3].drop 0).take (Tryz.prog.cellsOf 3))=xs[0]?:=hg 0 _ rfl
  rw[(by kernel_rfl:Tryz.prog.cellsOf 3=1),List.getElem?_eq_getElem qn]at g0
  obtain ⟨z0,p0,r0,o0⟩:=Cb Tryz.underlying3 _ _ _ g0
  have g1:DataW.trod enc Tryz.prog W 0 (fun _=>true) true m 3 (([c0,c1,c2,c3].drop 1).take (Tryz.prog.cellsOf 3))=xs[1]?:=hg 1 _ rfl
  rw[(by kernel_rfl:Tryz.prog.cellsOf 3=1),List.getElem?_eq_getElem qn]at g1
  obtain ⟨z1,p1,r1,o1⟩:=Cb Tryz.underlying3 _ _ _ g1
  have g2:DataW.trod enc Tryz.prog W 0 (fun _=>true) true m 3 (([c0,c1,c2,c3].drop 2).take (Tryz.prog.cellsOf 3))=xs[2]?:=hg 2 _ rfl
  rw[(by kernel_rfl:Tryz.prog.cellsOf 3=1),List.getElem?_eq_getElem qn]at g2
  obtain ⟨z2,p2,r2,o2⟩:=Cb Tryz.underlying3 _ _ _ g2
  have g3:DataW.trod enc Tryz.prog W 0 (fun _=>true) true m 57 (([c0,c1,c2,c3].drop 3).take (Tryz.prog.cellsOf 57))=xs[3]?:=hg 3 _ rfl
  rw[(by kernel_rfl:Tryz.prog.cellsOf 57=1),List.getElem?_eq_getElem qn]at g3
  obtain ⟨z3,p3,r3,o3⟩:=Cb Tryz.underlying57 _ _ _ g3
  refine⟨⟨z0,z1,z2,z3⟩,⟨p0,p1,p2,p3⟩,E,fun c hc=>?_,?_⟩
  ·simp only[List.mem_cons,List.not_mem_nil,or_false]at hc
   rcases hc with rfl | rfl | rfl | rfl<;>assumption
  ·simp only[Bk,cellsOf,RdL]
   exact⟨_,_,E,r0,_,_,E,r1,_,_,E,r2,_,_,E,r3,E⟩
def Flood.In (x:Flood):Prop:=wI .i64 x.row∧wI .i64 x.dev∧wI .i64 x.vni∧((∀ z∈x.addrs,wI .u32 z)∧x.addrs.length≤maxLen)
theorem Ajq:OpN enc Tryz.prog W 72 Bw Flood.In 4:=fun n cs y h=>by
 obtain ⟨xs,m,_,_,hlen,hx,hg⟩:=DataW.trod_struct Tryz.underlying72 h
 have hlen:cs.length=4:=hlen.trans (by kernel_rfl:Tryz.prog.cellsOf 72=4)
 have hx:xs.length=4:=hx
 match cs,hlen with
 | [c0,c1,c2,c3],_ =>
  have g0:DataW.trod enc Tryz.prog W 0 (fun _=>true) true m 3 (([c0,c1,c2,c3].drop 0).take (Tryz.prog.cellsOf 3))=xs[0]?:=hg 0 _ rfl
  rw[(by kernel_rfl:Tryz.prog.cellsOf 3=1),List.getElem?_eq_getElem qn]at g0
  obtain ⟨z0,p0,r0,o0⟩:=Cb Tryz.underlying3 _ _ _ g0
  have g1:DataW.trod enc Tryz.prog W 0 (fun _=>true) true m 3 (([c0,c1,c2,c3].drop 1).take (Tryz.prog.cellsOf 3))=xs[1]?:=hg 1 _ rfl
  rw[(by kernel_rfl:Tryz.prog.cellsOf 3=1),List.getElem?_eq_getElem qn]at g1
  obtain ⟨z1,p1,r1,o1⟩:=Cb Tryz.underlying3 _ _ _ g1
  have g2:DataW.trod enc Tryz.prog W 0 (fun _=>true) true m 3 (([c0,c1,c2,c3].drop 2).take (Tryz.prog.cellsOf 3))=xs[2]?:=hg 2 _ rfl
  rw[(by kernel_rfl:Tryz.prog.cellsOf 3=1),List.getElem?_eq_getElem qn]at g2
  obtain ⟨z2,p2,r2,o2⟩:=Cb Tryz.underlying3 _ _ _ g2
  have g3:DataW.trod enc Tryz.prog W 0 (fun _=>true) true m 70 (([c0,c1,c2,c3].drop 3).take (Tryz.prog.cellsOf 70))=xs[3]?:=hg 3 _ rfl
  rw[(by kernel_rfl:Tryz.prog.cellsOf 70=1),List.getElem?_eq_getElem qn]at g3
  obtain ⟨z3,p3,r3,o3⟩:=Aok _ _ _ g3
  refine⟨⟨z0,z1,z2,z3⟩,⟨p0,p1,p2,p3⟩,E,fun c hc=>?_,?_⟩
  ·simp only[List.mem_cons,List.not_mem_nil,or_false]at hc
   rcases hc with rfl | rfl | rfl | rfl<;>assumption
  ·simp only[Bw,cellsOf,RdL]
   exact⟨_,_,E,r0,_,_,E,r1,_,_,E,r2,_,_,E,r3,E⟩
def Vrf.In (x:Vrf):Prop:=wI .i64 x.row∧wI .i64 x.dev∧x.name.size≤maxLen∧((∀ z∈x.imports,wI .i64 z)∧x.imports.length≤maxLen)∧((∀ z∈x.exports,wI .i64 z)∧x.exports.length≤maxLen)
theorem Aom:OpN enc Tryz.prog W 74 Cv Vrf.In 5:=fun n cs y h=>by
 obtain ⟨xs,m,_,_,hlen,hx,hg⟩:=DataW.trod_struct Tryz.underlying74 h
 have hlen:cs.length=5:=hlen.trans (by kernel_rfl:Tryz.prog.cellsOf 74=5)
 have hx:xs.length=5:=hx
 match cs,hlen with
 | [c0,c1,c2,c3,c4],_ =>
  have g0:DataW.trod enc Tryz.prog W 0 (fun _=>true) true m 3 (([c0,c1,c2,c3,c4].drop 0).take (Tryz.prog.cellsOf 3))=xs[0]?:=hg 0 _ rfl
  rw[(by kernel_rfl:Tryz.prog.cellsOf 3=1),List.getElem?_eq_getElem qn]at g0
  obtain ⟨z0,p0,r0,o0⟩:=Cb Tryz.underlying3 _ _ _ g0
  have g1:DataW.trod enc Tryz.prog W 0 (fun _=>true) true m 3 (([c0,c1,c2,c3,c4].drop 1).take (Tryz.prog.cellsOf 3))=xs[1]?:=hg 1 _ rfl
  rw[(by kernel_rfl:Tryz.prog.cellsOf 3=1),List.getElem?_eq_getElem qn]at g1
  obtain ⟨z1,p1,r1,o1⟩:=Cb Tryz.underlying3 _ _ _ g1
  have g2:DataW.trod enc Tryz.prog W 0 (fun _=>true) true m 9 (([c0,c1,c2,c3,c4].drop 2).take (Tryz.prog.cellsOf 9))=xs[2]?:=hg 2 _ rfl
  rw[(by kernel_rfl:Tryz.prog.cellsOf 9=1),List.getElem?_eq_getElem qn]at g2
  obtain ⟨z2,p2,r2,o2⟩:=Af2 Tryz.underlying9 _ _ _ g2
  have g3:DataW.trod enc Tryz.prog W 0 (fun _=>true) true m 56 (([c0,c1,c2,c3,c4].drop 3).take (Tryz.prog.cellsOf 56))=xs[3]?:=hg 3 _ rfl
  rw[(by kernel_rfl:Tryz.prog.cellsOf 56=1),List.getElem?_eq_getElem qn]at g3
  obtain ⟨z3,p3,r3,o3⟩:=V7 _ _ _ g3
  have g4:DataW.trod enc Tryz.prog W 0 (fun _=>true) true m 56 (([c0,c1,c2,c3,c4].drop 4).take (Tryz.prog.cellsOf 56))=xs[4]?:=hg 4 _ rfl
  rw[(by kernel_rfl:Tryz.prog.cellsOf 56=1),List.getElem?_eq_getElem qn]at g4
  obtain ⟨z4,p4,r4,o4⟩:=V7 _ _ _ g4
  refine⟨⟨z0,z1,z2,z3,z4⟩,⟨p0,p1,p2,p3,p4⟩,E,fun c hc=>?_,?_⟩
  ·simp only[List.mem_cons,List.not_mem_nil,or_false]at hc
   rcases hc with rfl | rfl | rfl | rfl | rfl<;>assumption
  ·simp only[Cv,cellsOf,RdL]
   exact⟨_,_,E,r0,_,_,E,r1,_,_,E,r2,_,_,E,r3,_,_,E,r4,E⟩
def Irb.In (x:Irb):Prop:=wI .i64 x.row∧wI .i64 x.domain∧wI .i64 x.vrf∧wI .u32 x.addr∧wI .i64 x.bits
theorem Aoo:OpN enc Tryz.prog W 119 Cg Irb.In 5:=fun n cs y h=>by
 obtain ⟨xs,m,_,_,hlen,hx,hg⟩:=DataW.trod_struct Tryz.underlying119 h
 have hlen:cs.length=5:=hlen.trans (by kernel_rfl:Tryz.prog.cellsOf 119=5)
 have hx:xs.length=4:=hx
 match cs,hlen with
 | [c0,c1,c2,c3,c4],_ =>
  have g0:DataW.trod enc Tryz.prog W 0 (fun _=>true) true m 3 (([c0,c1,c2,c3,c4].drop 0).take (Tryz.prog.cellsOf 3))=xs[0]?:=hg 0 _ rfl
  rw[(by kernel_rfl:Tryz.prog.cellsOf 3=1),List.getElem?_eq_getElem qn]at g0
  obtain ⟨z0,p0,r0,o0⟩:=Cb Tryz.underlying3 _ _ _ g0
  have g1:DataW.trod enc Tryz.prog W 0 (fun _=>true) true m 3 (([c0,c1,c2,c3,c4].drop 1).take (Tryz.prog.cellsOf 3))=xs[1]?:=hg 1 _ rfl
  rw[(by kernel_rfl:Tryz.prog.cellsOf 3=1),List.getElem?_eq_getElem qn]at g1
  obtain ⟨z1,p1,r1,o1⟩:=Cb Tryz.underlying3 _ _ _ g1
  have g2:DataW.trod enc Tryz.prog W 0 (fun _=>true) true m 3 (([c0,c1,c2,c3,c4].drop 2).take (Tryz.prog.cellsOf 3))=xs[2]?:=hg 2 _ rfl
  rw[(by kernel_rfl:Tryz.prog.cellsOf 3=1),List.getElem?_eq_getElem qn]at g2
  obtain ⟨z2,p2,r2,o2⟩:=Cb Tryz.underlying3 _ _ _ g2
  have g3:DataW.trod enc Tryz.prog W 0 (fun _=>true) true m 117 (([c0,c1,c2,c3,c4].drop 3).take (Tryz.prog.cellsOf 117))=xs[3]?:=hg 3 _ rfl
  rw[(by kernel_rfl:Tryz.prog.cellsOf 117=2),List.getElem?_eq_getElem qn]at g3
  obtain ⟨ys,m',_,_,_,hy,hg'⟩:=DataW.trod_struct Tryz.underlying117 g3
  have hy:ys.length=2:=hy
  have q0:DataW.trod enc Tryz.prog W 0 (fun _=>true) true m' 75 (([c3,c4].drop 0).take (Tryz.prog.cellsOf 75))=ys[0]?:=hg' 0 _ rfl
  have q1:DataW.trod enc Tryz.prog W 0 (fun _=>true) true m' 3 (([c3,c4].drop 1).take (Tryz.prog.cellsOf 3))=ys[1]?:=hg' 1 _ rfl
  rw[(by kernel_rfl:Tryz.prog.cellsOf 75=1),List.getElem?_eq_getElem qn]at q0
  rw[(by kernel_rfl:Tryz.prog.cellsOf 3=1),List.getElem?_eq_getElem qn]at q1
  obtain ⟨z3,p3,r3,o3⟩:=Cb Tryz.underlying75 _ _ _ q0
  obtain ⟨z4,p4,r4,o4⟩:=Cb Tryz.underlying3 _ _ _ q1
  refine⟨⟨z0,z1,z2,z3,z4⟩,⟨p0,p1,p2,p3,p4⟩,E,fun c hc=>?_,?_⟩
  ·simp only[List.mem_cons,List.not_mem_nil,or_false]at hc
   rcases hc with rfl | rfl | rfl | rfl | rfl<;>assumption
  ·simp only[Cg,cellsOf,RdL]
   exact⟨_,_,E,r0,_,_,E,r1,_,_,E,r2,_,_,E,r3,_,_,E,r4,E⟩
structure Net.In (n:Net):Prop where
 devices:(∀ x∈n.devices,Device.In x)∧n.devices.length≤maxLen
 ports:(∀ x∈n.ports,Port.In x)∧n.ports.length≤maxLen
 links:(∀ x∈n.links,Link.In x)∧n.links.length≤maxLen
 domains:(∀ x∈n.domains,Domain.In x)∧n.domains.length≤maxLen
 statics:(∀ x∈n.statics,Static.In x)∧n.statics.length≤maxLen
 floods:(∀ x∈n.floods,Flood.In x)∧n.floods.length≤maxLen
 vrfs:(∀ x∈n.vrfs,Vrf.In x)∧n.vrfs.length≤maxLen
 irbs:(∀ x∈n.irbs,Irb.In x)∧n.irbs.length≤maxLen
theorem Aon:OpN enc Tryz.prog W 31 Al Net.In 8:=fun n cs y h=>by
 obtain ⟨xs,m,_,_,hlen,hx,hg⟩:=DataW.trod_struct Tryz.underlying31 h
 have hlen:cs.length=8:=hlen.trans (by kernel_rfl:Tryz.prog.cellsOf 31=8)
 have hx:xs.length=8:=hx
 match cs,hlen with
 | [c0,c1,c2,c3,c4,c5,c6,c7],_ =>
  have g0:DataW.trod enc Tryz.prog W 0 (fun _=>true) true m 22 (([c0,c1,c2,c3,c4,c5,c6,c7].drop 0).take (Tryz.prog.cellsOf 22))=xs[0]?:=hg 0 _ rfl
  rw[(by kernel_rfl:Tryz.prog.cellsOf 22=1),List.getElem?_eq_getElem qn]at g0
  obtain ⟨z0,p0,r0,o0⟩:=E0 Tryz.underlying22 (by kernel_rfl:Tryz.prog.cellsOf 77=5) qx (fun _=>rfl) (fun _=>rfl) Af5 _ _ _ g0
  have g1:DataW.trod enc Tryz.prog W 0 (fun _=>true) true m 23 (([c0,c1,c2,c3,c4,c5,c6,c7].drop 1).take (Tryz.prog.cellsOf 23))=xs[1]?:=hg 1 _ rfl
  rw[(by kernel_rfl:Tryz.prog.cellsOf 23=1),List.getElem?_eq_getElem qn]at g1
  obtain ⟨z1,p1,r1,o1⟩:=E0 Tryz.underlying23 (by kernel_rfl:Tryz.prog.cellsOf 67=7) qx (fun _=>rfl) (fun _=>rfl) Al8 _ _ _ g1
  have g2:DataW.trod enc Tryz.prog W 0 (fun _=>true) true m 24 (([c0,c1,c2,c3,c4,c5,c6,c7].drop 2).take (Tryz.prog.cellsOf 24))=xs[2]?:=hg 2 _ rfl
  rw[(by kernel_rfl:Tryz.prog.cellsOf 24=1),List.getElem?_eq_getElem qn]at g2
  obtain ⟨z2,p2,r2,o2⟩:=E0 Tryz.underlying24 (by kernel_rfl:Tryz.prog.cellsOf 167=3) qx (fun _=>rfl) (fun _=>rfl) Al9 _ _ _ g2
  have g3:DataW.trod enc Tryz.prog W 0 (fun _=>true) true m 25 (([c0,c1,c2,c3,c4,c5,c6,c7].drop 3).take (Tryz.prog.cellsOf 25))=xs[3]?:=hg 3 _ rfl
  rw[(by kernel_rfl:Tryz.prog.cellsOf 25=1),List.getElem?_eq_getElem qn]at g3
  obtain ⟨z3,p3,r3,o3⟩:=E0 Tryz.underlying25 (by kernel_rfl:Tryz.prog.cellsOf 69=6) qx (fun _=>rfl) (fun _=>rfl) Af4 _ _ _ g3
  have g4:DataW.trod enc Tryz.prog W 0 (fun _=>true) true m 26 (([c0,c1,c2,c3,c4,c5,c6,c7].drop 4).take (Tryz.prog.cellsOf 26))=xs[4]?:=hg 4 _ rfl
  rw[(by kernel_rfl:Tryz.prog.cellsOf 26=1),List.getElem?_eq_getElem qn]at g4
  obtain ⟨z4,p4,r4,o4⟩:=E0 Tryz.underlying26 (by kernel_rfl:Tryz.prog.cellsOf 171=4) qx (fun _=>rfl) (fun _=>rfl) Af3 _ _ _ g4
  have g5:DataW.trod enc Tryz.prog W 0 (fun _=>true) true m 27 (([c0,c1,c2,c3,c4,c5,c6,c7].drop 5).take (Tryz.prog.cellsOf 27))=xs[5]?:=hg 5 _ rfl
  rw[(by kernel_rfl:Tryz.prog.cellsOf 27=1),List.getElem?_eq_getElem qn]at g5
  obtain ⟨z5,p5,r5,o5⟩:=E0 Tryz.underlying27 (by kernel_rfl:Tryz.prog.cellsOf 72=4) qx (fun _=>rfl) (fun _=>rfl) Ajq _ _ _ g5
  have g6:DataW.trod enc Tryz.prog W 0 (fun _=>true) true m 28 (([c0,c1,c2,c3,c4,c5,c6,c7].drop 6).take (Tryz.prog.cellsOf 28))=xs[6]?:=hg 6 _ rfl
  rw[(by kernel_rfl:Tryz.prog.cellsOf 28=1),List.getElem?_eq_getElem qn]at g6
  obtain ⟨z6,p6,r6,o6⟩:=E0 Tryz.underlying28 (by kernel_rfl:Tryz.prog.cellsOf 74=5) qx (fun _=>rfl) (fun _=>rfl) Aom _ _ _ g6
  have g7:DataW.trod enc Tryz.prog W 0 (fun _=>true) true m 29 (([c0,c1,c2,c3,c4,c5,c6,c7].drop 7).take (Tryz.prog.cellsOf 29))=xs[7]?:=hg 7 _ rfl
  rw[(by kernel_rfl:Tryz.prog.cellsOf 29=1),List.getElem?_eq_getElem qn]at g7
  obtain ⟨z7,p7,r7,o7⟩:=E0 Tryz.underlying29 (by kernel_rfl:Tryz.prog.cellsOf 119=5) qx (fun _=>rfl) (fun _=>rfl) Aoo _ _ _ g7
  refine⟨⟨z0,z1,z2,z3,z4,z5,z6,z7⟩,⟨p0,p1,p2,p3,p4,p5,p6,p7⟩,E,fun c hc=>?_,?_⟩
  ·simp only[List.mem_cons,List.not_mem_nil,or_false]at hc
   rcases hc with rfl | rfl | rfl | rfl | rfl | rfl | rfl | rfl<;>assumption
  ·simp only[Al,cellsOf,RdL]
   exact⟨_,_,E,r0,_,_,E,r1,_,_,E,r2,_,_,E,r3,_,_,E,r4,_,_,E,r5,_,_,E,r6,_,_,E,r7,E⟩
theorem Aji {t:TypeId} {fs:Array Field} {α:Type} {e:α→SV} {p:α→Prop} {sz base:Nat} {v:Value} {d:DataW H} {ps:List MemPlace} (ht:Tryz.prog.underlying t=some (.struct fs)) (hO:OpN enc Tryz.prog W t e p sz) (he:∀ x,e x=.agg (cellsOf (e x)))
  (hval:Value.okWide Tryz.prog W .any base t v) (h1:DataW.Trod enc Tryz.prog W 0 (fun _=>true) true t v d ps):∃ x,p x∧Rd κ0 W (e x) v:=by
 obtain ⟨cs,rfl,_⟩:=okWide_struct ht hval
 obtain ⟨fuel,hf⟩:=h1
 obtain ⟨x,h1,_,h2,h3⟩:=hO _ _ _ hf
 refine⟨x,h1,?_⟩
 rw[he x]
 simp only[Rd]
 exact⟨cs.toList,by simp,by simpa [Value.cells] using h2,by simpa [Value.cells] using h3⟩
theorem rd_net {base:Nat} {v:Value} {d:DataW H} {ps:List MemPlace} (hval:Value.okWide Tryz.prog W .any base 31 v) (h1:DataW.Trod enc Tryz.prog W 0 (fun _=>true) true 31 v d ps):∃ n:Net,n.In∧Rd κ0 W (Al n) v :=
 Aji Tryz.underlying31 Aon (fun _=>rfl) hval h1
end
end Go.Sy.YteinjapglfkamaaGreat
namespace Go.Sy.YteinjapglfkamaaGreat
open Go.Proofs
attribute [local irreducible] Go.Sy.G Go.Sy.DR
set_option maxRecDepth 100000
set_option maxHeartbeats 8000000
def netW37:Net:=⟨[⟨0,0,⟨#[97]⟩,0,0⟩],[⟨0,0,10,1,-1,⟨#[112]⟩,[]⟩,⟨0,0,10,1,-1,⟨#[113]⟩,[]⟩,⟨0,0,20,1,-1,⟨#[114]⟩,[]⟩],[],[⟨0,10,0,-1,0,[]⟩,⟨0,20,0,-1,0,[]⟩],[],[],[],[]⟩
theorem Abh:netW37.Fin:=by
 constructor<;>first | (unfold An;decide) | (intro x hx;unfold An;simp only[netW37,List.mem_cons,List.not_mem_nil,or_false]at hx;first | (subst hx;decide) | (rcases hx with rfl | rfl<;>decide) | (rcases hx with rfl | rfl | rfl<;>decide) | exact hx.elim)
theorem Ama:netW37.Num:=by
 refine⟨fun x hx=>?_,fun x hx=>?_⟩
 ·simp only[netW37,List.mem_cons,List.not_mem_nil,or_false]at hx
  subst hx
  decide
 ·cases hx
theorem Tx:Df netW37:=fun x hx=>by cases hx
def bytesW37:List UInt8:=Qp ⟨281474976710655,V5,34997,[]⟩
theorem Ai1:wscriptT netW37 0 1=([⟨1,0,0,0,bytesW37,[]⟩,⟨2,0,0,0,[],[]⟩],0):=by kernel_rfl
theorem Ai0:wscriptT netW37 0 2=([],31):=by kernel_rfl
theorem wayW37:wayT netW37 0 1=([⟨0,0,0,0⟩],true):=by kernel_rfl
theorem wayB37:wayBytes netW37 []=([],2):=by kernel_rfl
theorem Ani:bytesW37.length=14:=by kernel_rfl
theorem Wg:Sy.Spec Tryz.prog 8 [] [] (Ad true) []:=Ab Γ hm 100 F8 Tryz.ntmps8 rfl fun F hF=>by
 have q1:=Wh netW37 Abh Ama Tx 0 1
 have q2:=Wh netW37 Abh Ama Tx 0 2
 have q3:=wayS netW37 Abh Tx 0 1
 have q4:=Y9 netW37 Abh Tx [] (by unfold An;decide) (fun h hh=>by cases hh)
 have hbl:=Ani
 rw[Ai1]at q1
 rw[Ai0]at q2
 rw[wayW37]at q3
 rw[wayB37]at q4
 generalize bytesW37=bs at *
 dsimp only at q1 q2 q3 q4
 conv=>whnf
 refine Iq 11 Bm netW37.devices E E ?_
 refine Au 11 E ?_
 refine Ab0 15 (netW37.ports.map A5) E (.cons (.agg (.cons (.refl _) (.cons (.refl _) (.cons (.refl _) (.cons (.refl _) (.cons (.refl _) (.cons (.refl _) (.cons .nil .nil)))))))) (.cons (.agg (.cons (.refl _) (.cons (.refl _) (.cons (.refl _) (.cons (.refl _) (.cons (.refl _) (.cons (.refl _) (.cons .nil .nil)))))))) (.cons (.agg (.cons (.refl _) (.cons (.refl _) (.cons (.refl _) (.cons (.refl _) (.cons (.refl _) (.cons (.refl _) (.cons .nil .nil)))))))) .nil))) E ?_
 refine Iq 15 A5 netW37.ports E E ?_
 refine Au 15 E ?_
 refine Ab0 18 (netW37.domains.map At) E (.cons (.agg (.cons (.refl _) (.cons (.refl _) (.cons (.refl _) (.cons (.refl _) (.cons (.refl _) (.cons .nil .nil))))))) (.cons (.agg (.cons (.refl _) (.cons (.refl _) (.cons (.refl _) (.cons (.refl _) (.cons (.refl _) (.cons .nil .nil))))))) .nil)) E ?_
 refine Iq 18 At netW37.domains E E ?_
 refine Au 18 E ?_
 refine Bc 1 (Amd netW37) E (.cons (.refl _) (.cons (.refl _) (.cons .nil (.cons (.refl _) (.cons .nil (.cons .nil (.cons .nil (.cons .nil .nil)))))))) ?_
 refine G_vw 21 (Al netW37) (.agg (.cons (.refl _) (.cons (.refl _) (.cons .nil (.cons (.refl _) (.cons .nil (.cons .nil (.cons .nil (.cons .nil .nil))))))))) ?_
 refine C q1 F16 ?_
 refine C q2 F16 ?_
 refine C q3 F9 ?_
 refine X (Lm [] [] E F14 q4 (.cons (.refl _) (.cons .nil .nil)) Y E Y E) ?_
 refine⟨Nat.zero_lt_two,?_⟩
 refine T ?_
 refine⟨Nat.zero_lt_two,?_⟩
 refine T ?_
 refine⟨Nat.one_lt_two,?_⟩
 refine T ?_
 exact D
theorem toldS (l:List Hop) (hl:l.length<2147483648):Sy.Spec Tryz.prog 13 [.sl 4 A6 l] [] (.sl 4 A6 l) []:=Ab Γ hm 100 F13 Tryz.ntmps13 rfl fun F hF=>by
 conv=>whnf
 refine B7 3 1000 4 A6 E E ?_
 refine Aw l.length (fun j=>[(3,.osl 1000),(6,.sl 4 A6 l),(7,Aa l.length),(8,Aa j)]) (fun j=>[(1000,.row 4 A6 (l.take j))]) [] U ?_
 intro j hj
 refine T ?_
 refine⟨fun h=>?_,fun h=>?_⟩
 ·have hlt:j<l.length:=by have:=of_decide_eq_true h;omega
  have hj0:((j:Nat):Int).toNat<l.length:=by simpa using hlt
  have hs:l.take (j+1)=l.take j++[l[((j:Nat):Int).toNat]'hj0]:=List.take_succ_eq_append_getElem hlt
  refine T ?_
  refine X (Am Γ.toTy 15 E E E E E (.row E) (.lit (e:=A6) (l:=[l[((j:Nat):Int).toNat]'hj0]) E E) qy (by simp;omega) (by simp;omega)) ?_
  exact Ar [(1000,15)] hlt ⟨⟨E,E,E,E,E,E,E,E,Y⟩,⟨.inl (congrArg (Ob.row 4 A6) hs),E,Y⟩,E,E⟩
 ·have hjj:j=l.length:=by have:=of_decide_eq_false h;omega
  subst hjj
  rw[List.take_length]
  refine T ?_
  refine Au 1000 E ?_
  exact D
theorem Als (l:List Hop) (hl:l.length<2147483648):Sy.Spec Tryz.prog 12 [.sl 4 A6 l,.sl 4 A6 l] [] (Ad true) []:=Ab Γ hm 100 F12 Tryz.ntmps12 rfl fun F hF=>by
 refine T ?_
 refine Aw l.length (fun j=>[(0,.sl 4 A6 l),(1,.sl 4 A6 l),(5,Aa j)]) (fun _=>[]) [] U ?_
 intro j hj
 refine T ?_
 refine⟨fun h=>?_,fun h=>?_⟩
 ·have hlt:j<l.length:=by have:=of_decide_eq_true h;omega
  refine T ?_
  exact Ar [] hlt U
 ·refine T ?_
  exact D
end Go.Sy.YteinjapglfkamaaGreat
namespace Go.Sy.YteinjapglfkamaaGreat
open Go.Proofs
attribute [local irreducible] Go.Sy.G Go.Sy.DR
set_option maxRecDepth 20000
set_option maxHeartbeats 8000000
theorem Aj6 {n:Net} (hb:Ae n=true) (i:Int):Hv n i=(Aj i n.ports.length && (nth n.ports i).link == -1):=by
 rw[Hv,Aj]
 by_cases hi:0≤i∧i<n.ports.length
 ·rw[decide_eq_true hi.1,decide_eq_true hi.2,Bool.true_and]
  have hk:i.toNat<n.ports.length:=by omega
  rw[Ah hk]
  have:=X4 hb hk
  simp only[Eh,Aj,Bool.and_eq_true,Bool.or_eq_true,beq_iff_eq,decide_eq_true_eq]at this
  have h2:=this.2
  by_cases hl:(n.ports[i.toNat]'hk).link=-1
  ·simp[hl]
  ·have:0≤(n.ports[i.toNat]'hk).link:=by omega
   rw[decide_eq_false qn];simp[hl]
 ·have h1:(decide (0≤i) && decide (i<(n.ports.length:Int)))=false:=by simp only[Bool.and_eq_false_iff,decide_eq_false_iff_not];omega
  rw[h1,Bool.false_and];simp
def hostD (n:Net) (i:Int):Bool:=Aj i n.ports.length && (nth n.ports i).link == -1
theorem Ajg (n:Net) (i:Int):Sy.Spec Tryz.prog 33 [Al n,Aa i] [] (Ad (hostD n i)) []:=Ab Γ hm 100 F33 Tryz.ntmps33 rfl fun F hF=>by
 have hp:=Bg i n.ports.length
 have hlk:=hostD.eq_1 n i
 generalize hostD n i=res at *
 conv=>whnf
 refine A3 2 8 (Al n) E E E ?_
 refine rg ?_;conv=>whnf
 refine Ag hp F46 E E E E E ?_
 by_cases hi:0≤i∧i<n.ports.length
 ·rw[Cd hi,Bool.true_and]at hlk
  rw[Cd hi]
  have hk:i.toNat<n.ports.length:=by omega
  rw[Ah hk]at hlk
  (refine rg ?_;(conv=>whnf);refine aT ?_;refine rg ?_;conv=>whnf)
  refine⟨E,hi.1,hk,?_⟩
  conv=>whnf
  exact Ac E (.cons .tmp .nil) (congrArg Ad hlk) E
 ·rw[Hr hi,Bool.false_and]at hlk
  subst hlk
  rw[Hr hi]
  (refine rg ?_;(conv=>whnf);refine aF ?_;refine rg ?_;conv=>whnf)
  exact Ac E (.cons .tmp .nil) E E
theorem Zh (n:Net) (hb:Ae n=true) (i:Int):Sy.Spec Tryz.prog 33 [Al n,Aa i] [] (Ad (Hv n i)) []:=by
 rw[Aj6 hb]
 exact Ajg n i
structure WayD where
 (hops:List Hop) (routed:Bool)
abbrev Cj (w:WayD):SV:=.agg [.sl 4 A6 w.hops,Ad w.routed]
instance:Inhabited WayD:=⟨⟨[],false⟩⟩
def WayD.end_ (w:WayD):Int:=(nth w.hops ((w.hops.length:Int)-1)).domain
theorem Aai (w:WayD) (h0:w.hops≠[]) (hl:w.hops.length<4294967296):Sy.Spec Tryz.prog 38 [Cj w] [] (Aa w.end_) []:=Ab Γ hm 100 F38 Tryz.ntmps38 rfl fun F hF=>by
 have hp:0<w.hops.length:=List.length_pos_iff.2 h0
 have hk:((w.hops.length:Int)-1).toNat<w.hops.length:=by omega
 have hlk:w.end_=(w.hops[((w.hops.length:Int)-1).toNat]'hk).domain:=by rw[WayD.end_,Ah hk]
 rw[hlk]
 conv=>whnf
 refine⟨by unfold I64;omega,?_⟩
 conv=>whnf
 refine⟨E,by omega,hk,?_⟩
 conv=>whnf
 exact Ac E (.cons .tmp .nil) E E
def U1 (d:Int) (r:Bool) (w:WayD):Bool:=w.end_ == d && w.routed == r
def metW (l:List WayD) (d:Int) (r:Bool):Bool:=l.any (U1 d r)
def Ahe (l:List WayD):Prop:=∀ w∈l,w.hops≠[]∧w.hops.length<1000000
theorem metS (l:List WayD) (d:Int) (r:Bool) (hw:Ahe l) (hl:l.length<4294967296):Sy.Spec Tryz.prog 100 [.sl 2 Cj l,Aa d,Ad r] [] (Ad (metW l d r)) []:=Ab Γ hm 100 F100 Tryz.ntmps100 rfl fun F hF=>by
 have hlk:=metW.eq_1 l d r
 generalize metW l d r=res at *
 conv=>whnf
 refine Ay l.length (fun j=>∀ i (h:i<l.length),i<j→U1 d r l[i]=false) (fun j=>[(0,.sl 2 Cj l),(1,Aa d),(2,Ad r),(7,Aa j)]) (fun _=>[]) [] (fun i h hi=>absurd hi qn) ⟨⟨E,E,E,E,E,E,E,E,Y⟩,Y,E,E⟩ ?_
 intro j hj hI
 refine rg ?_;conv=>whnf
 refine⟨fun h=>?_,fun h=>?_⟩
 ·have hlt:j<l.length:=by simpa using h
  have hj0:((j:Nat):Int).toNat<l.length:=by simpa using hlt
  obtain ⟨w,hwj⟩:∃ w,l[((j:Nat):Int).toNat]'hj0=w:=⟨_,rfl⟩
  have hwj':l[j]=w:=hwj
  have hww:=hw w (by rw[← hwj'];exact List.getElem_mem hlt)
  have q:=Aai w hww.1 qn
  have hyes:U1 d r w=true→res=true:=fun hs=>by rw[hlk];exact List.any_eq_true.2 ⟨w,by rw[← hwj'];exact List.getElem_mem hlt,hs⟩
  have hnx:U1 d r w=false→∀ i (h:i<l.length),i<j+1→U1 d r l[i]=false:=fun hz i h hi=>by
   rcases Nat.lt_or_ge i j with h1 | h1
   ·exact hI i h h1
   ·have:i=j:=by omega
    subst this;rw[hwj'];exact hz
  rw[U1]at hyes hnx
  refine rg ?_;conv=>whnf
  refine⟨E,by omega,hj0,?_⟩
  rw[hwj]
  conv=>whnf
  refine Ag q F38 E E E E E ?_
  generalize w.end_=en at *
  refine rg ?_;conv=>whnf
  refine⟨fun h1=>?_,fun h1=>?_⟩
  ·rw[show (en == d)=true from h1,Bool.true_and]at hyes hnx
   refine rg ?_;conv=>whnf
   refine⟨E,by omega,hj0,?_⟩
   rw[hwj]
   conv=>whnf
   refine⟨fun h2=>?_,fun h2=>?_⟩
   ·rw[hyes (by simpa using h2)]
    refine rg ?_;conv=>whnf
    exact Ac E (.cons .tmp .nil) E E
   ·refine rg ?_;conv=>whnf
    refine⟨by unfold I64;omega,?_⟩
    conv=>whnf
    exact Av [] hI qn (hnx (by simpa using h2)) ⟨⟨E,E,E,E,E,E,E,E,Y⟩,Y,E,E⟩
  ·rw[show (en == d)=false from h1,Bool.false_and]at hyes hnx
   (refine rg ?_;(conv=>whnf);refine aF ?_;refine rg ?_;conv=>whnf)
   refine⟨by unfold I64;omega,?_⟩
   conv=>whnf
   exact Av [] hI qn (hnx E) ⟨⟨E,E,E,E,E,E,E,E,Y⟩,Y,E,E⟩
 ·have hje:j=l.length:=by have:=of_decide_eq_false h;omega
  subst hje
  rw[show res=false from by
   rw[hlk,List.any_eq_false]
   intro w hw
   obtain ⟨i,hi,rfl⟩:=List.getElem_of_mem hw
   rw[hI i hi hi];simp]
  refine rg ?_;conv=>whnf
  exact Ac E (.cons .tmp .nil) E E
def moreT (l:List WayD) (w:WayD) (h:Hop) (r:Bool):List WayD:=if metW l h.domain r=true then l else l++[⟨w.hops++[h],r⟩]
theorem Apn (l:List WayD) (w:WayD) (h:Hop) (r:Bool) (hw:Ahe l) (hl:l.length<1000000) (hwl:w.hops.length<1000000) :
  Sy.Spec Tryz.prog 34 [.osl 0,Cj w,A6 h,Ad r] [(0,.row 2 Cj l)] (.osl 1) [(0,.non),(1,.row 2 Cj (moreT l w h r))]:=Ab Γ hm 100 F34 Tryz.ntmps34 rfl fun F hF=>by
 have q:=metS l h.domain r hw qn
 have hlk:=moreT.eq_1 l w h r
 generalize moreT l w h r=res at *
 generalize metW l h.domain r=mt at *
 conv=>whnf
 refine Aes [0] q F100 E (.cons (.row E E) (.cons (.refl _) (.cons (.refl _) .nil))) E E E ?_
 cases mt
 rotate_left
 ·rw[if_pos rfl]at hlk
  subst hlk
  (refine rg ?_;(conv=>whnf);refine aT ?_;refine rg ?_;conv=>whnf)
  refine M5 0 1000 E E qx ?_
  refine rg ?_;conv=>whnf
  exact done E (.cons .tmp .nil) [(1,1000)] [(0,.non),(1,.row 2 Cj res)] (fun _ h=>h) E E ⟨Y,⟨.inl E,E,.inl E,E,Y⟩,E,E⟩
 rw[if_neg qy]at hlk
 subst hlk
 (refine rg ?_;(conv=>whnf);refine aF ?_;refine rg ?_;conv=>whnf)
 refine Bn (Am Γ.toTy 19 E E E E E (.lit (e:=A6) (l:=[]) E E) .sl qy (by simp;omega) (by simp;omega)) qq E ?_
 refine rd qq ?_;conv=>whnf
 refine Bn (Good.dataT (Am Γ.toTy 22 E E E E E (.row E) (.lit (e:=A6) (l:=[h]) E E) qy (by simp;omega) (by simp;omega))) qq E ?_
 refine rd qq ?_;conv=>whnf
 refine Bn (Am Γ.toTy 26 E E E E E (.row E) (.lit (e:=Cj) (l:=[⟨w.hops++[h],r⟩]) E E) qy (by simp;omega) (by simp;omega)) qq E ?_
 refine rd qq ?_;conv=>whnf
 refine⟨qq,?_⟩
 conv=>whnf
 exact done E (.cons .tmp .nil) [(1,26)] [(0,.non),(1,.row 2 Cj (l++[⟨w.hops++[h],r⟩]))] (fun _ h=>h) E E ⟨Y,⟨.inl E,E,.inl E,E,Y⟩,E,E⟩
end Go.Sy.YteinjapglfkamaaGreat
namespace Go.Sy.YteinjapglfkamaaGreat
open Go.Proofs
def O0 (l:List Fnd) (i:Nat):WayD:=⟨backT l i,decide ((nth l i).kind=1)⟩
def Bz (l:List Fnd):List WayD:=(List.range l.length).map (O0 l)
theorem Ex (l:List Fnd):(Bz l).length=l.length:=by simp[Bz]
theorem K3 (l:List Fnd) (i:Nat) (h:i<(Bz l).length):(Bz l)[i]=O0 l i:=by simp[Bz]
theorem Xi {α:Type} [Inhabited α] {l m:List α} {i:Int} (h:i.toNat<l.length):nth (l++m) i=nth l i:=by
 rw[nth,nth,List.getElem?_append_left h]
theorem Tw {l m:List Fnd} (hB:Backs l):∀ (k:Nat) (i:Int),i<k→i<l.length→backC (l++m) i=backC l i:=by
 intro k
 induction k with
 | zero =>
  intro i hi hl
  rw[backC,dif_neg (fun h=>by omega),backC,dif_neg (fun h=>by omega)]
 | succ k ih =>
  intro i hi hl
  by_cases h0:0≤i
  ·have hk:i.toNat<l.length:=by omega
   have hb:=hB i.toNat hk
   rw[backC,Xi hk,backC.eq_1 l i,Ah hk,dif_pos ⟨h0,by omega⟩,dif_pos ⟨h0,by omega⟩]
   rw[ih _ qn qn]
  ·rw[backC,dif_neg (fun h=>h0 h.1),backC,dif_neg (fun h=>h0 h.1)]
theorem Tv {l m:List Fnd} (hB:Backs l) {i:Int} (h:i<l.length):backT (l++m) i=backT l i:=by
 rw[backT,backT,Tw hB (i+1).toNat i qn h]
theorem Ag9 {l:List Fnd} (hB:Backs l) {f:Fnd} (hf:-1≤f.ahead∧f.ahead<l.length):backT (l++[f]) l.length=backT l f.ahead++[f.hop]:=by
 have e:nth (l++[f]) (l.length:Int)=f:=by
  rw[Ah (l:=l++[f]) (i:=(l.length:Int)) qy]
  simp
 rw[backT,backC,e,dif_pos ⟨by omega,by omega⟩,List.reverse_cons,Tw hB (f.ahead+1).toNat _ qn qn]
 rfl
theorem Ag8 (l:List Fnd):backT l (-1)=[]:=by
 rw[backT,backC,dif_neg (fun h=>by omega)];rfl
theorem Amb (u:List Hop) (x:Hop):nth (u++[x]) (((u++[x]).length:Int)-1)=x:=by
 have e:(((u++[x]).length:Int)-1).toNat=u.length:=by simp
 rw[nth,e,List.getElem?_append_right (Nat.le_refl _)]
 simp
theorem Abk {l:List Fnd} (hB:Backs l) (hD:∀ f∈l,f.hop.domain=f.domain) {i:Nat} (hi:i<l.length):(O0 l i).end_=(nth l i).domain:=by
 have hk:((i:Nat):Int).toNat<l.length:=by simpa using hi
 have hb:=hB ((i:Nat):Int).toNat hk
 have hd:=hD _ (List.getElem_mem hk)
 have e:backT l i=(backC l (nth l i).ahead).reverse++[(nth l i).hop]:=by
  rw[backT,backC,dif_pos ⟨by omega,by rw[Ah hk];omega⟩,List.reverse_cons]
 rw[WayD.end_,O0]
 dsimp only
 rw[e]
 have e2:nth ((backC l (nth l i).ahead).reverse++[(nth l i).hop]) ((((backC l (nth l i).ahead).reverse++[(nth l i).hop]).length:Int)-1)=(nth l i).hop:=by
  exact Amb _ _
 rw[e2,Ah hk,hd]
structure Met (n:Net) (S:Srch):Prop where
 ok:S.OK n
 bk:Backs S.list
 dom:∀ f∈S.list,f.hop.domain=f.domain
 m:∀ d:Int,0≤d∧d.toNat<n.domains.length→∀ k:Int,(k=0∨k=1)→(Kl S d k=true↔∃ f∈S.list,f.domain=d∧f.kind=k)
theorem Adk {l:List Bool} {a b:Nat} (hb:b<l.length):(l.set a true)[b]? = if a=b then some true else l[b]?:=by
 rw[List.getElem?_set]
 split
 ·rename_i h;subst h;simp[hb]
 ·rfl
theorem Af8 {n:Net} {S:Srch} (hS:S.OK n) {d k:Int} (hd:0≤d∧d.toNat<n.domains.length) (hk:k=0∨k=1) (h:Hop) (a:Int) (d2 k2:Int) (hd2:0≤d2∧d2.toNat<n.domains.length) (hk2:k2=0∨k2=1) :
  Kl (Jf S d k h a) d2 k2=true↔Kl S d2 k2=true∨(d2=d∧k2=k):=by
 have h0:d2.toNat<S.m0.length:=by rw[hS.l0];exact hd2.2
 have h1:d2.toNat<S.m1.length:=by rw[hS.l1];exact hd2.2
 have e:(d.toNat=d2.toNat)↔d2=d:=by omega
 rcases hk with rfl | rfl<;>rcases hk2 with rfl | rfl
 ·rw[Jf,if_pos rfl,Kl,if_pos rfl,Kl,if_pos rfl,nth,nth,Adk h0]
  by_cases h:d2=d
  ·rw[if_pos (e.2 h)];simp[h]
  ·rw[if_neg (fun x=>h (e.1 x))];simp[h]
 ·rw[Jf,if_pos rfl,Kl,if_neg qx,Kl,if_neg qx]
  simp
 ·rw[Jf,if_neg qx,Kl,if_pos rfl,Kl,if_pos rfl]
  simp
 ·rw[Jf,if_neg qx,Kl,if_neg qx,Kl,if_neg qx,nth,nth,Adk h1]
  by_cases h:d2=d
  ·rw[if_pos (e.2 h)];simp[h]
  ·rw[if_neg (fun x=>h (e.1 x))];simp[h]
theorem Lg (S:Srch) (d k:Int) (h:Hop) (a:Int):(Jf S d k h a).list=S.list++[⟨d,k,h,a⟩]:=by
 rw[Jf];split<;>rfl
theorem Met.meet {n:Net} {S:Srch} (hS:Met n S) {d k:Int} (hd:0≤d∧d.toNat<n.domains.length) (hk:k=0∨k=1) {h:Hop} (hh:h.domain=d) {a:Int} (ha:-1≤a∧a<S.list.length):Met n (meetT S d k h a) where
 ok:=hS.ok.meet hd hk h a
 bk:=(hS.bk.meet d k h ha).1
 dom:=by
  rw[meetT]
  split
  ·exact hS.dom
  ·rw[Lg]
   intro f hf
   rcases List.mem_append.1 hf with h1 | h1
   ·exact hS.dom f h1
   ·rw[List.mem_singleton.1 h1];exact hh
 m:=by
  rw[meetT]
  split
  ·exact hS.m
  ·intro d2 hd2 k2 hk2
   rw[Af8 hS.ok hd hk h a d2 k2 hd2 hk2,hS.m d2 hd2 k2 hk2,Lg]
   constructor
   ·rintro (⟨f,hf,h1⟩ | ⟨rfl,rfl⟩)
    ·exact⟨f,List.mem_append_left _ hf,h1⟩
    ·exact⟨_,List.mem_append_right _ (List.mem_singleton.2 E),E,E⟩
   ·rintro ⟨f,hf,h1,h2⟩
    rcases List.mem_append.1 hf with h3 | h3
    ·exact .inl ⟨f,h3,h1,h2⟩
    ·rw[List.mem_singleton.1 h3]at h1 h2
     exact .inr ⟨h1.symm,h2.symm⟩
theorem Aos {n:Net} {S:Srch} (hS:Met n S) {d:Int} (hd:0≤d∧d.toNat<n.domains.length) (r:Bool):metW (Bz S.list) d r=Kl S d (if r then 1 else 0):=by
 rw[Bool.eq_iff_iff,hS.m d hd _ (by cases r<;>simp),metW,List.any_eq_true]
 constructor
 ·rintro ⟨w,hw,hs⟩
  obtain ⟨i,hi,rfl⟩:=List.getElem_of_mem hw
  rw[K3]at hs
  rw[Ex]at hi
  have hk:((i:Nat):Int).toNat<S.list.length:=by simpa using hi
  rw[U1,Abk hS.bk hS.dom hi,O0,Ah hk,Bool.and_eq_true]at hs
  have ha:=(hS.ok.at_ _ (List.getElem_mem hk)).2
  refine⟨_,List.getElem_mem hk,by simpa using hs.1,?_⟩
  have h2:decide ((S.list[((i:Nat):Int).toNat]'hk).kind=1)=r:=by simpa using hs.2
  cases r
  ·have:=of_decide_eq_false h2
   simp only[Bool.false_eq_true,if_false]
   omega
  ·exact of_decide_eq_true h2
 ·rintro ⟨f,hf,h1,h2⟩
  obtain ⟨i,hi,rfl⟩:=List.getElem_of_mem hf
  have hk:((i:Nat):Int).toNat<S.list.length:=by simpa using hi
  refine⟨O0 S.list i,List.mem_map.2 ⟨i,List.mem_range.2 hi,E⟩,?_⟩
  have e:S.list[((i:Nat):Int).toNat]'hk=S.list[i]:=rfl
  rw[U1,Abk hS.bk hS.dom hi,O0,Ah hk,e,h1,h2]
  cases r<;>simp
theorem Ab1 {l:List Fnd} (hB:Backs l) {f:Fnd} (hf:-1≤f.ahead∧f.ahead<l.length):Bz (l++[f])=Bz l++[⟨backT l f.ahead++[f.hop],decide (f.kind=1)⟩]:=by
 have e:nth (l++[f]) (l.length:Int)=f:=by
  rw[Ah (l:=l++[f]) (i:=(l.length:Int)) qy]
  simp
 rw[Bz,List.length_append,List.length_singleton,List.range_succ,List.map_append]
 congr 1
 ·rw[Bz]
  apply List.map_congr_left
  intro i hi
  have hi:=List.mem_range.1 hi
  rw[O0,O0,Tv hB qn,Xi (by simpa using hi)]
 ·simp only[List.map_cons,List.map_nil]
  rw[O0,Ag9 hB hf,e]
theorem Ahy {n:Net} {S:Srch} (hS:Met n S) {w:WayD} {h:Hop} {r:Bool} {a:Int} (hd:0≤h.domain∧h.domain.toNat<n.domains.length) (ha:-1≤a∧a<S.list.length) (hw:w.hops=backT S.list a) :
  moreT (Bz S.list) w h r=Bz (meetT S h.domain (if r then 1 else 0) h a).list:=by
 rw[moreT,Aos hS hd r,meetT]
 by_cases hm2:Kl S h.domain (if r=true then 1 else 0)=true
 ·rw[if_pos hm2,if_pos hm2]
 ·rw[if_neg hm2,if_neg hm2,Lg,Ab1 hS.bk ha,hw]
  congr 3
  cases r<;>rfl
theorem M8 {n:Net} {S:Srch} (hS:Met n S) (hD:n.domains.length<100000):Ahe (Bz S.list)∧(Bz S.list).length<1000000∧∀ i:Nat,i<S.list.length→(backT S.list i).length<1000000:=by
 have hle:=hS.ok.le
 have hf:=fun i (hi:i<S.list.length)=>Il hS.bk (P:=fun _=>True) (fun _ _=>trivial) hi
 refine⟨fun w hw=>?_,by rw[Ex];omega,fun i hi=>?_⟩
 ·obtain ⟨i,hi,rfl⟩:=List.getElem_of_mem hw
  rw[K3]
  rw[Ex]at hi
  have:=hf i hi
  exact⟨this.2.2,by show (backT S.list i).length<_;omega⟩
 ·have:=hf i hi
  omega
end Go.Sy.YteinjapglfkamaaGreat
namespace Go.Sy.YteinjapglfkamaaGreat
open Go.Proofs
attribute [local irreducible] Go.Sy.G Go.Sy.DR
set_option maxRecDepth 20000
set_option maxHeartbeats 8000000
theorem Zk (S:Srch) (d k:Int) (h:Hop) (a:Int):∃ m,(meetT S d k h a).list=S.list++m:=by
 rw[meetT]
 split
 ·exact⟨[],by simp⟩
 ·exact⟨_,Lg S d k h a⟩
theorem Met.ext1 {n:Net} {k i:Int} (hk:k=0∨k=1):∀ {l:List Hop} {S:Srch},Met n S→(-1≤i∧i<S.list.length)→(∀ h∈l,0≤h.domain∧h.domain.toNat<n.domains.length)→Met n (ext1 S k i l)∧∃ m,(ext1 S k i l).list=S.list++m
 | [],S,h,_,_=>⟨h,[],by simp[Sy.YteinjapglfkamaaGreat.ext1]⟩
 | x::l,S,h,hi,hl=>by
  have h1:=h.meet (hl x qy) hk (h:=x) rfl hi
  obtain ⟨m,hm2⟩:=Zk S x.domain k x i
  obtain ⟨h3,m2,h4⟩:=Met.ext1 hk (l:=l) h1 ⟨hi.1,by rw[hm2,List.length_append];omega⟩ (fun y hy=>hl y (by simp[hy]))
  exact⟨h3,m++m2,by rw[← List.append_assoc,← hm2];exact h4⟩
theorem Met.ext2 {n:Net} {i:Int}:∀ {l:List Lead} {S:Srch},Met n S→(-1≤i∧i<S.list.length)→(∀ h∈l,0≤h.domain∧h.domain.toNat<n.domains.length)→Met n (ext2 S i l)∧∃ m,(ext2 S i l).list=S.list++m
 | [],S,h,_,_=>⟨h,[],by simp[Sy.YteinjapglfkamaaGreat.ext2]⟩
 | x::l,S,h,hi,hl=>by
  have h1:=h.meet (hl x qy) (.inr rfl) (h:=⟨3,0,x.domain,x.addr⟩) rfl hi
  obtain ⟨m,hm2⟩:=Zk S x.domain 1 ⟨3,0,x.domain,x.addr⟩ i
  obtain ⟨h3,m2,h4⟩:=Met.ext2 (l:=l) h1 ⟨hi.1,by rw[hm2,List.length_append];omega⟩ (fun y hy=>hl y (by simp[hy]))
  exact⟨h3,m++m2,by rw[← List.append_assoc,← hm2];exact h4⟩
theorem met0 (n:Net):Met n (Is n) where
 ok:=Aci n
 bk:=fun i h=>by simp[Is]at h
 dom:=fun f h=>by simp[Is]at h
 m:=fun d hd k hk=>by
  have e:Kl (Is n) d k=false:=by
   rw[Kl,Is]
   split<;>simp[nth,List.getElem?_replicate,hd.2]
  rw[e]
  simp[Is]
theorem Aju {n:Net} {dev:Int}:∀ {l:List Int},(∀ v∈l,v≠0→0≤B5 n dev v∧(B5 n dev v).toNat<n.domains.length)→Met n (D2 n dev l):=by
 intro l
 induction l using Ahs with
 | h0=>intro _;exact met0 n
 | h1 l v ih =>
  intro hl
  have h:=ih (fun x hx=>hl x (List.mem_append_left _ hx))
  rw[D2,List.foldl_append]
  show Met n (He n dev (D2 n dev l) v)
  rw[He]
  split
  ·exact h
  ·rename_i hv
   exact h.meet (hl v qy hv) (.inl E) E ⟨by omega,by omega⟩
theorem Abl {n:Net} (hb:Ae n=true) {i:Nat} (hi:i<n.ports.length) {v:Int} (hv:v∈n.ports[i].tagged):v≠0:=by
 have:=X4 hb hi
 simp only[Eh,Bool.and_eq_true,Bool.or_eq_true,decide_eq_true_eq]at this
 rcases this.1.1.1.1.1.2 with h | h
 ·rw[List.length_eq_zero_iff.1 h]at hv;cases hv
 ·obtain ⟨j,hj,rfl⟩:=List.getElem_of_mem hv
  simp only[C6,Bool.and_eq_true]at h
  have:=allB_iff.1 h.2 j hj
  simp only[Jr,Bool.and_eq_true,decide_eq_true_eq]at this
  omega
end Go.Sy.YteinjapglfkamaaGreat
