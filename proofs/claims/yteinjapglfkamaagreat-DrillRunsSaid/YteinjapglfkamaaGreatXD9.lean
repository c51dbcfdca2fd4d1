/-
  Z7 Z8 Z9 Z10 Z11 Z12 Z13 Z14 Z15 Z16 Z17 K45 Sy39 Y1 Y2 T18 T20 T22 T23 T24 T26 T27 T28 T29 T30 T31 Y3: parts of a proof, joined by program.
-/
import Derived.Test.YteinjapglfkamaaGreatXD8
import Derived.Tactics
import Derived.Tactics2
import Derived.Defers
import Derived.Laws.Pointers
import Derived.Laws.LoneSync
import Derived.RegionTactic
import Derived.RegionCalls
import Derived.ChangeAlike
import Derived.Laws.NewBlocks
import Derived.Test.YteinjapglfkamaaGreatXD6
import Derived.Test.YteinjapglfkamaaGreatXD2
import Derived.Test.YteinjapglfkamaaGreatXD3
import Derived.Test.YteinjapglfkamaaGreatXD5
namespace Go.Sy.YteinjapglfkamaaGreat
open Go.Proofs
attribute [local irreducible] Go.Sy.G Go.Sy.DR
set_option maxRecDepth 100000
set_option maxHeartbeats 4000000
theorem Y3 (n:Net) (hn:n.Fin) (m:MacM) (d:Bool) (J D:Int) (hm0:MacOK n m J D) (hD:D≤1000000000000) (o:OutM) (ho:OutOK n o) (origin:Int) :
  Sy.Spec Tryz.prog 177 [.ptr 0 0,Bl o,Aa origin] (De n m d) (.sl 3 Bk (goesM n m o origin).2) (De n (goesM n m o origin).1 d):=cT F177 Tryz.ntmps177 fun F hF=>by
 have hres:=goesM.eq_1 n m o origin
 generalize goesM n m o origin=res at *
 have hdr:H2 m:=fun i=>⟨(hm0.drp i).1,by have:=(hm0.drp i).2;omega⟩
 have hbl:o.bytes.length<100000:=by have:=ho.bytes;omega
 have hin:∀ {x:Int},DomIn n x→0≤x∧x.toNat<m.queues.length:=fun h=>by rw[hm0.ques];exact h
 conv=>whnf
 refine⟨fun h=>?_,fun h=>?_⟩
 ·have h1:o.kind=1:=by simpa using h
  rw[if_pos h1]at hres
  subst hres
  refine oO ?_
  refine Ic 34 Bk [⟨o.port,origin,o.bytes⟩] E E ?_
  refine Ao 34 E ?_
  exact done E (.cons .tmp .nil) [] (De n m d) (fun _ h=>h) E E ⟨Y,⟨.inl E,E,.inl E,E,.inl E,E,.inl E,E,Y⟩,E,E⟩
 have h1:¬ o.kind=1:=by simpa using h
 rw[if_neg h1]at hres
 clear h
 refine oO ?_
 refine⟨fun h=>?_,fun h=>?_⟩
 ·have h2:o.kind=2:=by simpa using h
  rw[if_pos h2]at hres
  have q1:=Ajz n hn o.port o.bytes hbl
  have he:=Acv n o.port o.bytes
  have hd:=fun h=>hin (Acw (n:=n) (port:=o.port) (b:=o.bytes) h)
  have hf:=Z3 n o.port o.bytes
  have ht:=Z2 hn o.port o.bytes
  generalize linkT n o.port o.bytes=r at *
  have q2:=Ui n m d r.2.1 ⟨r.1,0,origin,r.2.2.1⟩ r.2.2.2 he hd hdr (C9 hm0 _) (Dw hf _ qn qy)
  subst hres
  refine oO ?_
  refine cD q1 F241 ?_
  refine oD ?_
  refine kW ?_
  refine kW ?_
  refine Ad (Af [] E F173 q2 E ⟨E,E,E,E,Y⟩ E ⟨.inl E,.inl E,.inl E,.inl E,Y⟩) E E ?_
  refine oO ?_
  refine Am 6 3 Bk E ?_
  exact done E (.cons .tmp .nil) [] (De n (comeM _ _ _ _) d) (fun _ h=>h) E E ⟨Y,⟨.inl E,E,.inl E,E,.inl E,E,.inl E,E,Y⟩,E,E⟩
 have h2:¬ o.kind=2:=by simpa using h
 rw[if_neg h2]at hres
 clear h
 refine oO ?_
 refine⟨fun h=>?_,fun h=>?_⟩
 ·have h2:o.kind=3:=by simpa using h
  rw[if_pos h2]at hres
  have q1:=Aj0 n hn o.bytes hbl
  have he:=Adi n o.bytes
  have hd:=fun h=>hin (Wu (n:=n) (b:=o.bytes) h).2
  have hf:=Aa3 n o.bytes
  have ht:=Ub hn o.bytes
  generalize comeT n o.bytes=r at *
  have q2:=Ui n m d r.2.1 ⟨-1,r.1,origin,r.2.2.1⟩ r.2.2.2 he hd hdr (C9 hm0 _) (Dw hf _ qy ht)
  subst hres
  refine oO ?_
  refine cD q1 F242 ?_
  refine oD ?_
  refine kW ?_
  refine kW ?_
  refine Ad (Af [] E F173 q2 E ⟨E,E,E,E,Y⟩ E ⟨.inl E,.inl E,.inl E,.inl E,Y⟩) E E ?_
  refine oO ?_
  refine Am 6 3 Bk E ?_
  exact done E (.cons .tmp .nil) [] (De n (comeM _ _ _ _) d) (fun _ h=>h) E E ⟨Y,⟨.inl E,E,.inl E,E,.inl E,E,.inl E,E,Y⟩,E,E⟩
 have h3:¬ o.kind=3:=by simpa using h
 rw[if_neg h3]at hres
 clear h
 refine oO ?_
 refine⟨fun h=>?_,fun h=>?_⟩
 ·have h4:o.kind=4:=by simpa using h
  rw[if_pos h4]at hres
  have hf:=ho.frame h4
  have q2:=Ui n m d o.domain ⟨-2,0,origin,o.frame⟩ 0 qy (fun _=>hin hf.2) hdr (C9 hm0 _) (Dw hf.1 _ qy qy)
  subst hres
  refine oO ?_
  refine Ad (Af [] E F173 q2 E ⟨E,E,E,E,Y⟩ E ⟨.inl E,.inl E,.inl E,.inl E,Y⟩) E E ?_
  refine oO ?_
  refine Am 6 3 Bk E ?_
  exact done E (.cons .tmp .nil) [] (De n (comeM _ _ _ _) d) (fun _ h=>h) E E ⟨Y,⟨.inl E,E,.inl E,E,.inl E,E,.inl E,E,Y⟩,E,E⟩
 have h4:¬ o.kind=4:=by simpa using h
 rw[if_neg h4]at hres
 have h5:o.kind=5:=by have:=ho.kind;omega
 have he:=ho.err h5
 have q2:=Ahu n m d o.error he.1 he.2 (hdr _)
 subst hres
 clear h
 refine oO ?_
 refine Ad (Af [] E F176 q2 E ⟨E,E,E,E,Y⟩ E ⟨.inl E,.inl E,.inl E,.inl E,Y⟩) E E ?_
 refine oO ?_
 refine Am 6 3 Bk E ?_
 exact done E (.cons .tmp .nil) [] (De n (Bg m o.error) d) (fun _ h=>h) E E ⟨Y,⟨.inl E,E,.inl E,E,.inl E,E,.inl E,E,Y⟩,E,E⟩
def Agr (up:List Bool) (dn lk:Int) (fw:List Bool):List SV:=[.sl 1 Ab up,.val (.int .u32 dn),.val (.int .i32 lk),.val (.int .u32 0),.sl 1 Ab fw]
def Sp (n:Net) (up:List Bool) (dn lk:Int) (fw:List Bool):Obs:=[(1,.box (Agr up dn lk fw)),(2,.box [.ptr 1 0]),(3,.box (Abl n))]
theorem Anu (n:Net) (hn:n.Fin) (up fw:List Bool) (dn lk:Int) :
  Sy.Spec Tryz.prog 239 [.ptr 3 0,.ptr 2 0] (Sp n up dn lk fw) (.tup []) (Sp n up dn lk (Im n up)):=cT F239 Tryz.ntmps239 fun F hF=>by
 have hf:∃ e,Sy.Spec Tryz.prog 112 [Aj n,.sl 1 Ab up] [] (.tup [.sl 1 Ab (Im n up),Aa e]) []:=by
  unfold Im
  split
  ·rename_i h;exact⟨0,Ada n up hn h⟩
  ·rename_i h;exact⟨2,Aap n up hn (by simpa using h)⟩
 obtain ⟨e,hf⟩:=hf
 generalize Im n up=r at *
 conv=>whnf
 refine cD hf F112 ?_
 refine oD ?_
 refine kW ?_
 exact B3 E .nil [] (Sp n up dn lk r) (fun _ h=>h) E E ⟨Y,⟨.inl E,E,.inl E,E,.inl E,E,Y⟩,E,E⟩
theorem Aqq (a:Addr) (x:Int) (w:World) (hc:w.cell? a=some (.int .u32 x)):(callFunc 353 #[.pointer (some a)]).run Tryz.prog w=.ok (.value (.int .u32 x)) w :=
 run_call_load Tryz.func353 qq qq qq .u32 qq hc
theorem Acp (n:Net) (up fw:List Bool) (dn lk:Int):Sy.Spec Tryz.prog 305 [.ptr 1 1] (Sp n up dn lk fw) (Ab (dn != 0)) (Sp n up dn lk fw):=cT F305 Tryz.ntmps305 fun F hF=>by
 conv=>whnf
 refine Ad (Aby Aqq E E E E) E E ?_
 refine oO ?_
 exact done E (.cons .tmp .nil) [] (Sp n up dn lk fw) (fun _ h=>h) E E ⟨Y,⟨.inl E,E,.inl E,E,.inl E,E,Y⟩,E,E⟩
theorem Uv (w:World):(callFunc 388 #[]).run Tryz.prog w=.ok (.value (.tuple #[])) w:=run_call_mark0 Tryz.func388 qq qq qq .disable qq w
theorem W8 (w:World):(callFunc 390 #[]).run Tryz.prog w=.ok (.value (.tuple #[])) w:=run_call_mark0 Tryz.func390 qq qq qq .enable qq w
theorem Aea (a:Addr) (w:World):(callFunc 391 #[.pointer (some a)]).run Tryz.prog w=.ok (.value (.tuple #[])) w:=run_call_marked Tryz.func391 qq qq qq .acquire qq a w
theorem Ad9 (a:Addr) (w:World):(callFunc 393 #[.pointer (some a)]).run Tryz.prog w=.ok (.value (.tuple #[])) w:=run_call_marked Tryz.func393 qq qq qq .releaseMerge qq a w
theorem Y0 (a:Addr) (x:Value) (u:FrameMode) (w:World) (hc:w.cell? a=some x) (hz:w.frozen? a=false) :
  CallsD Tryz.prog 356 #[.pointer (some a),.bool true] u w fun e u' w'=>u'=u∧(e=.returned (.tuple #[])∧w'=w.drew.setCell a (.int .u32 1)):=by
 have hc':w.drew.cell? a=some x:=by go_simp
 have hz':w.drew.frozen? a=false:=by go_simp
 have hst:=run_call_store (P:=Tryz.prog) Tryz.func378 qq qq qq qq (k:=.u32) (y:=1) hc' hz'
 go_enter_d Tryz.func356,Tryz.ntmps356
 go_wp2
 go_region_calls
 all_goals (go_end0;exact⟨rfl,rfl⟩)
theorem Xy (a:Addr) (u:FrameMode) (w:World) (hc:w.cell? a=some (.int .i32 1)) (hz:w.frozen? a=false) :
  CallsD Tryz.prog 355 #[.pointer (some a)] u w fun e u' w'=>u'=u∧(e=.returned (.tuple #[])∧w'=w.setCell a (.int .i32 0)):=by
 have hd:=Uv
 have he:=W8
 have hr:=Ad9
 have hadd:=run_call_add (P:=Tryz.prog) Tryz.func394 qq qq qq .i32 qq (y:=-1) (s:=0) hc hz (by simp[go_sem];rfl)
 have hcv:=run_convert_to_unsafe (P:=Tryz.prog) (src:=503) (dst:=507) Tryz.underlying503 Tryz.underlying507 qq hc
 go_enter_d Tryz.func355,Tryz.ntmps355
 go_wp2
 go_end0
 go_wp2
 go_end0
 exact⟨E,E⟩
theorem Anx (a:Addr) (w:World) (hc:w.cell? a=some (.int .i32 0)) (hz:w.frozen? a=false) :
  Calls Tryz.prog 354 #[.pointer (some a)] w fun e w'=>e=.returned (.tuple #[])∧w'=w.setCell a (.int .i32 1):=by
 have hd:=Uv
 have he:=W8
 have ha:=Aea
 have hcas:=run_call_cas_hit (P:=Tryz.prog) Tryz.func389 qq qq qq .i32 qq (y:=1) hc hz
 have hc':(w.setCell a (.int .i32 1)).cell? a=some (.int .i32 1):=World.cell?_setCell_same w a _ hc
 have hcv:=run_convert_to_unsafe (P:=Tryz.prog) (src:=503) (dst:=507) Tryz.underlying503 Tryz.underlying507 qq hc'
 go_enter Tryz.func354,Tryz.ntmps354
 go_wp2
 first | go_end0 | (simp only[Exit.inBlock,Exit.then];refine bodyPost_ret (results_none rfl _ _ _) rfl ?_) | refine bodyPost_ret (results_none rfl _ _ _) rfl ?_
 go_wp2
 go_end0
 exact⟨E,E⟩
end Go.Sy.YteinjapglfkamaaGreat
namespace Go.Sy.YteinjapglfkamaaGreat
open Go.Proofs
set_option maxRecDepth 100000
set_option maxHeartbeats 4000000
theorem Ctx.behind {K:Nat→Prop} {κ κ2:Ka} {w w1 w2:World} (s:Step K κ w κ w1) (c:Ctx ⟨w1,κ⟩ κ2 w2):Ctx ⟨w,κ⟩ κ2 w2 where
 size:=Nat.le_trans s.size c.size
 os:=c.os.trans s.os
 tape:=c.tape.trans s.tape
 output:=c.output.trans s.output
 M:=c.M
 old:=fun b hb h=>by
  refine(c.old b (Nat.lt_of_lt_of_le hb s.size) h).trans ?_
  by_cases hm:κ.M b
  ·exact s.mkeep b hm
  ·exact s.blk b hb (fun ho=>by
    rcases ho with ⟨k,hk⟩ | ho
    ·exact h k hk
    ·exact hm ho)
 own:=fun k b hk=>by
  rcases c.own k b hk with h | h
  ·exact .inl (Nat.le_trans s.size h)
  ·exact .inr h
 nam:=c.nam
theorem Aof {κ:Ka} {w:World} (hi:Inv κ w):Step (fun _=>False) κ w κ w.drew∧Inv κ w.drew:=by
 have g:=Grew.drew w
 exact⟨⟨g.size,g.os,g.tape,g.output,E,fun b _=>rfl,fun b _ _=>rfl,fun _ _ _ _=>rfl,fun _ _=>rfl,fun _ h=>h.elim,fun _ h=>.inl h⟩,⟨hi.inj,hi.bnd,hi.apart,hi.mbnd⟩⟩
theorem Ant (n:Net) (hn:n.Fin) (up fw:List Bool) :
  Sy.Spec Tryz.prog 306 [.ptr 1 1,.clo (.func 239) [] [.ptr 3 0,.ptr 2 0]] (Sp n up 0 0 fw) (.tup []) (Sp n up 1 0 (Im n up)):=by
 intro κ w vs hi hnew hvs hok
 have o1:=hok (1,.box (Agr up 0 0 fw)) (by simp[Sp])
 have o2:=hok (2,.box [.ptr 1 0]) (by simp[Sp])
 have o3:=hok (3,.box (Abl n)) (by simp[Sp])
 obtain ⟨b,e1,c1,c2,st1,inv1,ob1⟩:=Jy (off:=2) (x:=.val (.int .i32 1)) (v:=.int .i32 1) hi o1 rfl (fun _ _=>by simp only[Rd]) rfl
 obtain ⟨b2,_,_,_,e2,_⟩:=id o2
 obtain ⟨b3,_,_,_,e3,_⟩:=id o3
 simp only[RdL,Rd,e1,e2,e3]at hvs
 obtain ⟨v0,r0,rfl,rfl,v1,r1,rfl,⟨fs,cs,rfl,hfs,hcs⟩,rfl⟩:=hvs
 subst hfs
 obtain ⟨p3,q3,rfl,rfl,p2,q2,rfl,rfl,rfl⟩:=hcs
 have hcl:=Anu n hn up fw 0 1 κ (w.setCell ⟨b,2,none⟩ (.int .i32 1)) [.pointer (some ⟨b3,0,none⟩),.pointer (some ⟨b2,0,none⟩)] inv1 hnew (by simp only[RdL,Rd,e2,e3];exact⟨_,_,rfl,rfl,_,_,rfl,rfl,rfl⟩) (fun p hp=>by
  simp only[Sp,List.mem_cons,List.not_mem_nil,or_false]at hp
  rcases hp with rfl | rfl | rfl
  ·exact ob1
  ·exact ObOK.step st1 (show ¬ (2:Nat)=1 by decide) _ o2
  ·exact ObOK.step st1 (show ¬ (3:Nat)=1 by decide) _ o3)
 obtain ⟨u1,hu1,hr1⟩:=c1 1 (.val (.int .u32 0)) rfl
 obtain ⟨u2,hu2,hr2⟩:=c1 2 (.val (.int .i32 0)) rfl
 rw[hr1.val]at hu1
 rw[hr2.val]at hu2
 have f1:=c2 1 (show 1<5 by decide)
 have f2:=c2 2 (show 2<5 by decide)
 have hl:=Aqq ⟨b,1,none⟩ 0 (w.setCell ⟨b,2,none⟩ (.int .i32 1)) ((World.cell?_setCell_other _ ⟨b,2,none⟩ ⟨b,1,none⟩ _ qz).trans hu1)
 have hnot:∀ (x:Bool) (w:World),(Op.unary .not (.bool x)).run Tryz.prog w=.ok (.bool (!x)) w:=fun _ _=>rfl
 go_enter_defers Tryz.func306,Tryz.ntmps306
 go_wp2_with (first | (go_at_call 354;refine(Anx ⟨b,2,none⟩ _ (by assumption) (by assumption)).mono ?_;rintro e w' ⟨rfl,rfl⟩) | (go_at_call 239;refine hcl.mono ?_;rintro e w' ⟨v,κ2,rfl,hc2,hi2,hv2,ok2⟩) | (go_at_call 305;go_in))
 have p1:=ok2 (1,.box (Agr up 0 1 (Im n up))) (by simp[Sp])
 have k1:κ2 1=.blk b:=by
  obtain ⟨bb,_,_,_,q1,_⟩:=id p1
  rcases hc2.nam 1 (by rw[e1];intro h;cases h) with h | h
  ·rw[h];exact e1
  ·rw[h]at q1;cases q1
 obtain ⟨ba,a1,a2,a3,_,_,_⟩:=Jy (off:=1) (x:=.val (.int .u32 1)) (v:=.int .u32 1) hi2 p1 rfl (fun _ _=>by simp only[Rd]) rfl
 rw[k1]at a1
 cases a1
 obtain ⟨std,invd⟩:=Aof hi2
 have p2:=ObOK.step std (k:=1) (fun h=>h) _ p1
 obtain ⟨ba,a1,_,_,st3,inv3,ob3⟩:=Jy (off:=1) (x:=.val (.int .u32 1)) (v:=.int .u32 1) invd p2 rfl (fun _ _=>by simp only[Rd]) rfl
 rw[k1]at a1
 cases a1
 have ob3:ObOK κ2 (w'.drew.setCell ⟨b,1,none⟩ (.int .u32 1)) 1 (.box (Agr up 1 1 (Im n up))):=ob3
 obtain ⟨ba,a1,a4,a5,st4,inv4,ob4⟩:=Jy (off:=2) (x:=.val (.int .i32 0)) (v:=.int .i32 0) inv3 ob3 rfl (fun _ _=>by simp only[Rd]) rfl
 rw[k1]at a1
 cases a1
 have ob4:ObOK κ2 ((w'.drew.setCell ⟨b,1,none⟩ (.int .u32 1)).setCell ⟨b,2,none⟩ (.int .i32 0)) 1 (.box (Agr up 1 0 (Im n up))):=ob4
 obtain ⟨v1,hv1,hr1⟩:=a2 1 (.val (.int .u32 0)) rfl
 rw[hr1.val]at hv1
 obtain ⟨v2,hv2,hr2⟩:=a4 2 (.val (.int .i32 1)) rfl
 rw[hr2.val]at hv2
 refine leaves_cons (f:=356) (args:=#[.pointer (some ⟨b,1,none⟩),.bool true]) qz (by simp[go_sem]) ?_
 refine(Y0 ⟨b,1,none⟩ (.int .u32 0) .returning _ hv1 (a3 1 (show 1<5 by decide))).mono ?_
 rintro e u' w'' ⟨rfl,rfl,rfl⟩
 refine leaves_cons (f:=355) (args:=#[.pointer (some ⟨b,2,none⟩)]) (by simp[settle]) (by simp[go_sem]) ?_
 refine(Xy ⟨b,2,none⟩ _ _ hv2 (a5 2 (show 2<5 by decide))).mono ?_
 rintro e u' w'' ⟨rfl,rfl,rfl⟩
 have hst:Step (·=1) κ2 w' κ2 ((w'.drew.setCell ⟨b,1,none⟩ (.int .u32 1)).setCell ⟨b,2,none⟩ (.int .i32 0)):=(std.weaken (fun _ h=>h.elim)).trans (st3.trans st4)
 refine⟨.tuple #[],by simp[results,Tryz.results306],.tuple #[],κ2,E,Ctx.behind st1 (hc2.step inv4 hst),inv4,⟨[],E,E⟩,fun p hp=>?_⟩
 simp only[Sp,List.mem_cons,List.not_mem_nil,or_false]at hp
 rcases hp with rfl | rfl | rfl
 ·exact ob4
 ·exact ObOK.step hst (show ¬ (2:Nat)=1 by decide) _ (ok2 (2,.box [.ptr 1 0]) (by simp[Sp]))
 ·exact ObOK.step hst (show ¬ (3:Nat)=1 by decide) _ (ok2 (3,.box (Abl n)) (by simp[Sp]))
end Go.Sy.YteinjapglfkamaaGreat
namespace Go.Sy.YteinjapglfkamaaGreat
open Go.Proofs
attribute [local irreducible] Go.Sy.G Go.Sy.DR
set_option maxRecDepth 100000
set_option maxHeartbeats 4000000
def Vu (n:Net) (up:List Bool) (d:Bool):Obs:=[(1,.box (Ol n up d)),(2,.box [.ptr 1 0]),(3,.box (Abl n))]
theorem As4 (n:Net) (hn:n.Fin) (up:List Bool) :
  Sy.Spec Tryz.prog 238 [.ptr 1 1,.clo (.func 239) [] [.ptr 3 0,.ptr 2 0]] (Vu n up false) (.tup []) (Vu n up true):=cT F238 Tryz.ntmps238 fun F hF=>by
 have q1:Sy.Spec Tryz.prog 305 [.ptr 1 1] (Vu n up false) (Ab false) (Vu n up false):=Acp n up [] 0 0
 have q2:Sy.Spec Tryz.prog 306 [.ptr 1 1,.clo (.func 239) [] [.ptr 3 0,.ptr 2 0]] (Vu n up false) (.tup []) (Vu n up true):=Ant n hn up []
 conv=>whnf
 refine Ad (Af [] E F305 q1 E ⟨E,E,E,Y⟩ E ⟨.inl E,.inl E,.inl E,Y⟩) E E ?_
 refine oT ?_
 refine Ad (Af [] E F306 q2 E ⟨E,E,E,Y⟩ E ⟨.inl E,.inl E,.inl E,Y⟩) E E ?_
 refine oO ?_
 exact B3 E .nil [] (Vu n up true) (fun _ h=>h) E E ⟨Y,⟨.inl E,E,.inl E,E,.inl E,E,Y⟩,E,E⟩
theorem As3 (n:Net) (up:List Bool) :
  Sy.Spec Tryz.prog 238 [.ptr 1 1,.clo (.func 239) [] [.ptr 3 0,.ptr 2 0]] (Vu n up true) (.tup []) (Vu n up true):=cT F238 Tryz.ntmps238 fun F hF=>by
 have q1:Sy.Spec Tryz.prog 305 [.ptr 1 1] (Vu n up true) (Ab true) (Vu n up true):=Acp n up (Im n up) 1 0
 conv=>whnf
 refine Ad (Af [] E F305 q1 E ⟨E,E,E,Y⟩ E ⟨.inl E,.inl E,.inl E,Y⟩) E E ?_
 refine oF ?_
 exact B3 E .nil [] (Vu n up true) (fun _ h=>h) E E ⟨Y,⟨.inl E,E,.inl E,E,.inl E,E,Y⟩,E,E⟩
theorem As2 (n:Net) (hn:n.Fin) (up:List Bool) (d:Bool) :
  Sy.Spec Tryz.prog 238 [.ptr 1 1,.clo (.func 239) [] [.ptr 3 0,.ptr 2 0]] (Vu n up d) (.tup []) (Vu n up true):=by
 cases d
 ·exact As4 n hn up
 ·exact As3 n up
theorem Amw (n:Net) (hn:n.Fin) (up:List Bool) (d:Bool) :
  Sy.Spec Tryz.prog 175 [.ptr 1 0,Aj n] [(1,.box (Ol n up d))] (.sl 1 Ab (Im n up)) [(1,.box (Ol n up true))]:=cT F175 Tryz.ntmps175 fun F hF=>by
 conv=>whnf
 refine Ad (Af [] E F238 (As2 n hn up d) E ⟨E,E,E,Y⟩ E ⟨.inl E,.inl E,.inl E,Y⟩) E E ?_
 refine oO ?_
 exact done E (.cons .tmp .nil) [] [(1,.box (Ol n up true))] (fun _ h=>h) E E ⟨Y,⟨.inl E,E,Y⟩,E,E⟩
end Go.Sy.YteinjapglfkamaaGreat
namespace Go.Sy.YteinjapglfkamaaGreat
open Go.Proofs
theorem Qw {n:Net} {fw:List Bool} {t:List EntryM} {dom:Int} {q:QueuedM} {now:Int} (ht:TabOK t) (hq:QueuedOK q):TabOK (bridgeT n fw t dom q now).1:=by
 unfold bridgeT
 split
 ·exact Wh
 split
 ·split
  ·exact Mf ht hq now
  ·exact Mf ht hq now
 ·exact Mf ht hq now
theorem Qx {n:Net} (_hn:n.Fin) (hm0:n.Num) {fw:List Bool} {t:List EntryM} {dom:Int} {q:QueuedM} {now:Int} (hq:QueuedOK q):∀ o∈(bridgeT n fw t dom q now).2.1,OutOK n o:=by
 intro o ho
 unfold bridgeT at ho
 split at ho
 ·cases ho
 rename_i h0
 have hb:Ae n=true:=by
  cases hx:Ae n
  ·exact absurd (.inl (by unfold roomB;rw[hx];simp)) h0
  ·rfl
 split at ho
 ·split at ho
  ·cases ho
  ·rename_i h1
   have h1:=Decidable.not_not.1 h1
   have hin:∀ (d:Int),(lookT n (routerT n dom q.frame.dst).1 d).2=true→0≤(lookT n (routerT n dom q.frame.dst).1 d).1∧(lookT n (routerT n dom q.frame.dst).1 d).1.toNat<n.irbs.length:=fun d h=>Ag0 h
   rw[List.mem_singleton.1 ho]
   exact⟨by dsimp only;omega,by simp,fun _=>⟨Ate n hm0 _ _ hin,Aq2 hin h1⟩,fun h=>by dsimp only at h;omega⟩
 ·rcases List.mem_append.1 ho with h | h
  ·obtain ⟨p,_,rfl⟩:=List.mem_map.1 h
   unfold E8
   exact Agz (by dsimp only;split<;>omega) (Abn _ _ _ _ hq.frame) (Ajx _ _ _ _)
  ·obtain ⟨p,_,rfl⟩:=List.mem_map.1 h
   unfold H7
   exact Agz (by dsimp only;omega) (by have:=Aeg n dom p q.frame;omega) (Anw _ _ _ _)
theorem Lr {n:Net} (hn:n.Fin) (fw:List Bool) (t:List EntryM) (dom:Int) (q:QueuedM) (now:Int):(bridgeT n fw t dom q now).2.1.length<4294967296:=by
 unfold bridgeT
 split
 ·show (0:Nat)<4294967296;decide
 split
 ·split
  ·show (0:Nat)<4294967296;decide
  ·show (1:Nat)<4294967296;decide
 ·have:=T8 hn fw (learnQ t q now) dom q.from_ q.frame.dst
  simp only[List.length_append,List.length_map]
  omega
theorem Vh (n:Net) (origin:Int):∀ (a b:List OutM) (m:MacM),A7 n m origin (a++b)=((A7 n (A7 n m origin a).1 origin b).1,(A7 n m origin a).2++(A7 n (A7 n m origin a).1 origin b).2)
 | [],b,m=>by simp[A7]
 | o::a,b,m=>by
  rw[List.cons_append,A7,A7,Vh n origin a b]
  simp
theorem I8 (n:Net) (m:MacM) (origin:Int) (l:List OutM) (j:Nat) (hj:j<l.length) :
  A7 n m origin (l.take (j+1))=((goesM n (A7 n m origin (l.take j)).1 l[j] origin).1,(A7 n m origin (l.take j)).2++(goesM n (A7 n m origin (l.take j)).1 l[j] origin).2):=by
 rw[List.take_succ_eq_append_getElem hj,Vh]
 simp[A7]
theorem I7 (n:Net) (m:MacM) (o:OutM) (origin:Int):(goesM n m o origin).2.length≤1:=by
 unfold goesM
 split
 ·simp
 split
 ·simp
 split
 ·simp
 split<;>simp
theorem Ih (n:Net) (origin:Int):∀ (l:List OutM) (m:MacM),(A7 n m origin l).2.length≤l.length
 | [],m=>by simp[A7]
 | o::l,m=>by
  rw[A7]
  have h1:=Ih n origin l (goesM n m o origin).1
  have h2:=I7 n m o origin
  simp only[List.length_append,List.length_cons]
  omega
end Go.Sy.YteinjapglfkamaaGreat
namespace Go.Sy.YteinjapglfkamaaGreat
open Go.Proofs
attribute [local irreducible] Go.Sy.G Go.Sy.DR
set_option maxRecDepth 100000
set_option maxHeartbeats 4000000
theorem Zv {n:Net} {m:MacM} {J D:Int} (h:MacOK n m J D) (hD:0≤D) (dom:Int) {r:List EntryM × List OutM × Int} (hr:TabOK r.1):MacOK n (Is m dom r) J (D+1):=by
 unfold Is
 split
 ·exact Qs h hD 2
 split
 ·exact Qs (Adw h dom hr) hD _
 ·exact(Adw h dom hr).mono (Int.le_refl _) qn
def queL (q:QueuedM):List SV:=[Aa q.from_,Aa q.peer,Aa q.origin,As q.frame.dst,As q.frame.src,Aa q.frame.typ,.sl 1 Ag q.frame.body]
def Ap9 (n:Net) (m:MacM) (q:QueuedM) (l:List SeenM):Obs:=[(0,.box (X0 n 1 m.now m.injected m.drops)),(1,.box (Ol n m.up true)),(2,.row 1 D4 m.tables),(3,.row 1 Lh m.queues),(7,.box (queL q)),(1000,.row 3 Bk l)]
theorem Apk (n:Net) (hn:n.Fin) (hm1:n.Num) (m:MacM) (d:Bool) (J D:Int) (hm0:MacOK n m J D) (hD0:0≤D) (hD:D≤900000000000) (dom at_:Int) :
  Sy.Spec Tryz.prog 115 [.ptr 0 0,Aa dom,Aa at_] (De n m d) (.sl 3 Bk (pickT n m dom at_).2) (De n (pickT n m dom at_).1 (if (takeM m dom at_).2.2 then true else d)):=cT F115 Tryz.ntmps115 fun F hF=>by
 have hres:=pickT.eq_1 n m dom at_
 generalize pickT n m dom at_=res at *
 have q1:=Afu n m d dom at_ (C9 hm0 dom)
 have hok:=Uh hm0 dom at_
 have hpl:(takeM m dom at_).2.2=true→0≤dom∧dom.toNat<m.queues.length:=fun h=>by
  unfold takeM at h
  split at h
  ·cases h
  ·rename_i h2
   exact placeB_iff.1 (by cases hx:Ai dom m.queues.length;exact absurd hx h2;rfl)
 have htl:(takeM m dom at_).1.tables=m.tables:=by unfold takeM;split<;>rfl
 generalize takeM m dom at_=r at *
 obtain ⟨m1,q,ok⟩:=r
 have htq:m.queues.length=m.tables.length:=by rw[hm0.ques,hm0.tabs]
 conv=>whnf
 refine Ad (Af [] E F116 q1 E ⟨E,E,E,E,Y⟩ E ⟨.inl E,.inl E,.inl E,.inl E,Y⟩) E E ?_
 refine oO ?_
 cases ok
 ·rw[if_pos rfl]at hres
  subst hres
  (refine⟨fun _=>?_,fun h=>False.elim (by simp at h)⟩;refine rg ?_;conv=>whnf)
  refine Am 6 3 Bk E ?_
  exact done E (.cons .tmp .nil) [] (De n m1 d) (fun _ h=>h) E E ⟨Y,⟨.inl E,E,.inl E,E,.inl E,E,.inl E,E,Y⟩,E,E⟩
 rw[if_neg qz]at hres
 have hd:=hpl rfl
 have hd2:0≤dom∧dom.toNat<m1.tables.length:=by rw[htl,← htq];exact hd
 dsimp only at hres hok
 have q2:=Amw n hn m1.up d
 have q3:=Ah2 n hn hm1 (Im n m1.up) (tableL m1 dom) dom q m1.now (L5 hok.1 dom) hok.2
 have hb1:=Qw (n:=n) (fw:=Im n m1.up) (dom:=dom) (now:=m1.now) (L5 hok.1 dom) hok.2
 have hb2:=Qx (fw:=Im n m1.up) (t:=tableL m1 dom) (dom:=dom) (now:=m1.now) hn hm1 hok.2
 have hb3:=Lr hn (Im n m1.up) (tableL m1 dom) dom q m1.now
 have hb4:=Xt n (Im n m1.up) (tableL m1 dom) dom q m1.now
 rw[Qa]at hres
 have hz:=Zv hok.1 hD0 dom hb1
 generalize bridgeT n (Im n m1.up) (tableL m1 dom) dom q m1.now=b at *
 obtain ⟨t,out,e⟩:=b
 have hb2:∀ o∈out,OutOK n o:=hb2
 have hb3:out.length<4294967296:=hb3
 have hb4:B1 e:=hb4
 have ht0:=tableL.eq_1 m1 dom
 rw[Oc hd2.2]at ht0
 generalize tableL m1 dom=t0 at *
 subst ht0
 (refine⟨fun h=>False.elim (by simp at h),fun _=>?_⟩;refine rg ?_;conv=>whnf)
 refine Bd (Af [] E F175 q2 E ⟨E,Y⟩ E ⟨.inl E,Y⟩) qq E ?_
 refine oD ?_
 refine⟨hd2.1,hd2.2,?_⟩
 conv=>whnf
 refine⟨E,hd2.2,?_⟩
 conv=>whnf
 refine cD q3 F174 ?_
 refine oD ?_
 refine kW ?_
 refine⟨fun h=>?_,fun h=>?_⟩
 ·have h2:¬ e=2:=by simpa using h
  clear h
  refine oO ?_
  refine⟨hd2.1,hd2.2,?_⟩
  conv=>whnf
  refine⟨E,hd2.2,t,E,E,?_⟩
  conv=>whnf
  refine⟨fun h=>?_,fun h=>?_⟩
  ·have h3:¬ e=0:=by simpa using h
   clear h
   have hpd:Is m1 dom (t,out,e)=Bg (Bz m1 dom t) e:=by
    unfold Is
    rw[if_neg h2,if_pos h3]
   rw[hpd]at hres hz
   subst hres
   have q4:=Ahu n (Bz m1 dom t) true e hb4.1 hb4.2 ⟨(hok.1.drp _).1,by have:=(hok.1.drp e.toNat).2;show m1.drops e.toNat≤1000000000000;omega⟩
   refine oO ?_
   refine Ad (Af [] E F176 q4 E ⟨E,E,E,E,Y⟩ E ⟨.inl E,.inl E,.inl E,.inl E,Y⟩) E E ?_
   refine oO ?_
   have hdr:H2 (Bg (Bz m1 dom t) e):=fun i=>⟨(hz.drp i).1,by have:=(hz.drp i).2;omega⟩
   refine Bm 12 1000 3 Bk E E ?_
   refine At out.length (fun j=>[(0,.ptr 0 0),(7,.ptr 7 0),(12,.osl 1000),(69,.sl 9 Bl out),(70,Aa out.length),(71,Aa j)]) (fun j=>Ap9 n (A7 n (Bg (Bz m1 dom t) e) q.origin (out.take j)).1 q (A7 n (Bg (Bz m1 dom t) e) q.origin (out.take j)).2) [] ⟨⟨E,E,E,E,E,E,E,E,E,E,E,E,Y⟩,⟨.inl E,E,.inl E,E,.inl E,E,.inl E,E,.inl E,E,.inl E,E,Y⟩,E,E⟩ ?_
   intro j hj
   refine oO ?_
   refine⟨fun h=>?_,fun h=>?_⟩
   ·have hlt:j<out.length:=qA h
    have hj0:((j:Nat):Int).toNat<out.length:=by simpa using hlt
    obtain ⟨o,hoo⟩:∃ o,out[j]=o:=⟨_,rfl⟩
    have e1:out[((j:Nat):Int).toNat]'hj0=o:=hoo
    have hs:=I8 n (Bg (Bz m1 dom t) e) q.origin out j hlt
    rw[hoo]at hs
    have hjo:=Jv hn q.origin (out.take j) hz qn (fun x hx=>hb2 x (List.mem_of_mem_take hx))
    have hlen:(out.take j).length=j:=by rw[List.length_take];omega
    rw[hlen]at hjo
    have hsl:=Ih n q.origin (out.take j) (Bg (Bz m1 dom t) e)
    rw[hlen]at hsl
    have q5:=Y3 n hn (A7 n (Bg (Bz m1 dom t) e) q.origin (out.take j)).1 true J _ hjo qn o (hb2 o (by rw[← hoo];exact List.getElem_mem hlt)) q.origin
    have hfw:=I7 n (A7 n (Bg (Bz m1 dom t) e) q.origin (out.take j)).1 o q.origin
    clear h
    refine oO ?_
    refine⟨E,by omega,hj0,?_⟩
    rw[e1]
    conv=>whnf
    refine Ad (Af [] E F177 q5 E ⟨E,E,E,E,Y⟩ E ⟨.inl E,.inl E,.inl E,.inl E,Y⟩) E E ?_
    refine oO ?_
    refine Ad (Ac Γ.toTy 81 E E E E E (.row E) .sl qz qn qn) E E ?_
    refine oO ?_
    refine iW ?_
    have g1:(A7 n (Bg (Bz m1 dom t) e) q.origin (out.take (j+1))).1=(goesM n (A7 n (Bg (Bz m1 dom t) e) q.origin (out.take j)).1 o q.origin).1:=by rw[hs]
    have g2:(A7 n (Bg (Bz m1 dom t) e) q.origin (out.take (j+1))).2=(A7 n (Bg (Bz m1 dom t) e) q.origin (out.take j)).2++(goesM n (A7 n (Bg (Bz m1 dom t) e) q.origin (out.take j)).1 o q.origin).2:=by rw[hs]
    refine An [(1000,81)] hlt ⟨⟨E,E,E,E,E,E,E,E,E,E,E,E,Y⟩,?_,E,E⟩
    dsimp only
    rw[g1,g2]
    exact⟨.inl E,E,.inl E,E,.inl E,E,.inl E,E,.inl E,E,.inl E,E,Y⟩
   ·have hjj:j=out.length:=qB h
    subst hjj
    rw[List.take_length]
    clear h
    refine oO ?_
    refine Ao 1000 E ?_
    exact done E (.cons .tmp .nil) [] (De n (A7 n (Bg (Bz m1 dom t) e) q.origin out).1 true) (fun _ h=>h) E E ⟨Y,⟨.inl E,E,.inl E,E,.inl E,E,.inl E,E,Y⟩,E,E⟩
  ·have h3:e=0:=by simpa using h
   clear h
   have hpd:Is m1 dom (t,out,e)=Bz m1 dom t:=by
    unfold Is
    rw[if_neg h2,if_neg (fun h=>h h3)]
   rw[hpd]at hres hz
   subst hres
   refine oO ?_
   have hdr:H2 (Bz m1 dom t):=fun i=>⟨(hz.drp i).1,by have:=(hz.drp i).2;omega⟩
   refine Bm 12 1000 3 Bk E E ?_
   refine At out.length (fun j=>[(0,.ptr 0 0),(7,.ptr 7 0),(12,.osl 1000),(69,.sl 9 Bl out),(70,Aa out.length),(71,Aa j)]) (fun j=>Ap9 n (A7 n (Bz m1 dom t) q.origin (out.take j)).1 q (A7 n (Bz m1 dom t) q.origin (out.take j)).2) [] ⟨⟨E,E,E,E,E,E,E,E,E,E,E,E,Y⟩,⟨.inl E,E,.inl E,E,.inl E,E,.inl E,E,.inl E,E,.inl E,E,Y⟩,E,E⟩ ?_
   intro j hj
   refine oO ?_
   refine⟨fun h=>?_,fun h=>?_⟩
   ·have hlt:j<out.length:=qA h
    have hj0:((j:Nat):Int).toNat<out.length:=by simpa using hlt
    obtain ⟨o,hoo⟩:∃ o,out[j]=o:=⟨_,rfl⟩
    have e1:out[((j:Nat):Int).toNat]'hj0=o:=hoo
    have hs:=I8 n (Bz m1 dom t) q.origin out j hlt
    rw[hoo]at hs
    have hjo:=Jv hn q.origin (out.take j) hz qn (fun x hx=>hb2 x (List.mem_of_mem_take hx))
    have hlen:(out.take j).length=j:=by rw[List.length_take];omega
    rw[hlen]at hjo
    have hsl:=Ih n q.origin (out.take j) (Bz m1 dom t)
    rw[hlen]at hsl
    have q5:=Y3 n hn (A7 n (Bz m1 dom t) q.origin (out.take j)).1 true J _ hjo qn o (hb2 o (by rw[← hoo];exact List.getElem_mem hlt)) q.origin
    have hfw:=I7 n (A7 n (Bz m1 dom t) q.origin (out.take j)).1 o q.origin
    clear h
    refine oO ?_
    refine⟨E,by omega,hj0,?_⟩
    rw[e1]
    conv=>whnf
    refine Ad (Af [] E F177 q5 E ⟨E,E,E,E,Y⟩ E ⟨.inl E,.inl E,.inl E,.inl E,Y⟩) E E ?_
    refine oO ?_
    refine Ad (Ac Γ.toTy 81 E E E E E (.row E) .sl qz qn qn) E E ?_
    refine oO ?_
    refine iW ?_
    have g1:(A7 n (Bz m1 dom t) q.origin (out.take (j+1))).1=(goesM n (A7 n (Bz m1 dom t) q.origin (out.take j)).1 o q.origin).1:=by rw[hs]
    have g2:(A7 n (Bz m1 dom t) q.origin (out.take (j+1))).2=(A7 n (Bz m1 dom t) q.origin (out.take j)).2++(goesM n (A7 n (Bz m1 dom t) q.origin (out.take j)).1 o q.origin).2:=by rw[hs]
    refine An [(1000,81)] hlt ⟨⟨E,E,E,E,E,E,E,E,E,E,E,E,Y⟩,?_,E,E⟩
    dsimp only
    rw[g1,g2]
    exact⟨.inl E,E,.inl E,E,.inl E,E,.inl E,E,.inl E,E,.inl E,E,Y⟩
   ·have hjj:j=out.length:=qB h
    subst hjj
    rw[List.take_length]
    clear h
    refine oO ?_
    refine Ao 1000 E ?_
    exact done E (.cons .tmp .nil) [] (De n (A7 n (Bz m1 dom t) q.origin out).1 true) (fun _ h=>h) E E ⟨Y,⟨.inl E,E,.inl E,E,.inl E,E,.inl E,E,Y⟩,E,E⟩
 ·have h2:e=2:=by simpa using h
  clear h
  subst h2
  have hpd:Is m1 dom (t,out,2)=Bg m1 2:=by
   unfold Is
   rw[if_pos rfl]
  rw[hpd]at hres hz
  subst hres
  have q4:=Ahu n m1 true 2 qy qy ⟨(hok.1.drp _).1,by have:=(hok.1.drp (Int.toNat 2)).2;omega⟩
  refine oT ?_
  refine Ad (Af [] E F176 q4 E ⟨E,E,E,E,Y⟩ E ⟨.inl E,.inl E,.inl E,.inl E,Y⟩) E E ?_
  refine oO ?_
  have hdr:H2 (Bg m1 2):=fun i=>⟨(hz.drp i).1,by have:=(hz.drp i).2;omega⟩
  refine Bm 12 1000 3 Bk E E ?_
  refine At out.length (fun j=>[(0,.ptr 0 0),(7,.ptr 7 0),(12,.osl 1000),(69,.sl 9 Bl out),(70,Aa out.length),(71,Aa j)]) (fun j=>Ap9 n (A7 n (Bg m1 2) q.origin (out.take j)).1 q (A7 n (Bg m1 2) q.origin (out.take j)).2) [] ⟨⟨E,E,E,E,E,E,E,E,E,E,E,E,Y⟩,⟨.inl E,E,.inl E,E,.inl E,E,.inl E,E,.inl E,E,.inl E,E,Y⟩,E,E⟩ ?_
  intro j hj
  refine oO ?_
  refine⟨fun h=>?_,fun h=>?_⟩
  ·have hlt:j<out.length:=qA h
   have hj0:((j:Nat):Int).toNat<out.length:=by simpa using hlt
   obtain ⟨o,hoo⟩:∃ o,out[j]=o:=⟨_,rfl⟩
   have e1:out[((j:Nat):Int).toNat]'hj0=o:=hoo
   have hs:=I8 n (Bg m1 2) q.origin out j hlt
   rw[hoo]at hs
   have hjo:=Jv hn q.origin (out.take j) hz qn (fun x hx=>hb2 x (List.mem_of_mem_take hx))
   have hlen:(out.take j).length=j:=by rw[List.length_take];omega
   rw[hlen]at hjo
   have hsl:=Ih n q.origin (out.take j) (Bg m1 2)
   rw[hlen]at hsl
   have q5:=Y3 n hn (A7 n (Bg m1 2) q.origin (out.take j)).1 true J _ hjo qn o (hb2 o (by rw[← hoo];exact List.getElem_mem hlt)) q.origin
   have hfw:=I7 n (A7 n (Bg m1 2) q.origin (out.take j)).1 o q.origin
   clear h
   refine oO ?_
   refine⟨E,by omega,hj0,?_⟩
   rw[e1]
   conv=>whnf
   refine Ad (Af [] E F177 q5 E ⟨E,E,E,E,Y⟩ E ⟨.inl E,.inl E,.inl E,.inl E,Y⟩) E E ?_
   refine oO ?_
   refine Ad (Ac Γ.toTy 81 E E E E E (.row E) .sl qz qn qn) E E ?_
   refine oO ?_
   refine iW ?_
   have g1:(A7 n (Bg m1 2) q.origin (out.take (j+1))).1=(goesM n (A7 n (Bg m1 2) q.origin (out.take j)).1 o q.origin).1:=by rw[hs]
   have g2:(A7 n (Bg m1 2) q.origin (out.take (j+1))).2=(A7 n (Bg m1 2) q.origin (out.take j)).2++(goesM n (A7 n (Bg m1 2) q.origin (out.take j)).1 o q.origin).2:=by rw[hs]
   refine An [(1000,81)] hlt ⟨⟨E,E,E,E,E,E,E,E,E,E,E,E,Y⟩,?_,E,E⟩
   dsimp only
   rw[g1,g2]
   exact⟨.inl E,E,.inl E,E,.inl E,E,.inl E,E,.inl E,E,.inl E,E,Y⟩
  ·have hjj:j=out.length:=qB h
   subst hjj
   rw[List.take_length]
   clear h
   refine oO ?_
   refine Ao 1000 E ?_
   exact done E (.cons .tmp .nil) [] (De n (A7 n (Bg m1 2) q.origin out).1 true) (fun _ h=>h) E E ⟨Y,⟨.inl E,E,.inl E,E,.inl E,E,.inl E,E,Y⟩,E,E⟩
theorem V4 (l:List (List EntryM)) (now:Int) (j:Nat) (hj:j<l.length) :
  ((l.take j).map (fun t=>ageT t now)++l.drop j).set j (ageT l[j] now)=(l.take (j+1)).map (fun t=>ageT t now)++l.drop (j+1):=by
 apply List.ext_getElem
 ·simp only[List.length_set,List.length_append,List.length_map,List.length_take,List.length_drop];omega
 intro i h1 h2
 simp only[List.length_set,List.length_append,List.length_map,List.length_take,List.length_drop]at h1
 rw[List.getElem_set]
 by_cases hi:j=i
 ·subst hi
  rw[if_pos rfl,List.getElem_append_left (by simp;omega)]
  simp
 ·rw[if_neg hi]
  by_cases hlt:i<j
  ·rw[List.getElem_append_left (by simp;omega),List.getElem_append_left (by simp;omega)]
   simp
  ·rw[List.getElem_append_right (by simp;omega),List.getElem_append_right (by simp;omega)]
   simp only[List.getElem_drop,List.length_map,List.length_take]
   congr 1
   omega
theorem An7 {P:Program} {o:Oper} {s:SS} {x y:Operand} {at_:Array TypeId} {k k':IntKind} {m n r:Int} (hr:(if n<m then n else m)=r) (h:o.op=.call ⟨.builtin .min,#[x,y],at_⟩)
  (hx:ev s x=.val (.int k m)) (hy:ev s y=.val (.int k' n)):Good P o s ⟨.val (.int k r),[],[]⟩:=by
 have:=Ara (P:=P) h hx hy
 rwa [hr]at this
def L3 (l:List (List EntryM)) (now:Int) (j:Nat):List (List EntryM):=(l.take j).map (fun t=>ageT t now)++l.drop j
theorem Aa8 (l:List (List EntryM)) (now:Int) (j:Nat) (hj:j<l.length) (h2:j<(L3 l now j).length):(L3 l now j)[j]=l[j]:=by
 have h:(L3 l now j)[j]? = l[j]?:=by
  unfold L3
  have hm:min j l.length=j:=by omega
  rw[List.getElem?_append_right (by simp;omega),List.getElem?_drop,List.length_map,List.length_take,hm,Nat.sub_self,Nat.add_zero]
 rw[List.getElem?_eq_getElem hj,List.getElem?_eq_getElem h2]at h
 exact Option.some.inj h
theorem Q1 (l:List (List EntryM)) (now:Int) (j:Nat):(L3 l now j).length=l.length:=by
 unfold L3
 simp only[List.length_append,List.length_map,List.length_take,List.length_drop]
 omega
def tickO (n:Net) (m:MacM) (d:Bool) (now:Int) (j:Nat):Obs:=[(0,.box (X0 n 1 now m.injected m.drops)),(1,.box (Ol n m.up d)),(2,.row 1 D4 (L3 m.tables now j)),(3,.row 1 Lh m.queues)]
theorem Apj (n:Net) (m:MacM) (d:Bool) (J D:Int) (hm0:MacOK n m J D) (hs:Ap n.domains) :
  Sy.Spec Tryz.prog 117 [.ptr 0 0] (De n m d) (.tup []) (De n (Oj m) d):=cT F117 Tryz.ntmps117 fun F hF=>by
 unfold Ap at hs
 have hnow:=hm0.now
 have htl:m.tables.length<2147483648:=by rw[hm0.tabs];exact hs
 have hto:=hm0.tab
 obtain ⟨nw,hnw⟩:∃ nw,(if 1099511627776<m.now+1 then 1099511627776 else m.now+1)=nw:=⟨_,rfl⟩
 have hti:Oj m=⟨m.up,L3 m.tables nw m.tables.length,m.queues,nw,m.injected,m.drops⟩:=by
  have:min (m.now+1) 1099511627776=nw:=by rw[← hnw];split<;>omega
  unfold Oj L3
  rw[this,List.take_length,List.drop_length,List.append_nil]
 rw[hti]
 conv=>whnf
 refine iW ?_
 refine Ad (An7 hnw E E E) E E ?_
 refine oO ?_
 refine At m.tables.length (fun j=>[(0,.ptr 0 0),(16,.osl 2),(17,Aa m.tables.length),(18,Aa j)]) (fun j=>tickO n m d nw j) [] ⟨⟨E,E,E,E,E,E,E,E,Y⟩,⟨.inl E,E,.inl E,E,.inl E,E,.inl E,E,Y⟩,E,E⟩ ?_
 intro j hj
 refine oO ?_
 refine⟨fun h=>?_,fun h=>?_⟩
 ·have hlt:j<m.tables.length:=qA h
  have hal:=Q1 m.tables nw j
  have hj0:((j:Nat):Int).toNat<(L3 m.tables nw j).length:=by rw[hal];simpa using hlt
  obtain ⟨t,hoo⟩:∃ t,m.tables[j]=t:=⟨_,rfl⟩
  have e1:(L3 m.tables nw j)[((j:Nat):Int).toNat]'hj0=t:=(Aa8 m.tables nw j hlt (by rw[hal];exact hlt)).trans hoo
  have hs:=V4 m.tables nw j hlt
  rw[hoo]at hs
  have ht:=hto t (by rw[← hoo];exact List.getElem_mem hlt)
  clear h
  refine oO ?_
  refine⟨by omega,hj0,?_⟩
  conv=>whnf
  refine⟨E,hj0,?_⟩
  rw[e1]
  conv=>whnf
  refine cD (Asl t nw ht.short ht.mac) F178 ?_
  refine oD ?_
  refine⟨by omega,hj0,?_⟩
  conv=>whnf
  refine⟨E,hj0,ageT t nw,E,E,?_⟩
  conv=>whnf
  refine kW ?_
  refine iW ?_
  exact An [] hlt ⟨⟨E,E,E,E,E,E,E,E,Y⟩,⟨.inl E,E,.inl E,E,.inl (congrArg (Ob.row 1 D4) hs.symm),E,.inl E,E,Y⟩,E,E⟩
 ·have hjj:j=m.tables.length:=qB h
  subst hjj
  clear h
  refine oO ?_
  exact B3 E .nil [] (De n ⟨m.up,L3 m.tables nw m.tables.length,m.queues,nw,m.injected,m.drops⟩ d) (fun _ h=>h) E E ⟨Y,⟨.inl E,E,.inl E,E,.inl E,E,.inl E,E,Y⟩,E,E⟩
def Afv (n:Net) (m:MacM) (d:Bool):Obs:=[(0,.box (X0 n 4 m.now m.injected m.drops)),(1,.non),(2,.row 1 D4 m.tables),(3,.row 1 Lh m.queues),(4,.box (Ol n m.up d))]
def upT (m:MacM) (up:List Bool):MacM:=⟨up,m.tables,m.queues,m.now,m.injected,m.drops⟩
def doD (n:Net) (m:MacM) (d:Bool) (x:StepM):Bool :=
 if x.kind=1 then d else if x.kind=2 then (if (takeM m x.domain x.at_).2.2 then true else d) else if x.kind=3 then d else if x.kind=4 then d else if x.kind=5 then (if x.up.length=n.links.length then false else d) else d
theorem Apo (n:Net) (hn:n.Fin) (hm1:n.Num) (m:MacM) (d:Bool) (J D:Int) (hm0:MacOK n m J D) (hJ:J<900000000000) (hD0:0≤D) (hD:D≤900000000000) (x:StepM) (hb:x.bytes.length<100000) :
  Sy.Spec Tryz.prog 52 [.ptr 0 0,Bo x] (De n m d) (.tup [.sl 3 Bk (doT n m x).2,Aa 0]) (Afv n (doT n m x).1 (doD n m d x)):=cT F52 Tryz.ntmps52 fun F hF=>by
 have hres:=doT.eq_1 n m x
 generalize doT n m x=res at *
 have hdd:=doD.eq_1 n m d x
 generalize doD n m d x=dd at *
 conv=>whnf
 refine Ad (Ahh (d:=900) E E E) E E ?_
 refine oF ?_
 refine⟨fun h=>?_,fun h=>?_⟩
 ·have h1:x.kind=1:=by simpa using h
  rw[if_pos h1]at hres hdd
  subst hres
  subst hdd
  have q1:=Aig n hn m dd J D hm0 qn qn x.port x.bytes hb
  refine oO ?_
  refine Ad (Af [] E F114 q1 E ⟨E,E,E,E,Y⟩ E ⟨.inl E,.inl E,.inl E,.inl E,Y⟩) E E ?_
  refine oO ?_
  refine Am 4 3 Bk E ?_
  refine Jd 1 4 E E qy ?_
  exact done E (.cons .tmp (.cons .tmp .nil)) [] (Afv n (injectT n m x.port x.bytes) dd) (fun _ h=>h) E E ⟨Y,⟨.inl E,E,.inl E,E,.inl E,E,.inl E,E,.inl E,E,Y⟩,E,E⟩
 have h1:¬ x.kind=1:=by simpa using h
 rw[if_neg h1]at hres hdd
 clear h
 refine oO ?_
 refine⟨fun h=>?_,fun h=>?_⟩
 ·have h1:x.kind=2:=by simpa using h
  rw[if_pos h1]at hres hdd
  subst hres
  have q1:=Apk n hn hm1 m d J D hm0 hD0 hD x.domain x.at_
  rw[← hdd]at q1
  refine oO ?_
  refine Ad (Af [] E F115 q1 E ⟨E,E,E,E,Y⟩ E ⟨.inl E,.inl E,.inl E,.inl E,Y⟩) E E ?_
  refine oO ?_
  refine Jd 1 4 E E qy ?_
  exact done E (.cons .tmp (.cons .tmp .nil)) [] (Afv n (pickT n m x.domain x.at_).1 dd) (fun _ h=>h) E E ⟨Y,⟨.inl E,E,.inl E,E,.inl E,E,.inl E,E,.inl E,E,Y⟩,E,E⟩
 have h1:¬ x.kind=2:=by simpa using h
 rw[if_neg h1]at hres hdd
 clear h
 refine oO ?_
 refine⟨fun h=>?_,fun h=>?_⟩
 ·have h1:x.kind=3:=by simpa using h
  rw[if_pos h1]at hres hdd
  subst hres
  subst hdd
  have q1:=Afu n m dd x.domain x.at_ (C9 hm0 _)
  refine oO ?_
  refine Ad (Af [] E F116 q1 E ⟨E,E,E,E,Y⟩ E ⟨.inl E,.inl E,.inl E,.inl E,Y⟩) E E ?_
  refine oO ?_
  refine Am 4 3 Bk E ?_
  refine Jd 1 4 E E qy ?_
  exact done E (.cons .tmp (.cons .tmp .nil)) [] (Afv n (takeM m x.domain x.at_).1 dd) (fun _ h=>h) E E ⟨Y,⟨.inl E,E,.inl E,E,.inl E,E,.inl E,E,.inl E,E,Y⟩,E,E⟩
 have h1:¬ x.kind=3:=by simpa using h
 rw[if_neg h1]at hres hdd
 clear h
 refine oO ?_
 refine⟨fun h=>?_,fun h=>?_⟩
 ·have h1:x.kind=4:=by simpa using h
  rw[if_pos h1]at hres hdd
  subst hres
  subst hdd
  have q1:=Apj n m dd J D hm0 hn.domains
  refine oO ?_
  refine Ad (Af [] E F117 q1 E ⟨E,E,E,E,Y⟩ E ⟨.inl E,.inl E,.inl E,.inl E,Y⟩) E E ?_
  refine oO ?_
  refine Am 4 3 Bk E ?_
  refine Jd 1 4 E E qy ?_
  exact done E (.cons .tmp (.cons .tmp .nil)) [] (Afv n (Oj m) dd) (fun _ h=>h) E E ⟨Y,⟨.inl E,E,.inl E,E,.inl E,E,.inl E,E,.inl E,E,Y⟩,E,E⟩
 have h1:¬ x.kind=4:=by simpa using h
 rw[if_neg h1]at hres hdd
 clear h
 refine oO ?_
 refine⟨fun h=>?_,fun h=>?_⟩
 ·have h1:x.kind=5:=by simpa using h
  rw[if_pos h1]at hres hdd
  clear h
  refine oO ?_
  refine kW ?_
  refine⟨fun h=>?_,fun h=>?_⟩
  ·have h2:x.up.length=n.links.length:=qA h
   rw[if_pos h2]at hres hdd
   subst hres
   subst hdd
   clear h
   have hls:=hn.links
   unfold Ap at hls
   refine oO ?_
   refine c0 (Aky x.up qn) F118 ?_
   refine oO ?_
   refine Am 4 3 Bk E ?_
   refine Ar 55 (Ol n x.up false) E (.cons (.refl _) (.cons (.refl _) (.cons (.refl _) (.cons (.refl _) (.cons .nil .nil))))) ?_
   exact done E (.cons .tmp (.cons .tmp .nil)) [(4,55)] (Afv n (upT m x.up) false) (fun _ h=>h) E E ⟨Y,⟨.inl E,E,.inr E,E,.inl E,E,.inl E,E,.inl E,E,Y⟩,E,E⟩
  ·have h2:¬ x.up.length=n.links.length:=qB h
   rw[if_neg h2]at hres hdd
   subst hres
   subst hdd
   clear h
   refine oO ?_
   refine Am 4 3 Bk E ?_
   refine Jd 1 4 E E qy ?_
   exact done E (.cons .tmp (.cons .tmp .nil)) [] (Afv n m dd) (fun _ h=>h) E E ⟨Y,⟨.inl E,E,.inl E,E,.inl E,E,.inl E,E,.inl E,E,Y⟩,E,E⟩
 have h1:¬ x.kind=5:=by simpa using h
 rw[if_neg h1]at hres hdd
 subst hres
 subst hdd
 clear h
 refine oO ?_
 refine Am 4 3 Bk E ?_
 refine Jd 1 4 E E qy ?_
 exact done E (.cons .tmp (.cons .tmp .nil)) [] (Afv n m dd) (fun _ h=>h) E E ⟨Y,⟨.inl E,E,.inl E,E,.inl E,E,.inl E,E,.inl E,E,Y⟩,E,E⟩
theorem Te (n:Net) (hn:n.Fin) (hb:okB n (List.replicate n.links.length true)=false) :
  Sy.Spec Tryz.prog 50 [Aj n] [] (.tup [.val (.pointer none),Aa 2]) []:=cT F50 Tryz.ntmps50 fun F hF=>by
 have hls:=hn.links
 unfold Ap at hls
 have q1:=All n.links.length qn
 have q2:=Aap n (List.replicate n.links.length true) hn hb
 generalize List.replicate n.links.length true=up at *
 conv=>whnf
 refine Ic 7 Ab [true] E E ?_
 refine Ao 7 E ?_
 refine oO ?_
 refine c0 q1 F111 ?_
 refine oO ?_
 refine c0 q2 F112 ?_
 refine oT ?_
 exact dN
theorem Adt (n:Net) (hn:n.Fin) (hb:okB n (List.replicate n.links.length true)=true) :
  Sy.Spec Tryz.prog 50 [Aj n] [] (.tup [.ptr 0 0,Aa 0]) (De n (newT n) false):=cT F50 Tryz.ntmps50 fun F hF=>by
 have hls:=hn.links
 have hds:=hn.domains
 unfold Ap at hls hds
 have q1:=All n.links.length qn
 have q2:=Ada n (List.replicate n.links.length true) hn hb
 have hnt:=newT.eq_1 n
 generalize newT n=m at *
 generalize List.replicate n.links.length true=up at *
 conv=>whnf
 refine Ic 7 Ab [true] E E ?_
 refine Ao 7 E ?_
 refine oO ?_
 refine c0 q1 F111 ?_
 refine oO ?_
 refine c0 q2 F112 ?_
 refine oF ?_
 refine cD (copyS n hn) F113 ?_
 refine oD ?_
 refine Bd (B5 Γ.toTy (d:=28) (n:=n.domains.length) (fun _:Unit=>.val (.slice none 0 0)) () E E E E E E E E qn qn E E E) qq E ?_
 refine oD ?_
 refine Bd (B5 Γ.toTy (d:=32) (n:=n.domains.length) (fun _:Unit=>.val (.slice none 0 0)) () E E E E E E E E qn qn E E E) qq E ?_
 refine oD ?_
 refine⟨qq,?_⟩
 refine V1 28 (e':=D4) (l':=List.replicate n.domains.length []) E qz (fun M w i h1 h2 v hv=>?_) ?_
 ·rw[List.getElem_replicate]
  simp only[RdD]at hv
  exact Oh hv
 refine V1 32 (e':=Lh) (l':=List.replicate n.domains.length []) E qz (fun M w i h1 h2 v hv=>?_) ?_
 ·rw[List.getElem_replicate]
  simp only[RdD]at hv
  exact Oh hv
 refine Ar 24 (Ol n up false) E (.cons (.refl _) (.cons (.refl _) (.cons (.refl _) (.cons (.refl _) (.cons .nil .nil))))) ?_
 refine oO ?_
 subst hnt
 exact done E (.cons .tmp (.cons .tmp .nil)) [(0,34),(1,24),(2,28),(3,32)] (De n ⟨up,List.replicate n.domains.length [],List.replicate n.domains.length [],0,0,fun _=>0⟩ false) (fun _ h=>h) E E ⟨Y,⟨.inl E,E,.inl E,E,.inl E,E,.inl E,E,Y⟩,E,E⟩
end Go.Sy.YteinjapglfkamaaGreat
namespace Go.Sy.YteinjapglfkamaaGreat
open Go.Proofs
theorem W0 (n:Net):∀ (a b:List StepM) (m:MacM),Cp n m (a++b)=((Cp n (Cp n m a).1 b).1,(Cp n m a).2++(Cp n (Cp n m a).1 b).2)
 | [],b,m=>by simp[Cp]
 | o::a,b,m=>by
  rw[List.cons_append,Cp,Cp,W0 n a b]
  simp
theorem V9 (n:Net) (m:MacM) (l:List StepM) (j:Nat) (hj:j<l.length) :
  Cp n m (l.take (j+1))=((doT n (Cp n m (l.take j)).1 l[j]).1,(Cp n m (l.take j)).2++(doT n (Cp n m (l.take j)).1 l[j]).2):=by
 rw[List.take_succ_eq_append_getElem hj,W0]
 simp[Cp]
def runF (n:Net) (s:MacM × Bool) (l:List StepM):MacM × Bool:=l.foldl (fun s x=>((doT n s.1 x).1,doD n s.1 s.2 x)) s
theorem Af0 (n:Net):∀ (l:List StepM) (s:MacM × Bool),(runF n s l).1=(Cp n s.1 l).1
 | [],s=>rfl
 | x::l,s=>by
  have:=Af0 n l ((doT n s.1 x).1,doD n s.1 s.2 x)
  rw[Cp]
  exact this
def runD (n:Net) (m:MacM) (d:Bool) (l:List StepM):Bool:=(runF n (m,d) l).2
theorem Acd (n:Net) (m:MacM) (d:Bool) (l:List StepM) (j:Nat) (hj:j<l.length) :
  runD n m d (l.take (j+1))=doD n (Cp n m (l.take j)).1 (runD n m d (l.take j)) l[j]:=by
 unfold runD
 rw[List.take_succ_eq_append_getElem hj]
 have:=Af0 n (l.take j) (m,d)
 unfold runF at this ⊢
 rw[List.foldl_append]
 show doD n (List.foldl _ (m,d) (l.take j)).1 _ l[j]=_
 rw[this]
theorem doT_ok {n:Net} (hn:n.Fin) (hm1:n.Num) {m:MacM} {J D:Int} (h:MacOK n m J D) (hJ:0≤J) (hD:0≤D) (x:StepM):MacOK n (doT n m x).1 (J+1) (D+4294967298):=by
 unfold doT
 split
 ·exact(Aka hn h hJ hD _ _).mono qn qn
 split
 ·have hok:=Uh h x.domain x.at_
  unfold pickT
  split
  ·exact hok.1.mono qn qn
  ·have hb:=Lr hn (Im n (takeM m x.domain x.at_).1.up) (tableL (takeM m x.domain x.at_).1 x.domain) x.domain (takeM m x.domain x.at_).2.1 (takeM m x.domain x.at_).1.now
   have h1:=Zv hok.1 hD x.domain (Qw (n:=n) (fw:=Im n (takeM m x.domain x.at_).1.up) (dom:=x.domain) (now:=(takeM m x.domain x.at_).1.now) (L5 hok.1 x.domain) hok.2)
   have h2:=Jv hn (takeM m x.domain x.at_).2.1.origin (Qa n (takeM m x.domain x.at_).1 x.domain (takeM m x.domain x.at_).2.1).2.1 h1 qn (Qx hn hm1 hok.2)
   refine h2.mono qn ?_
   unfold Qa
   omega
 split
 ·exact(Uh h x.domain x.at_).1.mono qn qn
 split
 ·have h1:=h.now
  refine⟨h.up,by unfold Oj;simp only[List.length_map];exact h.tabs,h.ques,fun t ht=>?_,h.que,?_,?_,fun i=>?_⟩
  ·unfold Oj at ht
   obtain ⟨t0,ht0,rfl⟩:=List.mem_map.1 ht
   exact Ats (h.tab t0 ht0) _
  ·unfold Oj
   dsimp only
   omega
  ·have:=h.inj
   unfold Oj
   dsimp only
   omega
  ·have:=h.drp i
   unfold Oj
   dsimp only
   omega
 split
 ·split
  ·rename_i h2
   exact MacOK.mono (n:=n) (m:=⟨x.up,m.tables,m.queues,m.now,m.injected,m.drops⟩) ⟨h2,h.tabs,h.ques,h.tab,h.que,h.now,h.inj,h.drp⟩ qn qn
  ·exact h.mono qn qn
 ·exact h.mono qn qn
theorem Yn {n:Net} (hn:n.Fin) (m:MacM) (x:StepM):(doT n m x).2.length<4294967296:=by
 unfold doT
 split
 ·show (0:Nat)<4294967296;decide
 split
 ·unfold pickT
  split
  ·show (0:Nat)<4294967296;decide
  ·have hb:=Lr hn (Im n (takeM m x.domain x.at_).1.up) (tableL (takeM m x.domain x.at_).1 x.domain) x.domain (takeM m x.domain x.at_).2.1 (takeM m x.domain x.at_).1.now
   have h2:=Ih n (takeM m x.domain x.at_).2.1.origin (Qa n (takeM m x.domain x.at_).1 x.domain (takeM m x.domain x.at_).2.1).2.1 (Is (takeM m x.domain x.at_).1 x.domain (Qa n (takeM m x.domain x.at_).1 x.domain (takeM m x.domain x.at_).2.1))
   unfold Qa at h2 ⊢
   omega
 split
 ·show (0:Nat)<4294967296;decide
 split
 ·show (0:Nat)<4294967296;decide
 split
 ·show (0:Nat)<4294967296;decide
 ·show (0:Nat)<4294967296;decide
theorem Yg {n:Net} (hn:n.Fin) (hm1:n.Num):∀ (l:List StepM) {m:MacM} {J D:Int},MacOK n m J D→0≤J→0≤D→MacOK n (Cp n m l).1 (J+l.length) (D+l.length * 4294967298)
 | [],m,J,D,h,_,_=>by
  rw[Cp]
  exact h.mono qz qz
 | x::l,m,J,D,h,hJ,hD=>by
  rw[Cp]
  have:=Yg hn hm1 l (doT_ok hn hm1 h hJ hD x) qn qn
  exact this.mono (by simp only[List.length_cons];omega) (by simp only[List.length_cons];omega)
theorem Kq {n:Net} (hn:n.Fin):∀ (l:List StepM) (m:MacM),(Cp n m l).2.length≤l.length * 4294967296
 | [],m=>by simp[Cp]
 | x::l,m=>by
  rw[Cp]
  have h1:=Kq hn l (doT n m x).1
  have h2:=Yn hn m x
  simp only[List.length_append,List.length_cons]
  omega
theorem U2 (n:Net):MacOK n (newT n) 0 0:=by
 refine⟨by simp[newT],by simp[newT],by simp[newT],fun t ht=>?_,fun l hl=>?_,by simp[newT],by simp[newT],fun i=>by simp[newT]⟩
 ·have:t=[]:=(List.mem_replicate.1 ht).2
  rw[this];exact Wh
 ·have:l=[]:=(List.mem_replicate.1 hl).2
  rw[this];exact Xc
def Km (n:Net):List Bool:=List.replicate n.links.length true
def runT (n:Net) (l:List StepM):List SeenM × Int:=if okB n (Km n)=true then ((Cp n (newT n) l).2,0) else ([],2)
structure ScriptOK (l:List StepM):Prop where
 few:l.length≤60
 bytes:∀ x∈l,x.bytes.length≤2000
attribute [local irreducible] Go.Sy.G Go.Sy.DR
set_option maxRecDepth 100000
set_option maxHeartbeats 4000000
def runO (n:Net) (m:MacM) (d:Bool) (l:List SeenM):Obs:=[(0,.box (X0 n 1 m.now m.injected m.drops)),(1,.box (Ol n m.up d)),(2,.row 1 D4 m.tables),(3,.row 1 Lh m.queues),(1000,.row 3 Bk l)]
theorem Aso (n:Net) (hn:n.Fin) (hm1:n.Num) (l:List StepM) (hl:ScriptOK l) :
  Sy.Spec Tryz.prog 65 [Aj n,.sl 6 Bo l] [] (.tup [.sl 3 Bk (runT n l).1,Aa (runT n l).2]) []:=cT F65 Tryz.ntmps65 fun F hF=>by
 have hres:=runT.eq_1 n l
 generalize runT n l=res at *
 have hlen:=hl.few
 cases hok:okB n (Km n)
 ·rw[if_neg (by rw[hok];simp)]at hres
  subst hres
  have q1:=Te n hn hok
  conv=>whnf
  refine c0 q1 F50 ?_
  refine oT ?_
  refine Am 4 3 Bk E ?_
  exact dN
 ·rw[if_pos hok]at hres
  subst hres
  have q1:=Adt n hn hok
  have hn0:=U2 n
  generalize newT n=m0 at *
  conv=>whnf
  refine Ad (Af [(0,800),(1,801),(2,802),(3,803)] E F50 q1 E Y E ⟨.inr E,.inr E,.inr E,.inr E,Y⟩) E E ?_
  refine oF ?_
  refine Bm 8 1000 3 Bk E E ?_
  refine At l.length (fun j=>[(6,.ptr 0 0),(8,.osl 1000),(21,.sl 6 Bo l),(22,Aa l.length),(23,Aa j)]) (fun j=>runO n (Cp n m0 (l.take j)).1 (runD n m0 false (l.take j)) (Cp n m0 (l.take j)).2) [(0,800),(1,801),(2,802),(3,803)] ⟨⟨E,E,E,E,E,E,E,E,E,E,Y⟩,⟨.inl E,E,.inl E,E,.inl E,E,.inl E,E,.inl E,E,Y⟩,E,E⟩ ?_
  intro j hj
  refine oO ?_
  refine⟨fun h=>?_,fun h=>?_⟩
  ·have hlt:j<l.length:=qA h
   have hj0:((j:Nat):Int).toNat<l.length:=by simpa using hlt
   obtain ⟨x,hoo⟩:∃ x,l[j]=x:=⟨_,rfl⟩
   have e1:l[((j:Nat):Int).toNat]'hj0=x:=hoo
   have hs:=V9 n m0 l j hlt
   have hds:=Acd n m0 false l j hlt
   rw[hoo]at hs hds
   have hxb:=hl.bytes x (by rw[← hoo];exact List.getElem_mem hlt)
   have hjo:=Yg hn hm1 (l.take j) hn0 (Int.le_refl _) (Int.le_refl _)
   have hjl:(l.take j).length=j:=by rw[List.length_take];omega
   have hjf:=Kq hn (l.take j) m0
   rw[hjl]at hjo hjf
   have q5:=Apo n hn hm1 (Cp n m0 (l.take j)).1 (runD n m0 false (l.take j)) _ _ hjo qn qn qn x qn
   have hfw:=Yn hn (Cp n m0 (l.take j)).1 x
   clear h
   refine oO ?_
   refine⟨E,by omega,hj0,?_⟩
   rw[e1]
   conv=>whnf
   refine Ad (Af [(4,30)] E F52 q5 E ⟨E,E,E,E,Y⟩ E ⟨.inl E,.inl E,.inl E,.inl E,.inr E,Y⟩) E E ?_
   refine oO ?_
   refine Ad (Ac Γ.toTy 35 E E E E E (.row E) .sl qz qn qn) E E ?_
   refine oO ?_
   refine iW ?_
   have g1:(Cp n m0 (l.take (j+1))).1=(doT n (Cp n m0 (l.take j)).1 x).1:=by rw[hs]
   have g2:(Cp n m0 (l.take (j+1))).2=(Cp n m0 (l.take j)).2++(doT n (Cp n m0 (l.take j)).1 x).2:=by rw[hs]
   refine An [(1,30),(1000,35)] hlt ⟨⟨E,E,E,E,E,E,E,E,E,E,Y⟩,?_,E,E⟩
   dsimp only
   rw[g1,g2,hds]
   exact⟨.inl E,E,.inl E,E,.inl E,E,.inl E,E,.inl E,E,Y⟩
  ·have hjj:j=l.length:=qB h
   subst hjj
   rw[List.take_length]
   clear h
   refine oO ?_
   refine Ao 1000 E ?_
   exact dN
end Go.Sy.YteinjapglfkamaaGreat
namespace Go.Sy.YteinjapglfkamaaGreat
open Go.Proofs
attribute [local irreducible] Go.Sy.G Go.Sy.DR
set_option maxRecDepth 100000
set_option maxHeartbeats 4000000
theorem Wd {n:Net} (hb:Ae n=true) {i:Nat} (hi:i<n.ports.length):n.ports[i].link=-1∨0≤n.ports[i].link:=by
 have:=Akp hb hi
 simp only[D9,Ai,Bool.and_eq_true,Bool.or_eq_true,decide_eq_true_eq,beq_iff_eq]at this
 rcases this.2 with h1 | h1
 ·exact .inl h1
 ·exact .inr h1.1.1
theorem Am1 {n:Net} {fw:List Bool} {dom fr:Int} (h:roomB n fw dom fr=true):fr=-1∨fr=-2∨0≤fr:=by
 simp only[roomB,Bool.and_eq_true,Bool.or_eq_true,decide_eq_true_eq]at h
 rcases h.2 with (h | h) | h
 ·exact .inl h
 ·exact .inr (.inl h)
 ·exact .inr (.inr (B6 fr (inB_mem.1 h)).1)
theorem Aix (n:Net) (hn:n.Fin) (hm0:n.Num) (fw:List Bool) (t:List EntryM) (dom:Int) (q:QueuedM) (now:Int) (ht:TabOK t) (hq:QueuedOK q) :
  Sy.Spec Tryz.prog 189 [Aj n,.sl 1 Ab fw,.sl 3 Al t,Aa dom,A0 q,Aa now] [] (.tup [.sl 3 Al (bridgeT n fw t dom q now).1,.sl 9 Bl (bridgeT n fw t dom q now).2.1,Aa (bridgeT n fw t dom q now).2.2]) []:=cT F189 Tryz.ntmps189 fun F hF=>by
 have hres:=bridgeT.eq_1 n fw t dom q now
 generalize bridgeT n fw t dom q now=res at *
 have qf:=W2 n hn fw dom q.from_
 have qr:=Lg t ht.short ht.mac
 have htl:=ht.short
 unfold Ap at htl
 conv=>whnf
 refine A3 6 8 (Aj n) E E E ?_
 refine A3 10 7 (A0 q) E E E ?_
 refine oO ?_
 cases hroom:roomB n fw dom q.from_
 ·rw[if_pos (.inl hroom)]at hres
  subst hres
  rw[floodT,if_pos hroom]at qf
  refine c0 qf F252 ?_
  (refine oT ?_;refine bT ?_)
  refine Am 13 9 Bl E ?_
  refine Am 12 3 Al E ?_
  exact dN
 rw[floodT,if_neg (by rw[hroom];decide)]at qf
 refine c0 qf F252 ?_
 refine oF ?_
 refine c0 qr F192 ?_
 cases htb:tableB t
 ·rw[if_pos (.inr htb)]at hres
  subst hres
  refine oT ?_
  refine Am 13 9 Bl E ?_
  refine Am 12 3 Al E ?_
  exact dN
 rw[if_neg (by simp[hroom,htb])]at hres
 have hfrom:=Am1 hroom
 have hlq:=learnQ.eq_1 t q now
 have hu:=Mf ht hq now
 generalize learnQ t q now=u at *
 have hbn:Ae n=true:=by
  simp only[roomB,Bool.and_eq_true]at hroom
  exact hroom.1.2
 have hpd:Ai dom n.domains.length=true:=by
  simp only[roomB,Bool.and_eq_true]at hroom
  exact hroom.1.1.1
 have hsr:=hq.frame.src
 have hpe:=hq.peer
 have hfr:=hq.from_
 have qro:=Ad2 n hn hm0 hbn dom hpd q.frame.dst
 generalize routerT n dom q.frame.dst=ro at *
 obtain ⟨irb,ok⟩:=ro
 dsimp only at hres qro
 have hs:=hq.frame.src
 have hd2:=hq.frame.dst
 have hfw:=Al7 hu q.frame.dst
 have qd:=Ad1 n hn fw u dom q.from_ q.frame.dst hu.short hfw qn
 have hports:=Vr hbn fw u dom q.from_ q.frame.dst
 have hfew:=T8 hn fw u dom q.from_ q.frame.dst
 have qh:=Ane n hn hm0 irb q.frame hq.frame
 refine oF ?_
 refine Ad (Ac Γ.toTy 54 E E E E E (.lit (e:=Al) (l:=[]) E E) .sl qz (by simp;omega) (by simp;omega)) E E ?_
 refine Ao 54 E ?_
 rcases hfrom with hf | hf | hf
 ·rw[if_neg qn,if_pos hf]at hlq
  have qle:=W3 t q.frame.src (-1-q.peer) now ht.short ht.mac qn
  rw[← hlq]at qle
  refine oO ?_
  (refine⟨fun h=>False.elim (by simp at h;omega),fun _=>?_⟩;refine rg ?_;conv=>whnf)
  (refine⟨fun _=>?_,fun h=>False.elim (by simp at h;omega)⟩;refine rg ?_;conv=>whnf)
  refine iW ?_
  refine c0 qle F253 ?_
  refine oO ?_
  refine c0 qro F254 ?_
  cases ok
  rotate_left
  ·rw[if_pos rfl]at hres
   generalize hopT n irb q.frame=hp at *
   obtain ⟨to,g,e⟩:=hp
   dsimp only at hres qh
   refine oT ?_
   refine c0 qh F255 ?_
   refine oO ?_
   refine⟨fun h=>?_,fun h=>?_⟩
   ·rw[if_pos (by simpa using h)]at hres
    subst hres
    refine oO ?_
    refine Am 13 9 Bl E ?_
    exact dN
   ·rw[if_neg (by simpa using h)]at hres
    subst hres
    refine oO ?_
    refine kW ?_
    refine Aba 105 [Bl ⟨4,0,to,[],g,0⟩] E (.cons (.agg (.cons (.refl _) (.cons (.refl _) (.cons (.refl _) (.cons .nil (.cons (.refl _) (.cons (.refl _) (.cons (.refl _) (.cons (.refl _) (.cons (.refl _) .nil)))))))))) .nil) E ?_
    refine Ic 105 Bl [⟨4,0,to,[],g,0⟩] E E ?_
    refine Ao 105 E ?_
    exact dN
  rw[if_neg qy]at hres
  generalize decideT n fw u dom q.from_ q.frame.dst=dc at *
  obtain ⟨ports,peers,e0⟩:=dc
  dsimp only at hres qd hports hfew
  obtain ⟨hf1,hf2⟩:=hfew
  refine oF ?_
  refine c0 qd F256 ?_
  refine oO ?_
  refine Bm 27 1000 9 Bl E E ?_
  refine At ports.length (fun j=>[(3,Aa dom),(6,.ref 8 (Aj n) 0),(10,.ref 7 (A0 q) 0),(18,.sl 3 Al u),(24,.sl 1 Aa ports),(25,.sl 1 Aa peers),(27,.osl 1000),(28,Aa j)])
   (fun j=>[(1000,.row 9 Bl ((ports.take j).map (E8 n dom q.frame)))]) [] ⟨⟨rfl,rfl,rfl,rfl,rfl,rfl,rfl,rfl,rfl,rfl,rfl,rfl,rfl,rfl,rfl,rfl,trivial⟩,⟨.inl rfl,rfl,trivial⟩,rfl,rfl⟩ ?_
  intro j hj
  refine oO ?_
  refine⟨fun h=>?_,fun h=>?_⟩
  ·have hlt:j<ports.length:=qA h
   have hj0:((j:Nat):Int).toNat<ports.length:=by simpa using hlt
   obtain ⟨p,hp⟩:∃ p,ports[j]=p:=⟨_,rfl⟩
   have e1:ports[((j:Nat):Int).toNat]'hj0=p:=hp
   have hs:(ports.take (j+1)).map (E8 n dom q.frame)=(ports.take j).map (E8 n dom q.frame)++[E8 n dom q.frame p]:=by
    rw[List.take_succ_eq_append_getElem hlt,List.map_append,hp];rfl
   have hal:((ports.take j).map (E8 n dom q.frame)).length=j:=by rw[List.length_map,List.length_take];omega
   have hpi:=hports p (by rw[← hp];exact List.getElem_mem hlt)
   have hpk:p.toNat<n.ports.length:=by omega
   have ql:=Zg n hn p dom q.frame hq.frame
   have hop:E8 n dom q.frame p=D5 (Ke (if (nth n.ports p).link<0 then 1 else 2) p 0) ((leaveT n p dom q.frame).1,(leaveT n p dom q.frame).2):=rfl
   rw[hop,Ak hpk]at hs
   clear hop
   obtain ⟨acc,hacc⟩:∃ acc,(ports.take j).map (E8 n dom q.frame)=acc:=⟨_,rfl⟩
   rw[hacc]at hs hal ⊢
   have hli:=Wd hbn hpk
   obtain ⟨x,hx⟩:∃ x,n.ports[p.toNat]'hpk=x:=⟨_,rfl⟩
   rw[hx]at hs hli
   clear h
   refine oO ?_
   refine⟨E,by omega,hj0,?_⟩
   rw[e1]
   conv=>whnf
   refine cD ql F257 ?_
   refine oD ?_
   refine kW ?_
   refine⟨E,by omega,hj0,?_⟩
   rw[e1]
   conv=>whnf
   refine⟨E,by omega,hj0,?_⟩
   rw[e1]
   conv=>whnf
   refine⟨E,hpi.1,hpk,?_⟩
   rw[hx]
   conv=>whnf
   refine kW ?_
   refine⟨fun h=>?_,fun h=>?_⟩
   ·rw[if_neg (by have:¬ x.link=-1:=(by simpa using h);omega)]at hs
    refine oO ?_
    refine Ad (Dc [] [] E F258 (Em 2 p 0 (leaveT n p dom q.frame).1 (leaveT n p dom q.frame).2) (.cons (.agg (.cons (.refl _) (.cons (.refl _) (.cons (.refl _) (.cons .nil (.cons (.refl _) (.cons (.refl _) (.cons (.refl _) (.cons .nil (.cons (.refl _) .nil)))))))))) (.cons (.refl _) (.cons (.refl _) .nil))) Y E Y E) E E ?_
    refine oO ?_
    refine Ad (Ac Γ.toTy 160 E E E E E (.row E) (.lit (e:=Bl) (l:=[D5 (Ke 2 p 0) ((leaveT n p dom q.frame).1,(leaveT n p dom q.frame).2)]) E E) qz (by simp;omega) (by simp;omega)) E E ?_
    refine oO ?_
    refine iW ?_
    exact An [(1000,160)] hlt ⟨⟨E,E,E,E,E,E,E,E,E,E,E,E,E,E,E,E,Y⟩,⟨.inl (congrArg (Ob.row 9 Bl) hs),E,Y⟩,E,E⟩
   ·rw[if_pos (by have:x.link=-1:=(by simpa using h);omega)]at hs
    refine oO ?_
    refine Ad (Dc [] [] E F258 (Em 1 p 0 (leaveT n p dom q.frame).1 (leaveT n p dom q.frame).2) (.cons (.agg (.cons (.refl _) (.cons (.refl _) (.cons (.refl _) (.cons .nil (.cons (.refl _) (.cons (.refl _) (.cons (.refl _) (.cons .nil (.cons (.refl _) .nil)))))))))) (.cons (.refl _) (.cons (.refl _) .nil))) Y E Y E) E E ?_
    refine oO ?_
    refine Ad (Ac Γ.toTy 160 E E E E E (.row E) (.lit (e:=Bl) (l:=[D5 (Ke 1 p 0) ((leaveT n p dom q.frame).1,(leaveT n p dom q.frame).2)]) E E) qz (by simp;omega) (by simp;omega)) E E ?_
    refine oO ?_
    refine iW ?_
    exact An [(1000,160)] hlt ⟨⟨E,E,E,E,E,E,E,E,E,E,E,E,E,E,E,E,Y⟩,⟨.inl (congrArg (Ob.row 9 Bl) hs),E,Y⟩,E,E⟩
  have hjj:j=ports.length:=qB h
  subst hjj
  clear h
  rw[List.take_length]
  obtain ⟨acc0,hacc0⟩:∃ acc0,ports.map (E8 n dom q.frame)=acc0:=⟨_,rfl⟩
  have hal0:acc0.length=ports.length:=by rw[← hacc0,List.length_map]
  rw[hacc0]at hres ⊢
  refine oO ?_
  refine At peers.length (fun j=>[(3,Aa dom),(6,.ref 8 (Aj n) 0),(10,.ref 7 (A0 q) 0),(18,.sl 3 Al u),(25,.sl 1 Aa peers),(27,.osl 1000),(32,Aa j)])
   (fun j=>[(1000,.row 9 Bl (acc0++(peers.take j).map (H7 n dom q.frame)))]) [] ⟨⟨rfl,rfl,rfl,rfl,rfl,rfl,rfl,rfl,rfl,rfl,rfl,rfl,rfl,rfl,trivial⟩,⟨.inl (congrArg (Ob.row 9 Bl) qz),rfl,trivial⟩,rfl,rfl⟩ ?_
  intro j hj
  refine oO ?_
  refine⟨fun h=>?_,fun h=>?_⟩
  ·have hlt:j<peers.length:=qA h
   have hj0:((j:Nat):Int).toNat<peers.length:=by simpa using hlt
   obtain ⟨p,hp⟩:∃ p,peers[j]=p:=⟨_,rfl⟩
   have e1:peers[((j:Nat):Int).toNat]'hj0=p:=hp
   have hs:acc0++(peers.take (j+1)).map (H7 n dom q.frame)=(acc0++(peers.take j).map (H7 n dom q.frame))++[H7 n dom q.frame p]:=by
    rw[List.take_succ_eq_append_getElem hlt,List.map_append,hp,List.append_assoc];rfl
   have hal:(acc0++(peers.take j).map (H7 n dom q.frame)).length≤ports.length+j:=by rw[List.length_append,List.length_map,List.length_take];omega
   have ql:=Tj n hn hm0 dom p q.frame hq.frame
   have hop:H7 n dom q.frame p=D5 (Ke 3 0 p) ((meshT n dom p q.frame).1,(meshT n dom p q.frame).2):=rfl
   rw[hop]at hs
   clear hop
   obtain ⟨acc,hacc⟩:∃ acc,acc0++(peers.take j).map (H7 n dom q.frame)=acc:=⟨_,rfl⟩
   rw[hacc]at hs hal ⊢
   clear h
   refine oO ?_
   refine⟨E,by omega,hj0,?_⟩
   rw[e1]
   conv=>whnf
   refine cD ql F259 ?_
   refine oD ?_
   refine kW ?_
   refine⟨E,by omega,hj0,?_⟩
   rw[e1]
   conv=>whnf
   refine Ad (Dc [] [] E F258 (Em 3 0 p (meshT n dom p q.frame).1 (meshT n dom p q.frame).2) (.cons (.agg (.cons (.refl _) (.cons (.refl _) (.cons (.refl _) (.cons .nil (.cons (.refl _) (.cons (.refl _) (.cons (.refl _) (.cons .nil (.cons (.refl _) .nil)))))))))) (.cons (.refl _) (.cons (.refl _) .nil))) Y E Y E) E E ?_
   refine oO ?_
   refine Ad (Ac Γ.toTy 189 E E E E E (.row E) (.lit (e:=Bl) (l:=[D5 (Ke 3 0 p) ((meshT n dom p q.frame).1,(meshT n dom p q.frame).2)]) E E) qz (by simp;omega) (by simp;omega)) E E ?_
   refine oO ?_
   refine iW ?_
   exact An [(1000,189)] hlt ⟨⟨E,E,E,E,E,E,E,E,E,E,E,E,E,E,Y⟩,⟨.inl (congrArg (Ob.row 9 Bl) hs),E,Y⟩,E,E⟩
  have hjj:j=peers.length:=qB h
  subst hjj
  clear h
  rw[List.take_length]
  subst hres
  refine oO ?_
  refine Ao 1000 E ?_
  exact dN
 ·rw[if_pos hf]at hlq
  subst hlq
  refine oO ?_
  (refine⟨fun h=>False.elim (by simp at h;omega),fun _=>?_⟩;refine rg ?_;conv=>whnf)
  (refine⟨fun h=>False.elim (by simp at h;omega),fun _=>?_⟩;refine rg ?_;conv=>whnf)
  refine c0 qro F254 ?_
  cases ok
  rotate_left
  ·rw[if_pos rfl]at hres
   generalize hopT n irb q.frame=hp at *
   obtain ⟨to,g,e⟩:=hp
   dsimp only at hres qh
   refine oT ?_
   refine c0 qh F255 ?_
   refine oO ?_
   refine⟨fun h=>?_,fun h=>?_⟩
   ·rw[if_pos (by simpa using h)]at hres
    subst hres
    refine oO ?_
    refine Am 13 9 Bl E ?_
    exact dN
   ·rw[if_neg (by simpa using h)]at hres
    subst hres
    refine oO ?_
    refine kW ?_
    refine Aba 105 [Bl ⟨4,0,to,[],g,0⟩] E (.cons (.agg (.cons (.refl _) (.cons (.refl _) (.cons (.refl _) (.cons .nil (.cons (.refl _) (.cons (.refl _) (.cons (.refl _) (.cons (.refl _) (.cons (.refl _) .nil)))))))))) .nil) E ?_
    refine Ic 105 Bl [⟨4,0,to,[],g,0⟩] E E ?_
    refine Ao 105 E ?_
    exact dN
  rw[if_neg qy]at hres
  generalize decideT n fw u dom q.from_ q.frame.dst=dc at *
  obtain ⟨ports,peers,e0⟩:=dc
  dsimp only at hres qd hports hfew
  obtain ⟨hf1,hf2⟩:=hfew
  refine oF ?_
  refine c0 qd F256 ?_
  refine oO ?_
  refine Bm 27 1000 9 Bl E E ?_
  refine At ports.length (fun j=>[(3,Aa dom),(6,.ref 8 (Aj n) 0),(10,.ref 7 (A0 q) 0),(18,.sl 3 Al u),(24,.sl 1 Aa ports),(25,.sl 1 Aa peers),(27,.osl 1000),(28,Aa j)])
   (fun j=>[(1000,.row 9 Bl ((ports.take j).map (E8 n dom q.frame)))]) [] ⟨⟨rfl,rfl,rfl,rfl,rfl,rfl,rfl,rfl,rfl,rfl,rfl,rfl,rfl,rfl,rfl,rfl,trivial⟩,⟨.inl rfl,rfl,trivial⟩,rfl,rfl⟩ ?_
  intro j hj
  refine oO ?_
  refine⟨fun h=>?_,fun h=>?_⟩
  ·have hlt:j<ports.length:=qA h
   have hj0:((j:Nat):Int).toNat<ports.length:=by simpa using hlt
   obtain ⟨p,hp⟩:∃ p,ports[j]=p:=⟨_,rfl⟩
   have e1:ports[((j:Nat):Int).toNat]'hj0=p:=hp
   have hs:(ports.take (j+1)).map (E8 n dom q.frame)=(ports.take j).map (E8 n dom q.frame)++[E8 n dom q.frame p]:=by
    rw[List.take_succ_eq_append_getElem hlt,List.map_append,hp];rfl
   have hal:((ports.take j).map (E8 n dom q.frame)).length=j:=by rw[List.length_map,List.length_take];omega
   have hpi:=hports p (by rw[← hp];exact List.getElem_mem hlt)
   have hpk:p.toNat<n.ports.length:=by omega
   have ql:=Zg n hn p dom q.frame hq.frame
   have hop:E8 n dom q.frame p=D5 (Ke (if (nth n.ports p).link<0 then 1 else 2) p 0) ((leaveT n p dom q.frame).1,(leaveT n p dom q.frame).2):=rfl
   rw[hop,Ak hpk]at hs
   clear hop
   obtain ⟨acc,hacc⟩:∃ acc,(ports.take j).map (E8 n dom q.frame)=acc:=⟨_,rfl⟩
   rw[hacc]at hs hal ⊢
   have hli:=Wd hbn hpk
   obtain ⟨x,hx⟩:∃ x,n.ports[p.toNat]'hpk=x:=⟨_,rfl⟩
   rw[hx]at hs hli
   clear h
   refine oO ?_
   refine⟨E,by omega,hj0,?_⟩
   rw[e1]
   conv=>whnf
   refine cD ql F257 ?_
   refine oD ?_
   refine kW ?_
   refine⟨E,by omega,hj0,?_⟩
   rw[e1]
   conv=>whnf
   refine⟨E,by omega,hj0,?_⟩
   rw[e1]
   conv=>whnf
   refine⟨E,hpi.1,hpk,?_⟩
   rw[hx]
   conv=>whnf
   refine kW ?_
   refine⟨fun h=>?_,fun h=>?_⟩
   ·rw[if_neg (by have:¬ x.link=-1:=(by simpa using h);omega)]at hs
    refine oO ?_
    refine Ad (Dc [] [] E F258 (Em 2 p 0 (leaveT n p dom q.frame).1 (leaveT n p dom q.frame).2) (.cons (.agg (.cons (.refl _) (.cons (.refl _) (.cons (.refl _) (.cons .nil (.cons (.refl _) (.cons (.refl _) (.cons (.refl _) (.cons .nil (.cons (.refl _) .nil)))))))))) (.cons (.refl _) (.cons (.refl _) .nil))) Y E Y E) E E ?_
    refine oO ?_
    refine Ad (Ac Γ.toTy 160 E E E E E (.row E) (.lit (e:=Bl) (l:=[D5 (Ke 2 p 0) ((leaveT n p dom q.frame).1,(leaveT n p dom q.frame).2)]) E E) qz (by simp;omega) (by simp;omega)) E E ?_
    refine oO ?_
    refine iW ?_
    exact An [(1000,160)] hlt ⟨⟨E,E,E,E,E,E,E,E,E,E,E,E,E,E,E,E,Y⟩,⟨.inl (congrArg (Ob.row 9 Bl) hs),E,Y⟩,E,E⟩
   ·rw[if_pos (by have:x.link=-1:=(by simpa using h);omega)]at hs
    refine oO ?_
    refine Ad (Dc [] [] E F258 (Em 1 p 0 (leaveT n p dom q.frame).1 (leaveT n p dom q.frame).2) (.cons (.agg (.cons (.refl _) (.cons (.refl _) (.cons (.refl _) (.cons .nil (.cons (.refl _) (.cons (.refl _) (.cons (.refl _) (.cons .nil (.cons (.refl _) .nil)))))))))) (.cons (.refl _) (.cons (.refl _) .nil))) Y E Y E) E E ?_
    refine oO ?_
    refine Ad (Ac Γ.toTy 160 E E E E E (.row E) (.lit (e:=Bl) (l:=[D5 (Ke 1 p 0) ((leaveT n p dom q.frame).1,(leaveT n p dom q.frame).2)]) E E) qz (by simp;omega) (by simp;omega)) E E ?_
    refine oO ?_
    refine iW ?_
    exact An [(1000,160)] hlt ⟨⟨E,E,E,E,E,E,E,E,E,E,E,E,E,E,E,E,Y⟩,⟨.inl (congrArg (Ob.row 9 Bl) hs),E,Y⟩,E,E⟩
  have hjj:j=ports.length:=qB h
  subst hjj
  clear h
  rw[List.take_length]
  obtain ⟨acc0,hacc0⟩:∃ acc0,ports.map (E8 n dom q.frame)=acc0:=⟨_,rfl⟩
  have hal0:acc0.length=ports.length:=by rw[← hacc0,List.length_map]
  rw[hacc0]at hres ⊢
  refine oO ?_
  refine At peers.length (fun j=>[(3,Aa dom),(6,.ref 8 (Aj n) 0),(10,.ref 7 (A0 q) 0),(18,.sl 3 Al u),(25,.sl 1 Aa peers),(27,.osl 1000),(32,Aa j)])
   (fun j=>[(1000,.row 9 Bl (acc0++(peers.take j).map (H7 n dom q.frame)))]) [] ⟨⟨rfl,rfl,rfl,rfl,rfl,rfl,rfl,rfl,rfl,rfl,rfl,rfl,rfl,rfl,trivial⟩,⟨.inl (congrArg (Ob.row 9 Bl) qz),rfl,trivial⟩,rfl,rfl⟩ ?_
  intro j hj
  refine oO ?_
  refine⟨fun h=>?_,fun h=>?_⟩
  ·have hlt:j<peers.length:=qA h
   have hj0:((j:Nat):Int).toNat<peers.length:=by simpa using hlt
   obtain ⟨p,hp⟩:∃ p,peers[j]=p:=⟨_,rfl⟩
   have e1:peers[((j:Nat):Int).toNat]'hj0=p:=hp
   have hs:acc0++(peers.take (j+1)).map (H7 n dom q.frame)=(acc0++(peers.take j).map (H7 n dom q.frame))++[H7 n dom q.frame p]:=by
    rw[List.take_succ_eq_append_getElem hlt,List.map_append,hp,List.append_assoc];rfl
   have hal:(acc0++(peers.take j).map (H7 n dom q.frame)).length≤ports.length+j:=by rw[List.length_append,List.length_map,List.length_take];omega
   have ql:=Tj n hn hm0 dom p q.frame hq.frame
   have hop:H7 n dom q.frame p=D5 (Ke 3 0 p) ((meshT n dom p q.frame).1,(meshT n dom p q.frame).2):=rfl
   rw[hop]at hs
   clear hop
   obtain ⟨acc,hacc⟩:∃ acc,acc0++(peers.take j).map (H7 n dom q.frame)=acc:=⟨_,rfl⟩
   rw[hacc]at hs hal ⊢
   clear h
   refine oO ?_
   refine⟨E,by omega,hj0,?_⟩
   rw[e1]
   conv=>whnf
   refine cD ql F259 ?_
   refine oD ?_
   refine kW ?_
   refine⟨E,by omega,hj0,?_⟩
   rw[e1]
   conv=>whnf
   refine Ad (Dc [] [] E F258 (Em 3 0 p (meshT n dom p q.frame).1 (meshT n dom p q.frame).2) (.cons (.agg (.cons (.refl _) (.cons (.refl _) (.cons (.refl _) (.cons .nil (.cons (.refl _) (.cons (.refl _) (.cons (.refl _) (.cons .nil (.cons (.refl _) .nil)))))))))) (.cons (.refl _) (.cons (.refl _) .nil))) Y E Y E) E E ?_
   refine oO ?_
   refine Ad (Ac Γ.toTy 189 E E E E E (.row E) (.lit (e:=Bl) (l:=[D5 (Ke 3 0 p) ((meshT n dom p q.frame).1,(meshT n dom p q.frame).2)]) E E) qz (by simp;omega) (by simp;omega)) E E ?_
   refine oO ?_
   refine iW ?_
   exact An [(1000,189)] hlt ⟨⟨E,E,E,E,E,E,E,E,E,E,E,E,E,E,Y⟩,⟨.inl (congrArg (Ob.row 9 Bl) hs),E,Y⟩,E,E⟩
  have hjj:j=peers.length:=qB h
  subst hjj
  clear h
  rw[List.take_length]
  subst hres
  refine oO ?_
  refine Ao 1000 E ?_
  exact dN
 ·rw[if_neg qn,if_neg qn]at hlq
  have qle:=W3 t q.frame.src q.from_ now ht.short ht.mac qn
  rw[← hlq]at qle
  refine oO ?_
  (refine⟨fun _=>?_,fun h=>False.elim (by simp at h;omega)⟩;refine rg ?_;conv=>whnf)
  refine c0 qle F253 ?_
  refine oO ?_
  (refine⟨fun h=>False.elim (by simp at h;omega),fun _=>?_⟩;refine rg ?_;conv=>whnf)
  refine c0 qro F254 ?_
  cases ok
  rotate_left
  ·rw[if_pos rfl]at hres
   generalize hopT n irb q.frame=hp at *
   obtain ⟨to,g,e⟩:=hp
   dsimp only at hres qh
   refine oT ?_
   refine c0 qh F255 ?_
   refine oO ?_
   refine⟨fun h=>?_,fun h=>?_⟩
   ·rw[if_pos (by simpa using h)]at hres
    subst hres
    refine oO ?_
    refine Am 13 9 Bl E ?_
    exact dN
   ·rw[if_neg (by simpa using h)]at hres
    subst hres
    refine oO ?_
    refine kW ?_
    refine Aba 105 [Bl ⟨4,0,to,[],g,0⟩] E (.cons (.agg (.cons (.refl _) (.cons (.refl _) (.cons (.refl _) (.cons .nil (.cons (.refl _) (.cons (.refl _) (.cons (.refl _) (.cons (.refl _) (.cons (.refl _) .nil)))))))))) .nil) E ?_
    refine Ic 105 Bl [⟨4,0,to,[],g,0⟩] E E ?_
    refine Ao 105 E ?_
    exact dN
  rw[if_neg qy]at hres
  generalize decideT n fw u dom q.from_ q.frame.dst=dc at *
  obtain ⟨ports,peers,e0⟩:=dc
  dsimp only at hres qd hports hfew
  obtain ⟨hf1,hf2⟩:=hfew
  refine oF ?_
  refine c0 qd F256 ?_
  refine oO ?_
  refine Bm 27 1000 9 Bl E E ?_
  refine At ports.length (fun j=>[(3,Aa dom),(6,.ref 8 (Aj n) 0),(10,.ref 7 (A0 q) 0),(18,.sl 3 Al u),(24,.sl 1 Aa ports),(25,.sl 1 Aa peers),(27,.osl 1000),(28,Aa j)])
   (fun j=>[(1000,.row 9 Bl ((ports.take j).map (E8 n dom q.frame)))]) [] ⟨⟨rfl,rfl,rfl,rfl,rfl,rfl,rfl,rfl,rfl,rfl,rfl,rfl,rfl,rfl,rfl,rfl,trivial⟩,⟨.inl rfl,rfl,trivial⟩,rfl,rfl⟩ ?_
  intro j hj
  refine oO ?_
  refine⟨fun h=>?_,fun h=>?_⟩
  ·have hlt:j<ports.length:=qA h
   have hj0:((j:Nat):Int).toNat<ports.length:=by simpa using hlt
   obtain ⟨p,hp⟩:∃ p,ports[j]=p:=⟨_,rfl⟩
   have e1:ports[((j:Nat):Int).toNat]'hj0=p:=hp
   have hs:(ports.take (j+1)).map (E8 n dom q.frame)=(ports.take j).map (E8 n dom q.frame)++[E8 n dom q.frame p]:=by
    rw[List.take_succ_eq_append_getElem hlt,List.map_append,hp];rfl
   have hal:((ports.take j).map (E8 n dom q.frame)).length=j:=by rw[List.length_map,List.length_take];omega
   have hpi:=hports p (by rw[← hp];exact List.getElem_mem hlt)
   have hpk:p.toNat<n.ports.length:=by omega
   have ql:=Zg n hn p dom q.frame hq.frame
   have hop:E8 n dom q.frame p=D5 (Ke (if (nth n.ports p).link<0 then 1 else 2) p 0) ((leaveT n p dom q.frame).1,(leaveT n p dom q.frame).2):=rfl
   rw[hop,Ak hpk]at hs
   clear hop
   obtain ⟨acc,hacc⟩:∃ acc,(ports.take j).map (E8 n dom q.frame)=acc:=⟨_,rfl⟩
   rw[hacc]at hs hal ⊢
   have hli:=Wd hbn hpk
   obtain ⟨x,hx⟩:∃ x,n.ports[p.toNat]'hpk=x:=⟨_,rfl⟩
   rw[hx]at hs hli
   clear h
   refine oO ?_
   refine⟨E,by omega,hj0,?_⟩
   rw[e1]
   conv=>whnf
   refine cD ql F257 ?_
   refine oD ?_
   refine kW ?_
   refine⟨E,by omega,hj0,?_⟩
   rw[e1]
   conv=>whnf
   refine⟨E,by omega,hj0,?_⟩
   rw[e1]
   conv=>whnf
   refine⟨E,hpi.1,hpk,?_⟩
   rw[hx]
   conv=>whnf
   refine kW ?_
   refine⟨fun h=>?_,fun h=>?_⟩
   ·rw[if_neg (by have:¬ x.link=-1:=(by simpa using h);omega)]at hs
    refine oO ?_
    refine Ad (Dc [] [] E F258 (Em 2 p 0 (leaveT n p dom q.frame).1 (leaveT n p dom q.frame).2) (.cons (.agg (.cons (.refl _) (.cons (.refl _) (.cons (.refl _) (.cons .nil (.cons (.refl _) (.cons (.refl _) (.cons (.refl _) (.cons .nil (.cons (.refl _) .nil)))))))))) (.cons (.refl _) (.cons (.refl _) .nil))) Y E Y E) E E ?_
    refine oO ?_
    refine Ad (Ac Γ.toTy 160 E E E E E (.row E) (.lit (e:=Bl) (l:=[D5 (Ke 2 p 0) ((leaveT n p dom q.frame).1,(leaveT n p dom q.frame).2)]) E E) qz (by simp;omega) (by simp;omega)) E E ?_
    refine oO ?_
    refine iW ?_
    exact An [(1000,160)] hlt ⟨⟨E,E,E,E,E,E,E,E,E,E,E,E,E,E,E,E,Y⟩,⟨.inl (congrArg (Ob.row 9 Bl) hs),E,Y⟩,E,E⟩
   ·rw[if_pos (by have:x.link=-1:=(by simpa using h);omega)]at hs
    refine oO ?_
    refine Ad (Dc [] [] E F258 (Em 1 p 0 (leaveT n p dom q.frame).1 (leaveT n p dom q.frame).2) (.cons (.agg (.cons (.refl _) (.cons (.refl _) (.cons (.refl _) (.cons .nil (.cons (.refl _) (.cons (.refl _) (.cons (.refl _) (.cons .nil (.cons (.refl _) .nil)))))))))) (.cons (.refl _) (.cons (.refl _) .nil))) Y E Y E) E E ?_
    refine oO ?_
    refine Ad (Ac Γ.toTy 160 E E E E E (.row E) (.lit (e:=Bl) (l:=[D5 (Ke 1 p 0) ((leaveT n p dom q.frame).1,(leaveT n p dom q.frame).2)]) E E) qz (by simp;omega) (by simp;omega)) E E ?_
    refine oO ?_
    refine iW ?_
    exact An [(1000,160)] hlt ⟨⟨E,E,E,E,E,E,E,E,E,E,E,E,E,E,E,E,Y⟩,⟨.inl (congrArg (Ob.row 9 Bl) hs),E,Y⟩,E,E⟩
  have hjj:j=ports.length:=qB h
  subst hjj
  clear h
  rw[List.take_length]
  obtain ⟨acc0,hacc0⟩:∃ acc0,ports.map (E8 n dom q.frame)=acc0:=⟨_,rfl⟩
  have hal0:acc0.length=ports.length:=by rw[← hacc0,List.length_map]
  rw[hacc0]at hres ⊢
  refine oO ?_
  refine At peers.length (fun j=>[(3,Aa dom),(6,.ref 8 (Aj n) 0),(10,.ref 7 (A0 q) 0),(18,.sl 3 Al u),(25,.sl 1 Aa peers),(27,.osl 1000),(32,Aa j)])
   (fun j=>[(1000,.row 9 Bl (acc0++(peers.take j).map (H7 n dom q.frame)))]) [] ⟨⟨rfl,rfl,rfl,rfl,rfl,rfl,rfl,rfl,rfl,rfl,rfl,rfl,rfl,rfl,trivial⟩,⟨.inl (congrArg (Ob.row 9 Bl) qz),rfl,trivial⟩,rfl,rfl⟩ ?_
  intro j hj
  refine oO ?_
  refine⟨fun h=>?_,fun h=>?_⟩
  ·have hlt:j<peers.length:=qA h
   have hj0:((j:Nat):Int).toNat<peers.length:=by simpa using hlt
   obtain ⟨p,hp⟩:∃ p,peers[j]=p:=⟨_,rfl⟩
   have e1:peers[((j:Nat):Int).toNat]'hj0=p:=hp
   have hs:acc0++(peers.take (j+1)).map (H7 n dom q.frame)=(acc0++(peers.take j).map (H7 n dom q.frame))++[H7 n dom q.frame p]:=by
    rw[List.take_succ_eq_append_getElem hlt,List.map_append,hp,List.append_assoc];rfl
   have hal:(acc0++(peers.take j).map (H7 n dom q.frame)).length≤ports.length+j:=by rw[List.length_append,List.length_map,List.length_take];omega
   have ql:=Tj n hn hm0 dom p q.frame hq.frame
   have hop:H7 n dom q.frame p=D5 (Ke 3 0 p) ((meshT n dom p q.frame).1,(meshT n dom p q.frame).2):=rfl
   rw[hop]at hs
   clear hop
   obtain ⟨acc,hacc⟩:∃ acc,acc0++(peers.take j).map (H7 n dom q.frame)=acc:=⟨_,rfl⟩
   rw[hacc]at hs hal ⊢
   clear h
   refine oO ?_
   refine⟨E,by omega,hj0,?_⟩
   rw[e1]
   conv=>whnf
   refine cD ql F259 ?_
   refine oD ?_
   refine kW ?_
   refine⟨E,by omega,hj0,?_⟩
   rw[e1]
   conv=>whnf
   refine Ad (Dc [] [] E F258 (Em 3 0 p (meshT n dom p q.frame).1 (meshT n dom p q.frame).2) (.cons (.agg (.cons (.refl _) (.cons (.refl _) (.cons (.refl _) (.cons .nil (.cons (.refl _) (.cons (.refl _) (.cons (.refl _) (.cons .nil (.cons (.refl _) .nil)))))))))) (.cons (.refl _) (.cons (.refl _) .nil))) Y E Y E) E E ?_
   refine oO ?_
   refine Ad (Ac Γ.toTy 189 E E E E E (.row E) (.lit (e:=Bl) (l:=[D5 (Ke 3 0 p) ((meshT n dom p q.frame).1,(meshT n dom p q.frame).2)]) E E) qz (by simp;omega) (by simp;omega)) E E ?_
   refine oO ?_
   refine iW ?_
   exact An [(1000,189)] hlt ⟨⟨E,E,E,E,E,E,E,E,E,E,E,E,E,E,Y⟩,⟨.inl (congrArg (Ob.row 9 Bl) hs),E,Y⟩,E,E⟩
  have hjj:j=peers.length:=qB h
  subst hjj
  clear h
  rw[List.take_length]
  subst hres
  refine oO ?_
  refine Ao 1000 E ?_
  exact dN
end Go.Sy.YteinjapglfkamaaGreat
namespace Go.Sy
theorem L7:∀ (l:List SV) (off:Nat) (z:SV),setAt l off [z]=l.set off z
 | [],0,_=>rfl
 | [],_+1,_=>rfl
 | _::l,0,z=>by
  show z::setAt l 0 []=z::l
  cases l<;>rfl
 | x::l,n+1,z=>by
  show x::setAt l n [z]=x::l.set n z
  rw[L7 l n z]
theorem Yi {b:Bool} {A B:Prop} (h:A):b=true→(match b with | true=>A | false=>B):=by
 intro hb
 subst hb
 exact h
theorem Als {o:Option SV} {y:SV} {f:SV→Prop} {B:Prop} (h:f y):o=some y→(match o with | some y=>f y | none=>B):=by
 intro hb
 subst hb
 exact h
theorem Al6 {l l':List SV} {K:List SV→Prop} (h:l=l') (hk:fl l' K):fl l K:=by
 rw[h];exact hk
end Go.Sy
namespace Go.Sy.YteinjapglfkamaaGreat
open Go.Proofs
attribute [local irreducible] Go.Sy.G Go.Sy.DR
set_option maxRecDepth 100000
set_option maxHeartbeats 4000000
def Jb (n:Net) (up:List Bool) (now inj:Int) (d:Nat→Int):List SV :=
 [.sl 5 Bs n.devices,.sl 7 Bh n.ports,.sl 3 Cs n.links,.sl 6 Aw n.domains,.sl 4 Bp n.statics,.sl 4 B7 n.floods,.sl 5 C4 n.vrfs,.sl 5 Dp n.irbs,.sl 1 Ab up,.osl 902,.osl 903,.val (.int .i64 now),.val (.int .i64 inj),
 .val (.int .i64 (d 0)),.val (.int .i64 (d 1)),.val (.int .i64 (d 2)),.val (.int .i64 (d 3)),.val (.int .i64 (d 4)),.val (.int .i64 (d 5)),.val (.int .i64 (d 6)),.val (.int .i64 (d 7)),.val (.int .i64 (d 8)),.val (.int .i64 (d 9)),.val (.int .i64 (d 10)),.val (.int .i64 (d 11)),.val (.int .i64 (d 12)),.val (.int .i64 (d 13)),.val (.int .i64 (d 14)),.val (.int .i64 (d 15)),.val (.int .i64 (d 16)),.val (.int .i64 (d 17)),.val (.int .i64 (d 18)),.val (.int .i64 (d 19)),.val (.int .i64 (d 20)),.val (.int .i64 (d 21)),.val (.int .i64 (d 22)),.val (.int .i64 (d 23)),.val (.int .i64 (d 24)),.val (.int .i64 (d 25)),.val (.int .i64 (d 26)),.val (.int .i64 (d 27)),.val (.int .i64 (d 28)),.val (.int .i64 (d 29)),.val (.int .i64 (d 30)),.val (.int .i64 (d 31)),.val (.int .i64 (d 32)),.val (.int .i64 (d 33)),.val (.int .i64 (d 34)),.val (.int .i64 (d 35)),.val (.int .i64 (d 36)),.val (.int .i64 (d 37)),.val (.int .i64 (d 38)),.val (.int .i64 (d 39)),.val (.int .i64 (d 40)),.val (.int .i64 (d 41)),.val (.int .i64 (d 42)),.val (.int .i64 (d 43)),.val (.int .i64 (d 44)),.val (.int .i64 (d 45)),.val (.int .i64 (d 46)),.val (.int .i64 (d 47)),.val (.int .i64 (d 48)),.val (.int .i64 (d 49)),.val (.int .i64 (d 50)),.val (.int .i64 (d 51)),.val (.int .i64 (d 52)),.val (.int .i64 (d 53)),.val (.int .i64 (d 54)),.val (.int .i64 (d 55)),.val (.int .i64 (d 56)),.val (.int .i64 (d 57)),.val (.int .i64 (d 58)),.val (.int .i64 (d 59)),.val (.int .i64 (d 60)),.val (.int .i64 (d 61)),.val (.int .i64 (d 62)),.val (.int .i64 (d 63))]
def E6 (n:Net) (m:MacM):Obs:=[(0,.box (Jb n m.up m.now m.injected m.drops)),(902,.row 1 D4 m.tables),(903,.row 1 Lh m.queues)]
theorem T6 (n:Net) (up:List Bool) (now inj:Int) (d:Nat→Int):Jb n up now inj d =
  .sl 5 Bs n.devices::.sl 7 Bh n.ports::.sl 3 Cs n.links::.sl 6 Aw n.domains::.sl 4 Bp n.statics::.sl 4 B7 n.floods::.sl 5 C4 n.vrfs::.sl 5 Dp n.irbs::.sl 1 Ab up::.osl 902::.osl 903::.val (.int .i64 now)::.val (.int .i64 inj) ::
   (List.range' 0 64).map (fun i=>.val (.int .i64 (d i))):=rfl
theorem Jx (n:Net) (up:List Bool) (now inj:Int) (d:Nat→Int) (e:Nat) (he:e<64):Et (Jb n up now inj d) (0+13+e * 1)=some (.val (.int .i64 (d e))):=by
 rw[T6,show 0+13+e * 1=e+13 by omega]
 show Et ((List.range' 0 64).map (fun i=>SV.val (.int .i64 (d i)))) e=_
 rw[getI_map _ e 0 64 he,Nat.zero_add]
theorem Aro (n:Net) (up:List Bool) (now inj:Int) (d:Nat→Int) (e:Nat) (v:Int):(Jb n up now inj d).set (0+13+e * 1) (.val (.int .i64 v))=Jb n up now inj (fun i=>if i=e then v else d i):=by
 rw[T6,T6,show 0+13+e * 1=e+13 by omega]
 have h:=Adv (fun i=>SV.val (.int .i64 (d i))) (.val (.int .i64 v)) e 0 64
 have h2:(fun i=>if i=0+e then SV.val (.int .i64 v) else SV.val (.int .i64 (d i)))=(fun i=>SV.val (.int .i64 (if i=e then v else d i))):=by
  funext i
  rw[Nat.zero_add]
  split<;>rfl
 rw[h2]at h
 rw[← h]
 rfl
theorem Mk (n:Net) (m:MacM) (e:Int):Jb n m.up m.now m.injected (Bg m e).drops=(Jb n m.up m.now m.injected m.drops).set (0+13+e.toNat * 1) (.val (.int .i64 (m.drops e.toNat+1))):=by
 rw[Aro]
 congr 1
 funext i
 show (if i=e.toNat then m.drops i+1 else m.drops i)=_
 split
 ·rename_i h;rw[h]
 ·rfl
theorem Apq {α:Type} (l:List α) (i:Nat) (h:i<l.length):l.set i l[i]=l:=by
 simp
theorem Vp (n:Net) (m:MacM) (dom:Int) (q:QueuedM) (e:Int) (he:0≤e∧e<64) (hd:e=0→0≤dom∧dom.toNat<m.queues.length) (hb:H2 m) (hl:Hi (queueL m dom)) (_hq:QueuedOK q) :
  Sy.Spec Tryz.prog 127 [.ptr 0 0,Aa dom,A0 q,Aa e] (E6 n m) (.tup []) (E6 n (comeM m dom q e)):=cT F127 Tryz.ntmps127 fun F hF=>by
 have hqb:=J9 hl
 have hp:=Aiw (queueL m dom) q hqb.1
 have hres:=comeM.eq_1 m dom q e
 generalize comeM m dom q e=res at *
 have hbe:=hb e.toNat
 have hb3:=hb 3
 have hg:H8 ⟨.int .i64,1,[.int .i64 0]⟩ (Jb n m.up m.now m.injected m.drops) (0+13+e.toNat * 1)=_:=Jx n m.up m.now m.injected m.drops e.toNat qn
 have hgl:=Ln (Jx n m.up m.now m.injected m.drops e.toNat qn)
 have hst:=Mk n m e
 have hst2:setAt (Jb n m.up m.now m.injected m.drops) (0+13+e.toNat * 1) [.val (.int .i64 (m.drops e.toNat+1))]=Jb n m.up m.now m.injected (Bg m e).drops:=by rw[hst,L7]
 have hble:Nat.ble (0+13+e.toNat * 1+1) (Jb n m.up m.now m.injected m.drops).length=true:=Nat.ble_eq_true_of_le hgl
 conv=>whnf
 refine⟨fun h=>?_,fun h=>?_⟩
 ·rw[if_pos (by simpa using h)]at hres
  subst hres
  refine oO ?_
  refine⟨he.1,by omega,?_⟩
  conv=>whnf
  rw[hg]
  conv=>whnf
  refine iW ?_
  refine⟨he.1,by omega,?_⟩
  conv=>whnf
  refine Yi (Al6 hst2 ?_) hble
  conv=>whnf
  refine kW ?_
  exact done E .nil [] (E6 n (Bg m e)) (fun _ h=>h) E E ⟨Y,⟨.inl E,E,.inl E,E,.inl E,E,Y⟩,E,E⟩
 have h0:e=0:=by simpa using h
 have hd:=hd h0
 rw[if_neg (by rw[h0];decide)]at hres
 clear h hqb hl he
 have hq0:=queueL.eq_1 m dom
 have hq1:(pushT (queueL m dom) q).2=false→(pushT (queueL m dom) q).1=queueL m dom:=fun h=>by
  unfold pushT at h ⊢
  split at h
  ·rw[if_pos (by assumption)]
  ·cases h
 rw[Oc hd.2]at hq0
 generalize queueL m dom=l at *
 generalize pushT l q=r at *
 obtain ⟨l2,ok⟩:=r
 subst hq0
 refine oO ?_
 refine⟨hd.1,hd.2,?_⟩
 conv=>whnf
 refine⟨E,hd.2,?_⟩
 conv=>whnf
 refine cD hp F188 ?_
 refine oD ?_
 refine kW ?_
 cases ok
 ·rw[if_neg qz]at hres
  subst hres
  have hl2:l2=m.queues[dom.toNat]:=hq1 rfl
  (refine⟨fun _=>?_,fun h=>False.elim (by simp at h)⟩;refine rg ?_;conv=>whnf)
  refine⟨by decide,by decide,?_⟩
  conv=>whnf
  refine iW ?_
  refine⟨by decide,by decide,?_⟩
  conv=>whnf
  refine kW ?_
  refine⟨hd.1,hd.2,?_⟩
  conv=>whnf
  refine⟨E,hd.2,l2,E,E,?_⟩
  conv=>whnf
  have hss:m.queues.set dom.toNat l2=m.queues:=by rw[hl2];exact Apq _ _ hd.2
  exact B3 E .nil [] (E6 n (Bg m 3)) (fun _ h=>h) E E ⟨Y,⟨.inl (congrArg Ob.box (Mk n m 3)),E,.inl E,E,.inl (congrArg (Ob.row 1 Lh) hss.symm),E,Y⟩,E,E⟩
 ·rw[if_pos rfl]at hres
  subst hres
  (refine⟨fun h=>False.elim (by simp at h),fun _=>?_⟩;refine rg ?_;conv=>whnf)
  refine⟨hd.1,hd.2,?_⟩
  conv=>whnf
  refine⟨E,hd.2,l2,E,E,?_⟩
  conv=>whnf
  exact B3 E .nil [] (E6 n (Adx m dom l2)) (fun _ h=>h) E E ⟨Y,⟨.inl E,E,.inl E,E,.inl E,E,Y⟩,E,E⟩
theorem Ahw (n:Net) (m:MacM) (x:StepM) (hl:Hi (queueL m x.domain)) :
  Sy.Spec Tryz.prog 129 [.ptr 0 0,Bo x] (E6 n m) (.tup [A0 (takeM m x.domain x.at_).2.1,Ab (takeM m x.domain x.at_).2.2]) (E6 n (takeM m x.domain x.at_).1):=cT F129 Tryz.ntmps129 fun F hF=>by
 have hqb:=J9 hl
 have hp:=Aiv (queueL m x.domain) x.at_ hqb.1
 have h1:=A8 x.domain m.queues.length
 have hpl:=placeB_iff (d:=x.domain) (k:=m.queues.length)
 have hres:=takeM.eq_1 m x.domain x.at_
 generalize takeM m x.domain x.at_=res at *
 generalize Ai x.domain m.queues.length=b at *
 have hq0:=queueL.eq_1 m x.domain
 clear hl hqb
 generalize queueL m x.domain=l at *
 generalize takeT l x.at_=r at *
 obtain ⟨q,l2,ok⟩:=r
 conv=>whnf
 refine cD h1 F46 ?_
 cases b
 ·rw[if_pos rfl]at hres
  subst hres
  refine oD ?_
  refine⟨qq,?_⟩
  ((conv=>whnf);refine aT ?_;refine rg ?_;conv=>whnf)
  (skip)
  refine Ar 4 [Aa 0,Aa 0,Aa 0,As 0,As 0,Aa 0,.sl 1 Ag []] E (.cons (.refl _) (.cons (.refl _) (.cons (.refl _) (.cons (.refl _) (.cons (.refl _) (.cons (.refl _) (.cons .nil .nil))))))) ?_
  exact done E (.cons (.cell E E E E) (.cons .tmp .nil)) [] (E6 n m) (fun _ h=>h) E E ⟨Y,⟨.inl E,E,.inl E,E,.inl E,E,Y⟩,E,E⟩
 have hd:=hpl.1 rfl
 rw[Oc hd.2]at hq0
 subst hq0
 rw[if_neg qz]at hres
 subst hres
 refine oD ?_
 refine⟨qq,?_⟩
 ((conv=>whnf);refine aF ?_;refine rg ?_;conv=>whnf)
 (skip)
 refine⟨hd.1,hd.2,?_⟩
 conv=>whnf
 refine⟨E,hd.2,?_⟩
 conv=>whnf
 refine cD hp F191 ?_
 refine oD ?_
 refine kW ?_
 refine⟨hd.1,hd.2,?_⟩
 conv=>whnf
 refine⟨E,hd.2,l2,E,E,?_⟩
 conv=>whnf
 refine kW ?_
 exact done E (.cons (.cell E E E E) (.cons .tmp .nil)) [] (E6 n (Adx m x.domain l2)) (fun _ h=>h) E E ⟨Y,⟨.inl E,E,.inl E,E,.inl E,E,Y⟩,E,E⟩
theorem Aez (n:Net) (hn:n.Fin) (_hm1:n.Num) (m:MacM) (J D:Int) (hm0:MacOK n m J D) (hD:D≤1000000000000) (o:OutM) (ho:OutOK n o) (origin:Int) :
  Sy.Spec Tryz.prog 190 [.ptr 0 0,Bl o,Aa origin] (E6 n m) (.sl 3 Bk (goesM n m o origin).2) (E6 n (goesM n m o origin).1):=cT F190 Tryz.ntmps190 fun F hF=>by
 have hres:=goesM.eq_1 n m o origin
 generalize goesM n m o origin=res at *
 have hdr:H2 m:=fun i=>⟨(hm0.drp i).1,by have:=(hm0.drp i).2;omega⟩
 have hbl:o.bytes.length<100000:=by have:=ho.bytes;omega
 have hin:∀ {x:Int},DomIn n x→0≤x∧x.toNat<m.queues.length:=fun h=>by rw[hm0.ques];exact h
 conv=>whnf
 refine⟨fun h=>?_,fun h=>?_⟩
 ·have h1:o.kind=1:=by simpa using h
  rw[if_pos h1]at hres
  subst hres
  refine oO ?_
  refine Ic 25 Bk [⟨o.port,origin,o.bytes⟩] E E ?_
  refine Ao 25 E ?_
  exact done E (.cons .tmp .nil) [] (E6 n m) (fun _ h=>h) E E ⟨Y,⟨.inl E,E,.inl E,E,.inl E,E,Y⟩,E,E⟩
 have h1:¬ o.kind=1:=by simpa using h
 rw[if_neg h1]at hres
 clear h
 refine oO ?_
 refine⟨fun h=>?_,fun h=>?_⟩
 ·have h2:o.kind=2:=by simpa using h
  rw[if_pos h2]at hres
  have q1:=Aiz n hn o.port o.bytes hbl
  have he:=Acv n o.port o.bytes
  have hd:=fun h=>hin (Acw (n:=n) (port:=o.port) (b:=o.bytes) h)
  have hf:=Z3 n o.port o.bytes
  have ht:=Z2 hn o.port o.bytes
  generalize linkT n o.port o.bytes=r at *
  have q2:=Vp n m r.2.1 ⟨r.1,0,origin,r.2.2.1⟩ r.2.2.2 he hd hdr (C9 hm0 _) (Dw hf _ qn qy)
  subst hres
  refine oO ?_
  refine cD q1 F260 ?_
  refine oD ?_
  refine kW ?_
  refine Ad (Af [] E F127 q2 E ⟨E,E,E,Y⟩ E ⟨.inl E,.inl E,.inl E,Y⟩) E E ?_
  refine oO ?_
  refine Am 6 3 Bk E ?_
  exact done E (.cons .tmp .nil) [] (E6 n (comeM _ _ _ _)) (fun _ h=>h) E E ⟨Y,⟨.inl E,E,.inl E,E,.inl E,E,Y⟩,E,E⟩
 have h2:¬ o.kind=2:=by simpa using h
 rw[if_neg h2]at hres
 clear h
 refine oO ?_
 refine⟨fun h=>?_,fun h=>?_⟩
 ·have h2:o.kind=3:=by simpa using h
  rw[if_pos h2]at hres
  have q1:=Ai1 n hn o.bytes hbl
  have he:=Adi n o.bytes
  have hd:=fun h=>hin (Wu (n:=n) (b:=o.bytes) h).2
  have hf:=Aa3 n o.bytes
  have ht:=Ub hn o.bytes
  generalize comeT n o.bytes=r at *
  have q2:=Vp n m r.2.1 ⟨-1,r.1,origin,r.2.2.1⟩ r.2.2.2 he hd hdr (C9 hm0 _) (Dw hf _ qy ht)
  subst hres
  refine oO ?_
  refine cD q1 F261 ?_
  refine oD ?_
  refine kW ?_
  refine Ad (Af [] E F127 q2 E ⟨E,E,E,Y⟩ E ⟨.inl E,.inl E,.inl E,Y⟩) E E ?_
  refine oO ?_
  refine Am 6 3 Bk E ?_
  exact done E (.cons .tmp .nil) [] (E6 n (comeM _ _ _ _)) (fun _ h=>h) E E ⟨Y,⟨.inl E,E,.inl E,E,.inl E,E,Y⟩,E,E⟩
 have h3:¬ o.kind=3:=by simpa using h
 rw[if_neg h3]at hres
 clear h
 refine oO ?_
 refine⟨fun h=>?_,fun h=>?_⟩
 ·have h4:o.kind=4:=by simpa using h
  rw[if_pos h4]at hres
  have hf:=ho.frame h4
  have q2:=Vp n m o.domain ⟨-2,0,origin,o.frame⟩ 0 qy (fun _=>hin hf.2) hdr (C9 hm0 _) (Dw hf.1 _ qy qy)
  subst hres
  refine oO ?_
  refine Ad (Af [] E F127 q2 E ⟨E,E,E,Y⟩ E ⟨.inl E,.inl E,.inl E,Y⟩) E E ?_
  refine oO ?_
  refine Am 6 3 Bk E ?_
  exact done E (.cons .tmp .nil) [] (E6 n (comeM _ _ _ _)) (fun _ h=>h) E E ⟨Y,⟨.inl E,E,.inl E,E,.inl E,E,Y⟩,E,E⟩
 have h4:¬ o.kind=4:=by simpa using h
 rw[if_neg h4]at hres
 have h5:o.kind=5:=by have:=ho.kind;omega
 have he:=ho.err h5
 obtain ⟨e,hee⟩:∃ e,o.error=e:=⟨_,rfl⟩
 rw[hee]at he hres
 have hbe:=hdr e.toNat
 have hg:H8 ⟨.int .i64,1,[.int .i64 0]⟩ (Jb n m.up m.now m.injected m.drops) (0+13+e.toNat * 1)=_:=Jx n m.up m.now m.injected m.drops e.toNat (by have:=he.2;omega)
 have hgl:=Ln (Jx n m.up m.now m.injected m.drops e.toNat (by have:=he.2;omega))
 have hst2:setAt (Jb n m.up m.now m.injected m.drops) (0+13+e.toNat * 1) [.val (.int .i64 (m.drops e.toNat+1))]=Jb n m.up m.now m.injected (Bg m e).drops:=by rw[Mk n m e,L7]
 have hble:Nat.ble (0+13+e.toNat * 1+1) (Jb n m.up m.now m.injected m.drops).length=true:=Nat.ble_eq_true_of_le hgl
 subst hres
 clear h
 refine oO ?_
 refine⟨fun _=>?_,fun h=>absurd h5 (by simpa using h)⟩
 rw[hee]
 refine oO ?_
 refine⟨he.1,by have:=he.2;omega,?_⟩
 conv=>whnf
 rw[hg]
 conv=>whnf
 refine iW ?_
 refine⟨he.1,by have:=he.2;omega,?_⟩
 conv=>whnf
 refine Yi (Al6 hst2 ?_) hble
 conv=>whnf
 refine kW ?_
 refine Am 6 3 Bk E ?_
 exact done E (.cons .tmp .nil) [] (E6 n (Bg m e)) (fun _ h=>h) E E ⟨Y,⟨.inl E,E,.inl E,E,.inl E,E,Y⟩,E,E⟩
end Go.Sy.YteinjapglfkamaaGreat
namespace Go.Sy.YteinjapglfkamaaGreat
section
variable {n:Net} {up:List Bool} {ranks roots costs:List Int}
end
end Go.Sy.YteinjapglfkamaaGreat
namespace Go.Sy.YteinjapglfkamaaGreat
open Go.Proofs
attribute [local irreducible] Go.Sy.G Go.Sy.DR
set_option maxRecDepth 100000
set_option maxHeartbeats 4000000
theorem Am2 {n:Net} {up:List Bool} (h:okB n up=true) {p:Nat} (hp:p<n.ports.length) (hl:Cd n up p<0):nth (J0 n up) p=0:=by
 obtain ⟨hu,hr,hcost⟩:=ok_iff.1 h
 rw[J0,Ace hr hp,if_neg (fun hb=>?_),Ail hl]
 obtain ⟨j,h1,_⟩:=Aa5 hb
 have:=h1.2
 omega
theorem far_up {n:Net} {up:List Bool} (hr:Ae n=true) {i:Nat} (hi:i<n.ports.length) (h0:0≤n.ports[i].link) (hu:up.getD n.ports[i].link.toNat false=true) :
  ∃ j:Nat,j<n.ports.length∧Cd n up i=j∧(nth n.links n.ports[i].link).a+(nth n.links n.ports[i].link).b-i=j:=by
 have hp:=Kr hr hi
 have hpl:=E5 hr hi
 simp only[D9,Bool.and_eq_true,Bool.or_eq_true,beq_iff_eq]at hp
 have hp:=hp.2
 have hlk:n.ports[i].link.toNat<n.links.length:=by omega
 have he:=I5 hr hlk
 have hfar:Cd n up i=(nth n.links n.ports[i].link).a+(nth n.links n.ports[i].link).b-i:=by
  rw[Cd,A9 hi]
  simp only[hu,Bool.not_true,Bool.or_false,decide_eq_true_eq]
  rw[if_neg qn]
 rw[Ak (l:=n.links) (i:=n.ports[i].link) hlk]at hfar hp ⊢
 generalize n.links[n.ports[i].link.toNat]=l at *
 exact⟨(Cd n up i).toNat,by omega,by omega,by omega⟩
end Go.Sy.YteinjapglfkamaaGreat
namespace Go.Sy.YteinjapglfkamaaGreat
instance:Inhabited Vec:=⟨⟨0,0,0,0,0⟩⟩
def Aia (ranks:List Int) (d:Nat):Vec:=⟨ranks.getD d 0,0,ranks.getD d 0,-1,-1⟩
def J5 (n:Net) (ranks:List Int):List Vec:=(List.range n.devices.length).map (Aia ranks)
def Mg (n:Net) (ranks:List Int) (old:List Vec) (i j:Nat):Vec:=⟨(nth old (Bn n j)).root,(nth old (Bn n j)).cost+If n i,nth ranks (Bn n j),j,i⟩
def Z7 (n:Net) (up:List Bool) (ranks:List Int) (old best:List Vec) (i:Nat):List Vec :=
 if 0≤Cd n up i∧Cj (Mg n ranks old i (Cd n up i).toNat) (nth best (Bn n i))=true then best.set (Bn n i).toNat (Mg n ranks old i (Cd n up i).toNat) else best
def K2 (n:Net) (up:List Bool) (ranks:List Int) (old:List Vec) (m:Nat):List Vec:=(List.range m).foldl (Z7 n up ranks old) old
theorem M6 (n:Net) (up:List Bool) (ranks:List Int) (old:List Vec) (m:Nat):K2 n up ranks old (m+1)=Z7 n up ranks old (K2 n up ranks old m) m:=by
 rw[K2,List.range_succ,List.foldl_append];rfl
def C7 (n:Net) (up:List Bool) (ranks:List Int):Nat→List Vec
 | 0=>J5 n ranks
 | r+1=>K2 n up ranks (C7 n up ranks r) n.ports.length
theorem Aem (n:Net) (up:List Bool) (ranks:List Int) (old best:List Vec) (i:Nat):(Z7 n up ranks old best i).length=best.length:=by
 rw[Z7];split
 ·rw[List.length_set]
 ·rfl
theorem Kf (n:Net) (up:List Bool) (ranks:List Int) (old:List Vec):∀ m,(K2 n up ranks old m).length=old.length
 | 0=>rfl
 | m+1=>by rw[M6,Aem,Kf n up ranks old m]
theorem Eo (n:Net) (up:List Bool) (ranks:List Int):∀ r,(C7 n up ranks r).length=n.devices.length
 | 0=>by simp[C7,J5]
 | r+1=>by rw[C7,Kf,Eo n up ranks r]
theorem As5 {α:Type} [Inhabited α] {l:List α} {a b:Int} {v:α} (h0:0≤a) (h1:a<l.length) (hb:0≤b):nth (l.set a.toNat v) b=if b=a then v else nth l b:=by
 rw[nth,nth,List.getElem?_set]
 by_cases h:b=a
 ·subst h
  rw[if_pos rfl,if_pos rfl,if_pos qn]
  rfl
 ·rw[if_neg qn,if_neg h]
section
variable {n:Net} {up:List Bool} {ranks roots costs:List Int}
structure KnowM (n:Net) (up:List Bool) (ranks:List Int) (old best:List Vec) (m:Nat):Prop where
 shape:∀ d:Int,0≤d→d<n.devices.length→nth best d=nth old d∨∃ i j:Nat,i<m∧Kh n up i j∧Bn n i=d∧nth best d=Mg n ranks old i j
 was:∀ d:Int,0≤d→d<n.devices.length→Cj (nth old d) (nth best d)=false
 cand:∀ i j:Nat,i<m→Kh n up i j→Cj (Mg n ranks old i j) (nth best (Bn n i))=false
theorem K0 {a b c:Vec} (h1:Cj b a=false) (h2:Cj c b=false):Cj c a=false:=by
 cases h:Cj c a
 ·rfl
 ·by_cases hbc:b=c
  ·subst hbc;rw[h1]at h;exact h.symm
  ·rcases Tp hbc with h3 | h3
   ·have:=To h3 h;rw[h1]at this;exact this.symm
   ·rw[h2]at h3;cases h3
theorem Sc (hr:Ae n=true) (old:List Vec) (hl:old.length=n.devices.length):∀ m,m≤n.ports.length→KnowM n up ranks old (K2 n up ranks old m) m
 | 0,_=>⟨fun d _ _=>.inl rfl,fun d _ _=>Lj _,fun i j h=>absurd h qn⟩
 | m+1,hm=>by
  have ih:=Sc hr old hl m qn
  have hlen:=Kf n up ranks old m
  have hpd:=C0 hr (show m<n.ports.length by omega)
  rw[M6,Z7]
  split
  ·rename_i hc
   obtain ⟨j,hj⟩:∃ j:Nat,Cd n up m=j:=⟨(Cd n up m).toNat,by omega⟩
   have hop:Kh n up m j:=⟨by omega,hj⟩
   rw[hj,Int.toNat_natCast]at hc ⊢
   have hset:∀ d:Int,0≤d→nth ((K2 n up ranks old m).set (Bn n m).toNat (Mg n ranks old m j)) d=if d=Bn n m then Mg n ranks old m j else nth (K2 n up ranks old m) d:=fun d h0=>As5 hpd.1 qn h0
   have hnew:Cj (nth (K2 n up ranks old m) (Bn n m)) (Mg n ranks old m j)=false:=Ajw hc.2
   refine⟨fun d h0 h1=>?_,fun d h0 h1=>?_,fun i k hi hik=>?_⟩
   ·rw[hset d h0]
    by_cases hd:d=Bn n m
    ·rw[if_pos hd];exact .inr ⟨m,j,by omega,hop,hd.symm,rfl⟩
    ·rw[if_neg hd]
     rcases ih.shape d h0 h1 with h | ⟨i,k,e1,e2,e3,e4⟩
     ·exact .inl h
     ·exact .inr ⟨i,k,by omega,e2,e3,e4⟩
   ·rw[hset d h0]
    by_cases hd:d=Bn n m
    ·rw[if_pos hd,hd]
     exact K0 hnew (ih.was _ hpd.1 hpd.2)
    ·rw[if_neg hd];exact ih.was d h0 h1
   ·have hpi:=C0 hr hik.1
    rw[hset _ hpi.1]
    by_cases him:i=m
    ·subst him
     have:k=j:=by have:=hik.2;omega
     subst this
     rw[if_pos rfl];exact Lj _
    ·by_cases hd:Bn n i=Bn n m
     ·rw[if_pos hd]
      have:=ih.cand i k qn hik
      rw[hd]at this
      exact K0 hnew this
     ·rw[if_neg hd];exact ih.cand i k qn hik
  ·rename_i hc
   refine⟨fun d h0 h1=>?_,ih.was,fun i k hi hik=>?_⟩
   ·rcases ih.shape d h0 h1 with h | ⟨i,k,e1,e2,e3,e4⟩
    ·exact .inl h
    ·exact .inr ⟨i,k,by omega,e2,e3,e4⟩
   ·by_cases him:i=m
    ·subst him
     cases h:Cj (Mg n ranks old i k) (nth (K2 n up ranks old i) (Bn n i))
     ·rfl
     ·refine absurd ⟨by rw[hik.2];omega,?_⟩ hc
      rw[hik.2,Int.toNat_natCast]
      exact h
    ·exact ih.cand i k qn hik
structure KnowR (n:Net) (up:List Bool) (ranks roots costs:List Int) (r:Nat) (best:List Vec):Prop where
 low:∀ d:Int,0≤d→d<n.devices.length→Le2 (nth roots d) (nth costs d) (nth best d).root (nth best d).cost
 shape:∀ d:Int,0≤d→d<n.devices.length→nth best d=⟨nth ranks d,0,nth ranks d,-1,-1⟩∨∃ (i j:Nat) (x c:Int),Kh n up i j∧Bn n i=d∧Le2 (nth roots (Bn n j)) (nth costs (Bn n j)) x c∧nth best d=⟨x,c+If n i,nth ranks (Bn n j),j,i⟩
 self:∀ d:Int,0≤d→d<n.devices.length→Cj ⟨nth ranks d,0,nth ranks d,-1,-1⟩ (nth best d)=false
 bound:∀ d:Int,0≤d→d<n.devices.length→0≤(nth best d).cost∧(nth best d).cost≤65535 * r
theorem Se (hrk:ranks.length=n.devices.length) {d:Int} (h0:0≤d) (h1:d<n.devices.length):nth (J5 n ranks) d=⟨nth ranks d,0,nth ranks d,-1,-1⟩:=by
 rw[Ak (by simp[J5];omega)]
 simp only[J5,List.getElem_map,List.getElem_range,Aia]
 rw[A9 qn,Ak qn]
theorem Alw {a b c d m:Int} (h:Le2 a b c d):Le2 a (b+m) c (d+m):=by
 unfold Le2 at *
 omega
theorem Sd (S:Solved n up ranks roots costs) (hr:Ae n=true) (hcost:Cq n=true) (hrk:ranks.length=n.devices.length):∀ r,KnowR n up ranks roots costs r (C7 n up ranks r)
 | 0=>by
  refine⟨fun d h0 h1=>?_,fun d h0 h1=>?_,fun d h0 h1=>?_,fun d h0 h1=>?_⟩
  ·rw[C7,Se hrk h0 h1];exact S.self d h0 h1
  ·exact .inl (Se hrk h0 h1)
  ·rw[C7,Se hrk h0 h1];exact Lj _
  ·rw[C7,Se hrk h0 h1];exact⟨by simp,by simp⟩
 | r+1=>by
  have ih:=Sd S hr hcost hrk r
  have hM:=Sc (up:=up) (ranks:=ranks) hr (C7 n up ranks r) (Eo n up ranks r) n.ports.length (Nat.le_refl _)
  rw[C7]
  refine⟨fun d h0 h1=>?_,fun d h0 h1=>?_,fun d h0 h1=>K0 (hM.was d h0 h1) (ih.self d h0 h1),fun d h0 h1=>?_⟩
  ·rcases hM.shape d h0 h1 with h | ⟨i,j,_,e2,e3,e4⟩
   ·rw[h];exact ih.low d h0 h1
   ·rw[e4]
    have hj:=C0 hr (Hn hr e2)
    have t1:=S.tri i j e2
    rw[e3]at t1
    exact Wk t1 (Alw (ih.low _ hj.1 hj.2))
  ·rcases hM.shape d h0 h1 with h | ⟨i,j,_,e2,e3,e4⟩
   ·rw[h];exact ih.shape d h0 h1
   ·have hj:=C0 hr (Hn hr e2)
    exact .inr ⟨i,j,_,_,e2,e3,ih.low _ hj.1 hj.2,e4⟩
  ·rcases hM.shape d h0 h1 with h | ⟨i,j,_,e2,e3,e4⟩
   ·rw[h]
    have:=ih.bound d h0 h1
    omega
   ·rw[e4]
    have hj:=C0 hr (Hn hr e2)
    have:=ih.bound _ hj.1 hj.2
    have:=Kx hcost e2.1
    simp only[Mg]
    omega
theorem U1 {a b:Vec} (h:Cj a b=false):Le2 b.root b.cost a.root a.cost:=by
 unfold Le2
 simp only[Cj]at h
 grind
def dep (n:Net) (costs:List Int) (d:Int):Nat:=(List.range n.devices.length).countP fun e:Nat=>decide (nth costs (e:Int)<nth costs d)
theorem dep_lt {a d:Int} (ha:0≤a∧a<n.devices.length) (h:nth costs a<nth costs d):dep n costs a<dep n costs d:=by
 have hmem:a.toNat∈List.range n.devices.length:=List.mem_range.2 qn
 obtain ⟨l1,l2,hl⟩:=List.append_of_mem hmem
 have ea:((a.toNat:Nat):Int)=a:=by omega
 simp only[dep,hl,List.countP_append,List.countP_cons,ea,h,Int.lt_irrefl,decide_true,decide_false,if_true,Bool.false_eq_true,if_false]
 have m1:=List.countP_mono_left (l:=l1) (p:=fun e:Nat=>decide (nth costs (e:Int)<nth costs a)) (q:=fun e:Nat=>decide (nth costs (e:Int)<nth costs d)) (fun x _ hx=>by simp only[decide_eq_true_eq]at hx ⊢;omega)
 have m2:=List.countP_mono_left (l:=l2) (p:=fun e:Nat=>decide (nth costs (e:Int)<nth costs a)) (q:=fun e:Nat=>decide (nth costs (e:Int)<nth costs d)) (fun x _ hx=>by simp only[decide_eq_true_eq]at hx ⊢;omega)
 omega
theorem dep_le (d:Int):dep n costs d≤n.devices.length:=by
 have:=List.countP_le_length (p:=fun e:Nat=>decide (nth costs (e:Int)<nth costs d)) (l:=List.range n.devices.length)
 simpa [dep] using this
theorem Z8 (S:Solved n up ranks roots costs) (hr:Ae n=true) (hcost:Cq n=true) (hrk:ranks.length=n.devices.length):∀ (r:Nat) (d:Int),0≤d→d<n.devices.length→dep n costs d≤r→Le2 (nth (C7 n up ranks r) d).root (nth (C7 n up ranks r) d).cost (nth roots d) (nth costs d)
 | r,d,h0,h1,hd=>by
  rcases S.der d h0 h1 with h | ⟨i,j,e1,e2,e3,e4⟩
  ·have:=U1 ((Sd S hr hcost hrk r).self d h0 h1)
   rw[h.1,h.2]
   exact this
  ·have hp:=Kx hcost e1.1
   have hj:=C0 hr (Hn hr e1)
   have hlt:=dep_lt (costs:=costs) (d:=d) hj qn
   match r with
   | 0=>omega
   | r+1 =>
    have ih:=Z8 S hr hcost hrk r (Bn n j) hj.1 hj.2 qn
    have hM:=Sc (up:=up) (ranks:=ranks) hr (C7 n up ranks r) (Eo n up ranks r) n.ports.length (Nat.le_refl _)
    have hc:=U1 (hM.cand i j e1.1 e1)
    rw[e2]at hc
    rw[e3,e4]
    exact Wk hc (Alw ih)
theorem Z6 (S:Solved n up ranks roots costs) (hr:Ae n=true) (hcost:Cq n=true) (hrk:ranks.length=n.devices.length) {r:Nat} (hrn:n.devices.length≤r) {d:Int} (h0:0≤d) (h1:d<n.devices.length) :
  (nth (C7 n up ranks r) d).root=nth roots d∧(nth (C7 n up ranks r) d).cost=nth costs d:=by
 have a1:=(Sd S hr hcost hrk r).low d h0 h1
 have a2:=Z8 S hr hcost hrk r d h0 h1 (Nat.le_trans (dep_le d) hrn)
 unfold Le2 at a1 a2
 omega
theorem Aqu (S:Solved n up ranks roots costs) (hr:Ae n=true) (hcost:Cq n=true) (hrk:ranks.length=n.devices.length) {d:Int} (h0:0≤d) (h1:d<n.devices.length) :
  (nth (C7 n up ranks (n.devices.length+1)) d).root=nth roots d∧(nth (C7 n up ranks (n.devices.length+1)) d).cost=nth costs d∧(nth (C7 n up ranks (n.devices.length+1)) d).own=Hk n up ranks roots costs d:=by
 obtain ⟨x1,x2⟩:=Z6 S hr hcost hrk (r:=n.devices.length+1) qn h0 h1
 refine⟨x1,x2,?_⟩
 have hI:=Sd S hr hcost hrk (n.devices.length+1)
 have hcb:=O0 S h0 h1
 by_cases hroot:nth roots d=nth ranks d
 ·rw[Aoo hroot]
  have hz:=Afs S h0 h1 hroot
  rcases hI.shape d h0 h1 with h | ⟨i,j,x,c,e1,e2,e3,e4⟩
  ·rw[h]
  ·exfalso
   have hp:=Kx hcost e1.1
   have hj:=C0 hr (Hn hr e1)
   have hrt:=Lc S hr e1
   have hcj:=O0 S hj.1 hj.2
   rw[e4]at x1 x2
   simp only at x1 x2
   rw[e2]at hrt
   unfold Le2 at e3
   omega
 ·obtain ⟨i,j,b1,b2,b3,b4⟩:=Aon S hr h0 h1 hroot
  obtain ⟨j',c1,c2,_,c4⟩:=Aa5 b3
  have:j'=j:=by have:=c1.2;have:=b1.2;omega
  subst this
  have hmem:nth (C7 n up ranks (n.devices.length+1)) d∈Ik n up ranks roots costs d n.ports.length:=by
   rcases hI.shape d h0 h1 with h | ⟨p,q,x,c,e1,e2,e3,e4⟩
   ·exfalso
    rw[h]at x1
    exact hroot x1.symm
   ·refine best_mem.2 ⟨p,q,e1,e2,?_⟩
    have hrt:=Lc S hr e1
    have hv:=Y2 S hr e1
    rw[e2]at hrt hv
    rw[e4]at x1 x2
    simp only at x1 x2
    have g1:x=nth roots (Bn n q):=by omega
    have g2:c=nth costs (Bn n q):=by unfold Le2 at e3;omega
    rw[e4,g1,g2]
  have hle:=Acy _ _ hmem
  have hM:=Sc (up:=up) (ranks:=ranks) hr (C7 n up ranks n.devices.length) (Eo n up ranks n.devices.length) n.ports.length (Nat.le_refl _)
  have hcand:=hM.cand i j' b1.1 b1
  have hj:=C0 hr (Hn hr b1)
  obtain ⟨y1,y2⟩:=Z6 S hr hcost hrk (r:=n.devices.length) (Nat.le_refl _) hj.1 hj.2
  rw[Mg,y1,y2,b2]at hcand
  have hcand:Cj ⟨nth roots (Bn n j'),nth costs (Bn n j')+If n i,nth ranks (Bn n j'),j',i⟩ (nth (C7 n up ranks (n.devices.length+1)) d)=false:=hcand
  rw[c4]at hle
  rw[b3]
  by_cases he:nth (C7 n up ranks (n.devices.length+1)) d=⟨nth roots (Bn n j'),nth costs (Bn n j')+If n i,nth ranks (Bn n j'),j',i⟩
  ·rw[he]
  ·rcases Tp he with h | h
   ·rw[hle]at h;cases h
   ·rw[hcand]at h;cases h
end
end Go.Sy.YteinjapglfkamaaGreat
namespace Go.Sy.YteinjapglfkamaaGreat
open Go.Proofs
attribute [local irreducible] Go.Sy.G Go.Sy.DR
set_option maxRecDepth 100000
set_option maxHeartbeats 4000000
theorem Acm {n:Net} {up:List Bool} (hr:Ae n=true) {i:Nat} (hi:i<n.ports.length) (h0:n.ports[i].link≠-1) (hu:up.getD n.ports[i].link.toNat false=true):Ky n.links i=Cd n up i:=by
 have hpl:=E5 hr hi
 obtain ⟨j,hj,hf,hsum⟩:=far_up (up:=up) hr hi qn hu
 have hop:Kh n up i j:=⟨hi,hf⟩
 obtain ⟨k,hk,h1,h2,h3,h4,hne⟩:=Wo hr hop
 rw[hf]
 have hall:∀ q (hq:q<n.links.length),(n.links[q].a=i∨n.links[q].b=i)→q=k:=fun q hq h=>by
  have hlq:=Th hr hq
  simp only[K1,Bool.and_eq_true,beq_iff_eq,bne_iff_ne]at hlq
  rcases h with h | h
  ·rw[h]at hlq;have:=hlq.1.2;omega
  ·rw[h]at hlq;have:=hlq.2;omega
 have hij:(i:Int)≠j:=fun h=>hne (by have:i=j:=qn;rw[this])
 rw[Ak (l:=n.links) (i:=(k:Int)) (by simpa using hk)]at h4
 simp only[Int.toNat_natCast]at h4
 have hfind:n.links.find? (fun l=>l.a == (i:Int) || l.b == (i:Int))=some n.links[k]:=by
  rw[List.find?_eq_some_iff_getElem]
  refine⟨?_,k,hk,E,fun q hq=>?_⟩
  ·rcases h4 with h4 | h4<;>simp[h4.1,h4.2]
  ·have hn:¬ (n.links[q].a=i∨n.links[q].b=i):=fun h=>by have:=hall q qn h;omega
   simpa using hn
 rw[Ky,hfind]
 simp only
 rcases h4 with h4 | h4
 ·rw[if_pos h4.1,h4.2]
 ·rw[if_neg (by rw[h4.1];omega),h4.1]
def Wl (n:Net) (up:List Bool) (ranks:List Int) (x:SV):List SV:=[.sl 5 Bs n.devices,.sl 7 Bh n.ports,.sl 3 Cs n.links,.sl 6 Aw n.domains,.sl 4 Bp n.statics,.sl 4 B7 n.floods,.sl 5 C4 n.vrfs,.sl 5 Dp n.irbs,.sl 1 Ab up,.sl 1 Aa ranks,x]
def Ag7 (n:Net) (up:List Bool) (ranks:List Int) (best:List Vec):Obs:=[(0,.box (Wl n up ranks (.osl 1))),(1,.row 5 D3 best)]
def Aj3 (n:Net) (up:List Bool) (ranks:List Int) (best:List Vec):SV:=.ref 11 (.agg (Wl n up ranks (.sl 5 D3 best))) 0
theorem Ass (n:Net) (up:List Bool) (ranks:List Int) (best:List Vec) (i:Nat) (hr:Ae n=true) (hu:up.length=n.links.length) (hi:i<n.ports.length) :
  Sy.Spec Tryz.prog 250 [.ptr 0 0,Aa i] (Ag7 n up ranks best) (Aa (Cd n up i)) (Ag7 n up ranks best):=cT F250 Tryz.ntmps250 fun F hF=>by
 have hpl:=E5 hr hi
 have hf:=C1 hr
 have e1:n.ports[(i:Int).toNat]'qn=n.ports[i]:=rfl
 have hof:=Acm (up:=up) hr hi
 have hfar:Cd n up i=if n.ports[i].link<0 || !(up.getD n.ports[i].link.toNat false) then -1 else (nth n.links n.ports[i].link).a+(nth n.links n.ports[i].link).b-i:=by
  rw[Cd,A9 hi]
 have hos:=Ajh n i (by unfold Ap;omega)
 generalize Cd n up i=f at *
 conv=>whnf
 refine⟨E,by omega,by omega,?_⟩
 conv=>whnf
 refine⟨fun h=>?_,fun h=>?_⟩
 ·have h1:n.ports[i].link=-1:=by simpa using h
  rw[h1]at hfar
  have hfr:f=-1:=hfar
  refine oD ?_
  refine⟨qq,?_⟩
  ((conv=>whnf);refine aT ?_;refine rg ?_;conv=>whnf)
  refine done E (.cons .tmp .nil) [] (Ag7 n up ranks best) (fun _ h=>h) ?_ E ⟨Y,⟨.inl E,E,.inl E,E,Y⟩,E,E⟩
  exact congrArg Aa hfr
 have h1:¬ n.ports[i].link=-1:=by simpa using h
 have hlk:n.ports[i].link.toNat<up.length:=by omega
 have hof:=hof h1
 rw[A9 hlk]at hof hfar
 refine oD ?_
 refine⟨E,by omega,by omega,?_⟩
 conv=>whnf
 refine⟨E,by simp only[Int.toNat_natCast];omega,by simp only[Int.toNat_natCast];omega,?_⟩
 conv=>whnf
 refine kW ?_
 refine⟨fun h2=>?_,fun h2=>?_⟩
 ·have h3:up[n.ports[i].link.toNat]=false:=by simpa using h2
  rw[h3]at hfar
  have hfr:f=-1:=by simpa using hfar
  refine oO ?_
  refine done E (.cons .tmp .nil) [] (Ag7 n up ranks best) (fun _ h=>h) ?_ E ⟨Y,⟨.inl E,E,.inl E,E,Y⟩,E,E⟩
  exact congrArg Aa hfr
 ·have h3:up[n.ports[i].link.toNat]=true:=by simpa using h2
  rw[hof h3]at hos
  refine oO ?_
  refine c0 hos F211 ?_
  refine oO ?_
  exact done E (.cons .tmp .nil) [] (Ag7 n up ranks best) (fun _ h=>h) E E ⟨Y,⟨.inl E,E,.inl E,E,Y⟩,E,E⟩
theorem Asr (n:Net) (up:List Bool) (ranks:List Int) (best:List Vec) (i:Nat) (hr:Ae n=true) (hu:up.length=n.links.length) (hi:i<n.ports.length) :
  Sy.Spec Tryz.prog 250 [Aj3 n up ranks best,Aa i] [] (Aa (Cd n up i)) []:=cT F250 Tryz.ntmps250 fun F hF=>by
 have hpl:=E5 hr hi
 have hf:=C1 hr
 have e1:n.ports[(i:Int).toNat]'qn=n.ports[i]:=rfl
 have hof:=Acm (up:=up) hr hi
 have hfar:Cd n up i=if n.ports[i].link<0 || !(up.getD n.ports[i].link.toNat false) then -1 else (nth n.links n.ports[i].link).a+(nth n.links n.ports[i].link).b-i:=by
  rw[Cd,A9 hi]
 have hos:=Ajh n i (by unfold Ap;omega)
 generalize Cd n up i=f at *
 conv=>whnf
 refine⟨E,by omega,by omega,?_⟩
 conv=>whnf
 refine⟨fun h=>?_,fun h=>?_⟩
 ·have h1:n.ports[i].link=-1:=by simpa using h
  rw[h1]at hfar
  have hfr:f=-1:=hfar
  refine oD ?_
  refine⟨qq,?_⟩
  ((conv=>whnf);refine aT ?_;refine rg ?_;conv=>whnf)
  refine Aq E (.cons .tmp .nil) ?_ E
  exact congrArg Aa hfr
 have h1:¬ n.ports[i].link=-1:=by simpa using h
 have hlk:n.ports[i].link.toNat<up.length:=by omega
 have hof:=hof h1
 rw[A9 hlk]at hof hfar
 refine oD ?_
 refine⟨E,by omega,by omega,?_⟩
 conv=>whnf
 refine⟨E,by simp only[Int.toNat_natCast];omega,by simp only[Int.toNat_natCast];omega,?_⟩
 conv=>whnf
 refine kW ?_
 refine⟨fun h2=>?_,fun h2=>?_⟩
 ·have h3:up[n.ports[i].link.toNat]=false:=by simpa using h2
  rw[h3]at hfar
  have hfr:f=-1:=by simpa using hfar
  refine oO ?_
  refine Aq E (.cons .tmp .nil) ?_ E
  exact congrArg Aa hfr
 ·have h3:up[n.ports[i].link.toNat]=true:=by simpa using h2
  rw[hof h3]at hos
  refine oO ?_
  refine c0 hos F211 ?_
  refine oO ?_
  exact dN
theorem Aj4 (n:Net) (ranks:List Int) (j:Nat) (h:j<n.devices.length):(J5 n ranks).take (j+1)=(J5 n ranks).take j++[Aia ranks j]:=by
 rw[List.take_succ_eq_append_getElem (by simpa [J5] using h)]
 simp[J5]
theorem Xf (n:Net) (up:List Bool) (ranks:List Int) (hr:Ae n=true) (hcost:Cq n=true) (old:List Vec) (hl:old.length=n.devices.length) {b:Int} (hb:∀ x∈old,0≤x.cost∧x.cost≤b):∀ m,m≤n.ports.length→∀ x∈K2 n up ranks old m,0≤x.cost∧x.cost≤b+65535
 | 0,_,x,hx=>by have:=hb x hx;omega
 | m+1,hm,x,hx=>by
  have ih:=Xf n up ranks hr hcost old hl hb m qn
  rw[M6,Z7]at hx
  split at hx
  ·rename_i hc
   rcases List.mem_or_eq_of_mem_set hx with h | h
   ·exact ih x h
   ·have hp:=Kx hcost (show m<n.ports.length by omega)
    obtain ⟨j,hj⟩:∃ j:Nat,Cd n up m=j:=⟨(Cd n up m).toNat,by omega⟩
    have hop:Kh n up m j:=⟨by omega,hj⟩
    have hjd:=C0 hr (Hn hr hop)
    have he:nth old (Bn n j)∈old:=by rw[Ak qn];exact List.getElem_mem _
    have:=hb _ he
    rw[hj,Int.toNat_natCast]at h
    rw[h]
    simp only[Mg]
    omega
  ·exact ih x hx
theorem Xg (n:Net) (up:List Bool) (ranks:List Int) (hr:Ae n=true) (hcost:Cq n=true):∀ r:Nat,∀ x∈C7 n up ranks r,0≤x.cost∧x.cost≤65535 * r
 | 0,x,hx=>by
  simp only[C7,J5,List.mem_map]at hx
  obtain ⟨_,_,rfl⟩:=hx
  simp[Aia]
 | r+1,x,hx=>by
  have:=Xf n up ranks hr hcost (C7 n up ranks r) (Eo n up ranks r) (Xg n up ranks hr hcost r) n.ports.length (Nat.le_refl _) x hx
  omega
theorem Ap3 (n:Net) (up:List Bool) (hn:n.Fin) (hu:up.length=n.links.length) (hr:Ae n=true) (hcost:Cq n=true) :
  Sy.Spec Tryz.prog 249 [Aj n,.sl 1 Ab up] [] (Aj3 n up (Cw n) (C7 n up (Cw n) (n.devices.length+1))) []:=cT F249 Tryz.ntmps249 fun F hF=>by
 have hf:=C1 hr
 have hrs:=Am8 n hn
 rw[← Zp n]at hrs
 have hrk:=E4 n
 generalize Cw n=ranks at *
 conv=>whnf
 refine cD hrs F312 ?_
 refine oD ?_
 refine kW ?_
 refine A3 2 8 (Aj n) E E E ?_
 refine K9 18 10 1000 5 D3 E E E E ?_
 refine At n.devices.length (fun j=>[(2,.ref 8 (Aj n) 0),(5,.ptr 18 0),(6,Aa j)]) (fun j=>[(18,.box (Wl n up ranks (.osl 1000))),(1000,.row 5 D3 ((J5 n ranks).take j))]) []
  ⟨⟨rfl,rfl,rfl,rfl,rfl,rfl,trivial⟩,⟨.inl rfl,rfl,.inl rfl,rfl,trivial⟩,rfl,rfl⟩ ?_
 intro j hj
 refine oO ?_
 refine⟨fun h=>?_,fun h=>?_⟩
 ·have hlt:j<n.devices.length:=by simpa using h
  have hsucc:=Aj4 n ranks j hlt
  have hln:((J5 n ranks).take j).length≤8:=by simp[J5];omega
  have hv:Aia ranks j=⟨ranks[(j:Int).toNat]'qn,0,ranks[(j:Int).toNat]'qn,-1,-1⟩:=by
   simp only[Aia,Int.toNat_natCast];rw[A9 qn]
  obtain ⟨u,hu'⟩:∃ u,(J5 n ranks).take j=u:=⟨_,rfl⟩
  rw[hu']at hsucc hln ⊢
  refine oO ?_
  refine⟨E,by omega,by omega,?_⟩
  conv=>whnf
  refine⟨E,by omega,by omega,?_⟩
  conv=>whnf
  refine Bd (Ac Γ.toTy 47 E E E E E (.row E) (.lit (e:=D3) (l:=[Aia ranks j]) E (by rw[hv];rfl)) qz (by simp;omega) (by simp;omega)) qq E ?_
  refine oD ?_
  refine kW ?_
  refine iW ?_
  exact An [(1000,47)] hlt ⟨⟨E,E,E,E,E,E,Y⟩,⟨.inl E,E,.inl (congrArg (Ob.row 5 D3) hsucc),E,Y⟩,E,E⟩
 have hjl:j=n.devices.length:=by
  have:¬ j<n.devices.length:=by simpa using h
  omega
 subst hjl
 have hall:(J5 n ranks).take n.devices.length=C7 n up ranks 0:=by rw[List.take_of_length_le (by simp[J5]),C7]
 clear h hj
 refine oO ?_
 refine At (n.devices.length+1) (fun r=>[(2,.ref 8 (Aj n) 0),(5,.ptr 18 0),(7,Aa r)]) (fun r=>[(18,.box (Wl n up ranks (.osl 1000))),(1000,.row 5 D3 (C7 n up ranks r))]) []
  ⟨⟨rfl,rfl,rfl,rfl,rfl,rfl,trivial⟩,⟨.inl rfl,rfl,.inl (by rw[← hall];rfl),rfl,trivial⟩,rfl,rfl⟩ ?_
 clear hall
 intro r hrn
 refine oO ?_
 refine⟨fun h=>?_,fun h=>?_⟩
 ·have hlt:r<n.devices.length+1:=by
   have:(r:Int)≤n.devices.length:=of_decide_eq_true h
   omega
  have hol:=Eo n up ranks r
  have hob:=Xg n up ranks hr hcost r
  have hnext:C7 n up ranks (r+1)=K2 n up ranks (C7 n up ranks r) n.ports.length:=rfl
  obtain ⟨old,hold⟩:∃ old,C7 n up ranks r=old:=⟨_,rfl⟩
  rw[hold]at hol hob hnext ⊢
  have hz:K2 n up ranks old 0=old:=rfl
  refine oO ?_
  refine Ad (Ac Γ.toTy 62 E E E E E (.lit (e:=D3) (l:=[]) E E) (.row (l:=old) E) qz (by simp;omega) (by simp;omega)) E E ?_
  refine oO ?_
  refine Ao 62 E ?_
  refine At n.ports.length (fun i=>[(2,.ref 8 (Aj n) 0),(5,.ptr 18 0),(7,Aa r),(8,.sl 5 D3 old),(9,Aa i)]) (fun i=>[(18,.box (Wl n up ranks (.osl 1000))),(1000,.row 5 D3 (K2 n up ranks old i))]) []
   ⟨⟨rfl,rfl,rfl,rfl,rfl,rfl,rfl,rfl,rfl,rfl,trivial⟩,⟨.inl rfl,rfl,.inl rfl,rfl,trivial⟩,rfl,rfl⟩ ?_
  intro i hi
  refine oO ?_
  refine⟨fun h=>?_,fun h=>?_⟩
  ·have hil:i<n.ports.length:=by simpa using h
   have hul:=Kf n up ranks old i
   have hsucc:=M6 n up ranks old i
   rw[Z7]at hsucc
   have hfl:=Tx (up:=up) hr hil
   have ei:Bn n i=(n.ports[(i:Int).toNat]'qn).dev:=by rw[Bn,Ak qn]
   have ec:If n i=(n.ports[(i:Int).toNat]'qn).cost:=by rw[If,Ak qn]
   have hpi:=C0 hr hil
   have hci:=Kx hcost hil
   generalize K2 n up ranks old i=u at *
   have hcall:=Ass n up ranks u i hr hu hil
   obtain ⟨f,hf'⟩:∃ f,Cd n up i=f:=⟨_,rfl⟩
   rw[hf']at hfl hcall hsucc
   refine oO ?_
   refine Ad (Af [(0,18),(1,1000)] E F250 hcall E ⟨E,E,Y⟩ E ⟨.inl E,.inl E,Y⟩) E E ?_
   refine oO ?_
   refine⟨fun h=>?_,fun h=>?_⟩
   ·have hneg:f<0:=of_decide_eq_true h
    rw[if_neg (fun hh=>absurd hh.1 qn)]at hsucc
    refine oO ?_
    refine iW ?_
    exact An [] hil ⟨⟨E,E,E,E,E,E,E,E,E,E,Y⟩,⟨.inl E,E,.inl (congrArg (Ob.row 5 D3) hsucc),E,Y⟩,E,E⟩
   have hneg:¬ f<0:=of_decide_eq_false h
   obtain ⟨j,rfl⟩:∃ j:Nat,f=j:=⟨f.toNat,by omega⟩
   have hjl:=hfl qn
   have ej:Bn n j=(n.ports[(j:Int).toNat]'qn).dev:=by rw[Bn,Ak qn]
   have hpj:=C0 hr (show j<n.ports.length by omega)
   obtain ⟨q,hq⟩:∃ q,n.ports[(j:Int).toNat]'qn=q:=⟨_,rfl⟩
   rw[hq]at ej
   rw[ej]at hpj
   have hv:Mg n ranks old i j=⟨(old[q.dev.toNat]'qn).root,(old[q.dev.toNat]'qn).cost+(n.ports[(i:Int).toNat]'qn).cost,ranks[q.dev.toNat]'qn,j,i⟩:=by
    rw[Mg,ej,ec,Ak (l:=old) (i:=q.dev) qn,Ak (l:=ranks) (i:=q.dev) qn]
   have hbo:=hob _ (List.getElem_mem (show q.dev.toNat<old.length by omega))
   rw[ec]at hci
   rw[ei]at hpi
   rw[Int.toNat_natCast,hv,ei,Ak (l:=u) (i:=(n.ports[(i:Int).toNat]'qn).dev) qn]at hsucc
   have hless:=Ap1 ⟨(old[q.dev.toNat]'qn).root,(old[q.dev.toNat]'qn).cost+(n.ports[(i:Int).toNat]'qn).cost,ranks[q.dev.toNat]'qn,j,i⟩ (u[(n.ports[(i:Int).toNat]'qn).dev.toNat]'qn)
   refine oO ?_
   refine⟨E,by omega,by omega,?_⟩
   rw[hq]
   conv=>whnf
   refine⟨E,by omega,by omega,?_⟩
   conv=>whnf
   refine⟨E,by omega,by omega,?_⟩
   conv=>whnf
   refine⟨E,by omega,by omega,?_⟩
   conv=>whnf
   refine iW ?_
   refine⟨E,by omega,by omega,?_⟩
   conv=>whnf
   refine kW ?_
   refine⟨E,by omega,by omega,?_⟩
   conv=>whnf
   refine⟨by omega,by omega,?_⟩
   conv=>whnf
   refine⟨E,by omega,?_⟩
   conv=>whnf
   refine cD hless F313 ?_
   refine oD ?_
   refine kW ?_
   refine⟨fun h=>?_,fun h=>?_⟩
   ·rw[if_pos ⟨by omega,h⟩]at hsucc
    refine oO ?_
    refine⟨E,by omega,by omega,?_⟩
    conv=>whnf
    refine⟨by omega,by omega,?_⟩
    conv=>whnf
    refine⟨E,by omega,⟨(old[q.dev.toNat]'qn).root,(old[q.dev.toNat]'qn).cost+(n.ports[(i:Int).toNat]'qn).cost,ranks[q.dev.toNat]'qn,j,i⟩,E,E,?_⟩
    conv=>whnf
    refine kW ?_
    refine iW ?_
    exact An [] hil ⟨⟨E,E,E,E,E,E,E,E,E,E,Y⟩,⟨.inl E,E,.inl (congrArg (Ob.row 5 D3) hsucc),E,Y⟩,E,E⟩
   ·rw[if_neg (fun hh=>by rw[hh.2]at h;cases h)]at hsucc
    refine oO ?_
    refine iW ?_
    exact An [] hil ⟨⟨E,E,E,E,E,E,E,E,E,E,Y⟩,⟨.inl E,E,.inl (congrArg (Ob.row 5 D3) hsucc),E,Y⟩,E,E⟩
  have hil:i=n.ports.length:=by
   have:¬ i<n.ports.length:=by simpa using h
   omega
  subst hil
  refine oO ?_
  refine iW ?_
  exact An [] qn ⟨⟨E,E,E,E,E,E,Y⟩,⟨.inl E,E,.inl (congrArg (Ob.row 5 D3) hnext),E,Y⟩,E,E⟩
 have hrl:r=n.devices.length+1:=by
  have:¬ (r:Int)≤n.devices.length:=of_decide_eq_false h
  omega
 subst hrl
 refine oO ?_
 refine Ao 1000 E ?_
 refine A3 18 11 (.agg (Wl n up ranks (.sl 5 D3 (C7 n up ranks (n.devices.length+1))))) E E E ?_
 exact dN
def Qf (n:Net) (up:List Bool):List Vec:=C7 n up (Cw n) (n.devices.length+1)
theorem Ael (n:Net) (up:List Bool):(Qf n up).length=n.devices.length:=Eo ..
theorem Alx {n:Net} {up:List Bool} (h:okB n up=true) {d:Int} (h0:0≤d) (h1:d<n.devices.length) :
  (nth (Qf n up) d).root=nth (Tg n up) d∧(nth (Qf n up) d).cost=nth (T9 n up) d∧(nth (Qf n up) d).own=Hk n up (Cw n) (Tg n up) (T9 n up) d:=by
 obtain ⟨hu,hr,hcost⟩:=ok_iff.1 h
 exact Aqu (Ww h) hr hcost (E4 n) h0 h1
theorem Aub (n:Net) (up:List Bool) (hn:n.Fin):Sy.Spec Tryz.prog 248 [Aj n,.sl 1 Ab up] [] (Ab (okB n up)) []:=cT F248 Tryz.ntmps248 fun F hF=>by
 conv=>whnf
 (repeat' (first | (refine⟨fun h=>?_,fun h=>?_⟩<;>(repeat (first | simp only[beq_iff_eq]at h | simp only[beq_eq_false_iff_ne]at h))<;>((refine oO ?_);repeat((refine aF ?_);(refine oO ?_)))) | (refine Aq rfl (.cons .tmp .nil) ?_ rfl) | (refine c0 (Dy n hn) F10 ?_;((refine oO ?_))) | (refine c0 (And n hn.ports) F311 ?_;((refine oO ?_)))))
 all_goals (refine congrArg Ab ?_;clear hF;simp_all[okB])
 all_goals omega
theorem Aga (n:Net) (up:List Bool) (hn:n.Fin) (h:okB n up=false):Sy.Spec Tryz.prog 183 [Aj n,.sl 1 Ab up] [] (.tup [.sl 1 Aa [],Aa 2]) []:=cT F183 Tryz.ntmps183 fun F hF=>by
 have hfit:=Aub n up hn
 rw[h]at hfit
 conv=>whnf
 refine c0 hfit F248 ?_
 refine oT ?_
 refine Am 4 1 Aa E ?_
 exact dN
theorem Am3 {n:Net} {up:List Bool} (h:okB n up=true) {i:Nat} (hi:i<n.ports.length) :
  (Cd n up i<0→nth (J0 n up) i=0)∧(∀ j:Nat,Cd n up i=j→nth (J0 n up) i=if (nth (Qf n up) (Bn n i)).own=i then 1 else
   if (nth (Qf n up) (Bn n i)).cost<(nth (Qf n up) (Bn n j)).cost∨((nth (Qf n up) (Bn n i)).cost=(nth (Qf n up) (Bn n j)).cost∧nth (Cw n) (Bn n i)<nth (Cw n) (Bn n j)) then 2 else 3):=by
 obtain ⟨hu,hr,hcost⟩:=ok_iff.1 h
 refine⟨fun hf=>Am2 h hi hf,fun j hj=>?_⟩
 have hop:Kh n up i j:=⟨hi,hj⟩
 have hpi:=C0 hr hi
 have hpj:=C0 hr (Hn hr hop)
 obtain ⟨_,k1,k2⟩:=Alx h hpi.1 hpi.2
 obtain ⟨_,k3,_⟩:=Alx h hpj.1 hpj.2
 rw[J0,Ace hr hi,Am4 hop,k1,k2,k3]
theorem Aip (n:Net) (up:List Bool) (hn:n.Fin) (h:okB n up=true):Sy.Spec Tryz.prog 183 [Aj n,.sl 1 Ab up] [] (.tup [.sl 1 Aa (J0 n up),Aa 0]) []:=cT F183 Tryz.ntmps183 fun F hF=>by
 have hfit:=Aub n up hn
 rw[h]at hfit
 obtain ⟨hu,hr,hcost⟩:=ok_iff.1 h
 have hf:=C1 hr
 have hkn:=Ap3 n up hn hu hr hcost
 have hkl:=Ael n up
 have hrk:=E4 n
 have hrole:=fun i hi=>Am3 h (i:=i) hi
 have hrl:=Lu n up
 rw[show C7 n up (Cw n) (n.devices.length+1)=Qf n up from rfl]at hkn
 generalize Cw n=ranks at *
 generalize Qf n up=best at *
 generalize J0 n up=roles at *
 clear h
 conv=>whnf
 refine c0 hfit F248 ?_
 refine oF ?_
 refine c0 hkn F249 ?_
 refine oO ?_
 refine A3 2 8 (Aj n) E E E ?_
 refine Bm 7 1000 1 Aa E E ?_
 refine At n.ports.length (fun j=>[(2,.ref 8 (Aj n) 0),(6,Aj3 n up ranks best),(7,.osl 1000),(8,Aa j)]) (fun j=>[(1000,.row 1 Aa (roles.take j))]) []
  ⟨⟨rfl,rfl,rfl,rfl,rfl,rfl,rfl,rfl,trivial⟩,⟨.inl (by simp only[List.take_zero];rfl),rfl,trivial⟩,rfl,rfl⟩ ?_
 intro i hi
 refine oO ?_
 refine⟨fun h=>?_,fun h=>?_⟩
 ·have hlt:i<n.ports.length:=by simpa using h
  obtain ⟨hr0,hr1⟩:=hrole i hlt
  have hsucc:roles.take (i+1)=roles.take i++[roles[i]'qn]:=List.take_succ_eq_append_getElem qn
  have hln:(roles.take i).length≤40:=by simp;omega
  rw[Ak (l:=roles) (i:=(i:Int)) qn]at hr0
  rw[Ak (l:=roles) (i:=(i:Int)) qn]at hr1
  simp only[Int.toNat_natCast]at hr0 hr1
  generalize roles.take i=o at *
  have hcall:=Asr n up ranks best i hr hu hlt
  have hfl:=Tx (up:=up) hr hlt
  obtain ⟨f,hf'⟩:∃ f,Cd n up i=f:=⟨_,rfl⟩
  rw[hf']at hfl hcall hr0 hr1
  refine oO ?_
  refine c0 hcall F250 ?_
  refine oO ?_
  refine⟨fun h=>?_,fun h=>?_⟩
  ·have hpos:0≤f:=of_decide_eq_true h
   obtain ⟨j,rfl⟩:∃ j:Nat,f=j:=⟨f.toNat,by omega⟩
   have hjl:=hfl qn
   have hr1:=hr1 j rfl
   have ei:Bn n i=(n.ports[(i:Int).toNat]'qn).dev:=by rw[Bn,Ak qn]
   have ej:Bn n j=(n.ports[(j:Int).toNat]'qn).dev:=by rw[Bn,Ak qn]
   obtain ⟨p,hp⟩:∃ q,n.ports[(i:Int).toNat]'qn=q:=⟨_,rfl⟩
   obtain ⟨q,hq⟩:∃ q,n.ports[(j:Int).toNat]'qn=q:=⟨_,rfl⟩
   have hpi:=C0 hr hlt
   have hpj:=C0 hr (show j<n.ports.length by omega)
   rw[hp]at ei
   rw[hq]at ej
   rw[ei]at hpi
   rw[ej]at hpj
   rw[ei,ej,Ak (l:=best) (i:=p.dev) qn,Ak (l:=best) (i:=q.dev) qn,Ak (l:=ranks) (i:=p.dev) qn,Ak (l:=ranks) (i:=q.dev) qn]at hr1
   refine oO ?_
   refine⟨E,by omega,by omega,?_⟩
   rw[hp]
   conv=>whnf
   refine⟨E,by omega,by omega,?_⟩
   rw[hq]
   conv=>whnf
   refine kW ?_
   (repeat' (first | (refine⟨fun h=>?_,fun h=>?_⟩<;>(repeat (first | simp only[decide_eq_true_eq]at h | simp only[decide_eq_false_iff_not]at h | simp only[beq_iff_eq]at h | simp only[beq_eq_false_iff_ne]at h))<;>((first|refine rg ?_|refine rd qq ?_);(conv=>whnf))) | (refine⟨qq,?_⟩;((conv=>whnf);repeat((first|refine aF ?_|refine aT ?_);(refine oO ?_)))) | (refine⟨by (omega),by (omega),?_⟩;((conv=>whnf))) | (refine⟨by (unfold I64;omega),?_⟩;((conv=>whnf))) | (refine Ad (Ac Γ.toTy 110 rfl rfl rfl rfl rfl (.row rfl) (.lit (e:=Aa) (l:=[(1:Int)]) rfl rfl) qz (by simp;omega) (by simp;omega)) rfl rfl ?_;((refine oO ?_))) | (refine Ad (Ac Γ.toTy 110 rfl rfl rfl rfl rfl (.row rfl) (.lit (e:=Aa) (l:=[(2:Int)]) rfl rfl) qz (by simp;omega) (by simp;omega)) rfl rfl ?_;((refine oO ?_))) | (refine Ad (Ac Γ.toTy 110 rfl rfl rfl rfl rfl (.row rfl) (.lit (e:=Aa) (l:=[(3:Int)]) rfl rfl) qz (by simp;omega) (by simp;omega)) rfl rfl ?_;((refine oO ?_))) | refine An [(1000,110)] hlt ⟨⟨rfl,rfl,rfl,rfl,rfl,rfl,rfl,rfl,trivial⟩,⟨.inl (congrArg (Ob.row 1 Aa) ?_),rfl,trivial⟩,rfl,rfl⟩))
   all_goals (rw[hsucc,hr1];clear hF hfit hkn hcall hrole;refine congrArg (fun z=>o++[z]) ?_;grind)
  ·have hneg:f<0:=by
    have:¬ 0≤f:=of_decide_eq_false h
    omega
   rw[hr0 hneg]at hsucc
   refine oO ?_
   refine Ad (Ac Γ.toTy 110 E E E E E (.row E) (.lit (e:=Aa) (l:=[(0:Int)]) E E) qz (by simp;omega) (by simp;omega)) E E ?_
   refine oO ?_
   refine iW ?_
   exact An [(1000,110)] hlt ⟨⟨E,E,E,E,E,E,E,E,Y⟩,⟨.inl (congrArg (Ob.row 1 Aa) hsucc),E,Y⟩,E,E⟩
 have hjj:i=n.ports.length:=by
  have:¬ i<n.ports.length:=by simpa using h
  omega
 subst hjj
 rw[List.take_of_length_le qn]
 refine oO ?_
 refine Ao 1000 E ?_
 exact dN
theorem Sx (n:Net) (up:List Bool) (hn:n.Fin) (h:okB n up=false):Sy.Spec Tryz.prog 123 [Aj n,.sl 1 Ab up] [] (.tup [.sl 1 Ab [],Aa 2]) []:=cT F123 Tryz.ntmps123 fun F hF=>by
 conv=>whnf
 refine c0 (Aga n up hn h) F183 ?_
 refine oT ?_
 refine Am 4 1 Ab E ?_
 exact dN
theorem Atf (roles:List Int) (l:Link):Wr roles l=((nth roles l.a == 1 && nth roles l.b == 2) || (nth roles l.a == 2 && nth roles l.b == 1)):=by
 simp only[Wr,inB,List.any_cons,List.any_nil,Bool.or_false]
 rw[Bool.eq_iff_iff]
 simp only[Bool.and_eq_true,Bool.or_eq_true,beq_iff_eq]
 omega
theorem Uq (n:Net) (up:List Bool) (hn:n.Fin) (h:okB n up=true):Sy.Spec Tryz.prog 123 [Aj n,.sl 1 Ab up] [] (.tup [.sl 1 Ab (Are n up),Aa 0]) []:=cT F123 Tryz.ntmps123 fun F hF=>by
 obtain ⟨hu,hr,hcost⟩:=ok_iff.1 h
 have hf:=C1 hr
 have hro:=Aip n up hn h
 have hrl:=Lu n up
 rw[Are]
 generalize J0 n up=roles at *
 conv=>whnf
 refine c0 hro F183 ?_
 refine oF ?_
 refine A3 2 8 (Aj n) E E E ?_
 refine Bm 8 1000 1 Ab E E ?_
 refine At n.links.length (fun j=>[(2,.ref 8 (Aj n) 0),(6,.sl 1 Aa roles),(8,.osl 1000),(9,Aa j)]) (fun j=>[(1000,.row 1 Ab ((n.links.take j).map (Wr roles)))]) []
  ⟨⟨rfl,rfl,rfl,rfl,rfl,rfl,rfl,rfl,trivial⟩,⟨.inl (by simp only[List.take_zero,List.map_nil];rfl),rfl,trivial⟩,rfl,rfl⟩ ?_
 intro j hj
 refine oO ?_
 refine⟨fun h=>?_,fun h=>?_⟩
 ·have hlt:j<n.links.length:=by simpa using h
  have he:=I5 hr hlt
  have e1:n.links[(j:Int).toNat]'qn=n.links[j]:=rfl
  have hsucc:(n.links.take (j+1)).map (Wr roles)=(n.links.take j).map (Wr roles)++[Wr roles n.links[j]]:=by
   rw[List.take_succ_eq_append_getElem hlt,List.map_append];rfl
  have hln:((n.links.take j).map (Wr roles)).length≤20:=by simp;omega
  obtain ⟨o,ho'⟩:∃ o,(n.links.take j).map (Wr roles)=o:=⟨_,rfl⟩
  rw[ho']at hsucc hln ⊢
  obtain ⟨l,hl⟩:∃ l,n.links[j]=l:=⟨_,rfl⟩
  rw[hl]at e1 hsucc he
  have hA:0≤l.a∧l.a<roles.length:=by omega
  have hB:0≤l.b∧l.b<roles.length:=by omega
  rw[Atf,Ak (l:=roles) (i:=l.a) qn,Ak (l:=roles) (i:=l.b) qn]at hsucc
  obtain ⟨x,hx⟩:∃ x,roles[l.a.toNat]'qn=x:=⟨_,rfl⟩
  obtain ⟨y,hy⟩:∃ y,roles[l.b.toNat]'qn=y:=⟨_,rfl⟩
  rw[hx,hy]at hsucc
  refine oO ?_
  refine⟨E,by omega,by omega,?_⟩
  rw[e1]
  conv=>whnf
  refine⟨E,by omega,by omega,?_⟩
  rw[hx]
  conv=>whnf
  refine⟨E,by omega,by omega,?_⟩
  rw[e1]
  conv=>whnf
  refine⟨E,by omega,by omega,?_⟩
  rw[hy]
  conv=>whnf
  refine kW ?_
  (repeat' (first | (refine⟨fun h=>?_,fun h=>?_⟩<;>(repeat (first | simp only[beq_iff_eq]at h | simp only[beq_eq_false_iff_ne]at h))<;>((refine oO ?_);repeat((refine aF ?_);(refine oO ?_)))) | (refine⟨by (unfold I64;omega),?_⟩;((conv=>whnf))) | (refine Ad (Ac Γ.toTy 62 rfl rfl rfl rfl rfl (.row rfl) (.lit (e:=Ab) (l:=[true]) rfl rfl) qz (by simp;omega) (by simp;omega)) rfl rfl ?_;((refine oO ?_))) | (refine Ad (Ac Γ.toTy 62 rfl rfl rfl rfl rfl (.row rfl) (.lit (e:=Ab) (l:=[false]) rfl rfl) qz (by simp;omega) (by simp;omega)) rfl rfl ?_;((refine oO ?_))) | (refine Ad (Ac Γ.toTy 62 rfl rfl rfl rfl rfl (.row rfl) (.lit (e:=Ab) (l:=[y == 1]) rfl rfl) qz (by simp;omega) (by simp;omega)) rfl rfl ?_;((refine oO ?_))) | refine An [(1000,62)] hlt ⟨⟨rfl,rfl,rfl,rfl,rfl,rfl,rfl,rfl,trivial⟩,⟨.inl (congrArg (Ob.row 1 Ab) ?_),rfl,trivial⟩,rfl,rfl⟩))
  all_goals (rw[hsucc];clear hF hro;refine congrArg (fun z=>o++[z]) ?_;clear hsucc;simp_all)
 have hjj:j=n.links.length:=by
  have:¬ j<n.links.length:=by simpa using h
  omega
 subst hjj
 rw[List.take_length]
 refine oO ?_
 refine Ao 1000 E ?_
 exact dN
def Arn (n:Net) (m:MacM) (q:QueuedM) (l:List SeenM):Obs:=[(0,.box (Jb n m.up m.now m.injected m.drops)),(902,.row 1 D4 m.tables),(903,.row 1 Lh m.queues),(5,.box (queL q)),(1000,.row 3 Bk l)]
theorem Arm (n:Net) (hn:n.Fin) (hm1:n.Num) (m:MacM) (J D:Int) (hm0:MacOK n m J D) (hD0:0≤D) (hD:D≤900000000000) (x:StepM) :
  Sy.Spec Tryz.prog 128 [.ptr 0 0,Bo x] (E6 n m) (.sl 3 Bk (pickT n m x.domain x.at_).2) (E6 n (pickT n m x.domain x.at_).1):=cT F128 Tryz.ntmps128 fun F hF=>by
 have hres:=pickT.eq_1 n m x.domain x.at_
 generalize pickT n m x.domain x.at_=res at *
 have q1:=Ahw n m x (C9 hm0 x.domain)
 have hok:=Uh hm0 x.domain x.at_
 have hpl:(takeM m x.domain x.at_).2.2=true→0≤x.domain∧x.domain.toNat<m.queues.length:=fun h=>by
  unfold takeM at h
  split at h
  ·cases h
  ·rename_i h2
   exact placeB_iff.1 (by cases hx:Ai x.domain m.queues.length;exact absurd hx h2;rfl)
 have htl:(takeM m x.domain x.at_).1.tables=m.tables:=by unfold takeM;split<;>rfl
 generalize takeM m x.domain x.at_=r at *
 obtain ⟨m1,q,ok⟩:=r
 have htq:m.queues.length=m.tables.length:=by rw[hm0.ques,hm0.tabs]
 conv=>whnf
 refine Ad (Af [] E F129 q1 E ⟨E,E,E,Y⟩ E ⟨.inl E,.inl E,.inl E,Y⟩) E E ?_
 refine oO ?_
 cases ok
 ·rw[if_pos rfl]at hres
  subst hres
  (refine⟨fun _=>?_,fun h=>False.elim (by simp at h)⟩;refine rg ?_;conv=>whnf)
  refine Am 4 3 Bk E ?_
  exact done E (.cons .tmp .nil) [] (E6 n m1) (fun _ h=>h) E E ⟨Y,⟨.inl E,E,.inl E,E,.inl E,E,Y⟩,E,E⟩
 rw[if_neg qz]at hres
 have hd:=hpl rfl
 have hd2:0≤x.domain∧x.domain.toNat<m1.tables.length:=by rw[htl,← htq];exact hd
 dsimp only at hres hok
 have hf:∃ e,Sy.Spec Tryz.prog 123 [Aj n,.sl 1 Ab m1.up] [] (.tup [.sl 1 Ab (Im n m1.up),Aa e]) []:=by
  unfold Im
  split
  ·rename_i h;exact⟨0,Uq n m1.up hn h⟩
  ·rename_i h;exact⟨2,Sx n m1.up hn (by simpa using h)⟩
 obtain ⟨ef,hf⟩:=hf
 have q3:=Aix n hn hm1 (Im n m1.up) (tableL m1 x.domain) x.domain q m1.now (L5 hok.1 x.domain) hok.2
 have hb1:=Qw (n:=n) (fw:=Im n m1.up) (dom:=x.domain) (now:=m1.now) (L5 hok.1 x.domain) hok.2
 have hb2:=Qx (fw:=Im n m1.up) (t:=tableL m1 x.domain) (dom:=x.domain) (now:=m1.now) hn hm1 hok.2
 have hb3:=Lr hn (Im n m1.up) (tableL m1 x.domain) x.domain q m1.now
 have hb4:=Xt n (Im n m1.up) (tableL m1 x.domain) x.domain q m1.now
 rw[Qa]at hres
 have hz:=Zv hok.1 hD0 x.domain hb1
 have hdr0:∀ i,0≤m1.drops i∧m1.drops i≤1000000000000:=fun i=>⟨(hok.1.drp i).1,by have:=(hok.1.drp i).2;omega⟩
 generalize bridgeT n (Im n m1.up) (tableL m1 x.domain) x.domain q m1.now=b at *
 generalize Im n m1.up=fw at *
 obtain ⟨t,out,e⟩:=b
 have hb2:∀ o∈out,OutOK n o:=hb2
 have hb3:out.length<4294967296:=hb3
 have hb4:B1 e:=hb4
 have ht0:=tableL.eq_1 m1 x.domain
 rw[Oc hd2.2]at ht0
 generalize tableL m1 x.domain=t0 at *
 subst ht0
 (refine⟨fun h=>False.elim (by simp at h),fun _=>?_⟩;refine rg ?_;conv=>whnf)
 refine cD hf F123 ?_
 refine oD ?_
 refine kW ?_
 refine⟨hd2.1,hd2.2,?_⟩
 conv=>whnf
 refine⟨E,hd2.2,?_⟩
 conv=>whnf
 refine cD q3 F189 ?_
 refine oD ?_
 refine kW ?_
 refine⟨fun h=>?_,fun h=>?_⟩
 ·have h2:¬ e=2:=by simpa using h
  clear h
  refine oO ?_
  refine⟨hd2.1,hd2.2,?_⟩
  conv=>whnf
  refine⟨E,hd2.2,t,E,E,?_⟩
  conv=>whnf
  refine kW ?_
  refine⟨fun h=>?_,fun h=>?_⟩
  ·have h3:¬ e=0:=by simpa using h
   clear h
   have hpd:Is m1 x.domain (t,out,e)=Bg (Bz m1 x.domain t) e:=by
    unfold Is
    rw[if_neg h2,if_pos h3]
   rw[hpd]at hres hz
   subst hres
   have hbe:=hdr0 e.toNat
   have hg:H8 ⟨.int .i64,1,[.int .i64 0]⟩ (Jb n (Bz m1 x.domain t).up (Bz m1 x.domain t).now (Bz m1 x.domain t).injected (Bz m1 x.domain t).drops) (0+13+e.toNat * 1)=_:=Jx n (Bz m1 x.domain t).up (Bz m1 x.domain t).now (Bz m1 x.domain t).injected (Bz m1 x.domain t).drops e.toNat (by have:=hb4.2;omega)
   have hgl:=Ln (Jx n (Bz m1 x.domain t).up (Bz m1 x.domain t).now (Bz m1 x.domain t).injected (Bz m1 x.domain t).drops e.toNat (by have:=hb4.2;omega))
   have hst2:setAt (Jb n (Bz m1 x.domain t).up (Bz m1 x.domain t).now (Bz m1 x.domain t).injected (Bz m1 x.domain t).drops) (0+13+e.toNat * 1) [.val (.int .i64 ((Bz m1 x.domain t).drops e.toNat+1))]=Jb n (Bz m1 x.domain t).up (Bz m1 x.domain t).now (Bz m1 x.domain t).injected (Bg (Bz m1 x.domain t) e).drops:=by rw[Mk n (Bz m1 x.domain t) e,L7]
   have hble:Nat.ble (0+13+e.toNat * 1+1) (Jb n (Bz m1 x.domain t).up (Bz m1 x.domain t).now (Bz m1 x.domain t).injected (Bz m1 x.domain t).drops).length=true:=Nat.ble_eq_true_of_le hgl
   refine oO ?_
   refine⟨hb4.1,by have:=hb4.2;show e.toNat<64;omega,?_⟩
   conv=>whnf
   refine Als ?_ hg
   conv=>whnf
   refine⟨(show I64 (m1.drops e.toNat+1) by unfold I64;omega),?_⟩
   conv=>whnf
   refine⟨hb4.1,by have:=hb4.2;show e.toNat<64;omega,?_⟩
   conv=>whnf
   refine Yi (Al6 hst2 ?_) hble
   conv=>whnf
   refine kW ?_
   have hdr:H2 (Bg (Bz m1 x.domain t) e):=fun i=>⟨(hz.drp i).1,by have:=(hz.drp i).2;omega⟩
   refine Bm 12 1000 3 Bk E E ?_
   refine At out.length (fun j=>[(0,.ptr 0 0),(5,.ptr 5 0),(10,.sl 9 Bl out),(12,.osl 1000),(13,Aa j)]) (fun j=>Arn n (A7 n (Bg (Bz m1 x.domain t) e) q.origin (out.take j)).1 q (A7 n (Bg (Bz m1 x.domain t) e) q.origin (out.take j)).2) [] ⟨⟨E,E,E,E,E,E,E,E,E,E,Y⟩,⟨.inl E,E,.inl E,E,.inl E,E,.inl E,E,.inl E,E,Y⟩,E,E⟩ ?_
   intro j hj
   refine oO ?_
   refine⟨fun h=>?_,fun h=>?_⟩
   ·have hlt:j<out.length:=qA h
    have hj0:((j:Nat):Int).toNat<out.length:=by simpa using hlt
    obtain ⟨o,hoo⟩:∃ o,out[j]=o:=⟨_,rfl⟩
    have e1:out[((j:Nat):Int).toNat]'hj0=o:=hoo
    have hs:=I8 n (Bg (Bz m1 x.domain t) e) q.origin out j hlt
    rw[hoo]at hs
    have hjo:=Jv hn q.origin (out.take j) hz qn (fun x hx=>hb2 x (List.mem_of_mem_take hx))
    have hlen:(out.take j).length=j:=by rw[List.length_take];omega
    rw[hlen]at hjo
    have hsl:=Ih n q.origin (out.take j) (Bg (Bz m1 x.domain t) e)
    rw[hlen]at hsl
    have q5:=Aez n hn hm1 (A7 n (Bg (Bz m1 x.domain t) e) q.origin (out.take j)).1 J _ hjo qn o (hb2 o (by rw[← hoo];exact List.getElem_mem hlt)) q.origin
    have hfw:=I7 n (A7 n (Bg (Bz m1 x.domain t) e) q.origin (out.take j)).1 o q.origin
    clear h
    refine oO ?_
    refine⟨E,by omega,hj0,?_⟩
    rw[e1]
    conv=>whnf
    refine Bd (Af [] E F190 q5 E ⟨E,E,E,Y⟩ E ⟨.inl E,.inl E,.inl E,Y⟩) qq E ?_
    refine oD ?_
    refine Bd (Ac Γ.toTy 96 E E E E E (.row E) .sl qz qn qn) qq E ?_
    refine oD ?_
    refine kW ?_
    refine iW ?_
    have g1:(A7 n (Bg (Bz m1 x.domain t) e) q.origin (out.take (j+1))).1=(goesM n (A7 n (Bg (Bz m1 x.domain t) e) q.origin (out.take j)).1 o q.origin).1:=by rw[hs]
    have g2:(A7 n (Bg (Bz m1 x.domain t) e) q.origin (out.take (j+1))).2=(A7 n (Bg (Bz m1 x.domain t) e) q.origin (out.take j)).2++(goesM n (A7 n (Bg (Bz m1 x.domain t) e) q.origin (out.take j)).1 o q.origin).2:=by rw[hs]
    refine An [(1000,96)] hlt ⟨⟨E,E,E,E,E,E,E,E,E,E,Y⟩,?_,E,E⟩
    dsimp only
    rw[g1,g2]
    exact⟨.inl E,E,.inl E,E,.inl E,E,.inl E,E,.inl E,E,Y⟩
   ·have hjj:j=out.length:=qB h
    subst hjj
    rw[List.take_length]
    clear h
    refine oO ?_
    refine Ao 1000 E ?_
    exact done E (.cons .tmp .nil) [] (E6 n (A7 n (Bg (Bz m1 x.domain t) e) q.origin out).1) (fun _ h=>h) E E ⟨Y,⟨.inl E,E,.inl E,E,.inl E,E,Y⟩,E,E⟩
  ·have h3:e=0:=by simpa using h
   clear h
   have hpd:Is m1 x.domain (t,out,e)=Bz m1 x.domain t:=by
    unfold Is
    rw[if_neg h2,if_neg (fun h=>h h3)]
   rw[hpd]at hres hz
   subst hres
   refine oO ?_
   have hdr:H2 (Bz m1 x.domain t):=fun i=>⟨(hz.drp i).1,by have:=(hz.drp i).2;omega⟩
   refine Bm 12 1000 3 Bk E E ?_
   refine At out.length (fun j=>[(0,.ptr 0 0),(5,.ptr 5 0),(10,.sl 9 Bl out),(12,.osl 1000),(13,Aa j)]) (fun j=>Arn n (A7 n (Bz m1 x.domain t) q.origin (out.take j)).1 q (A7 n (Bz m1 x.domain t) q.origin (out.take j)).2) [] ⟨⟨E,E,E,E,E,E,E,E,E,E,Y⟩,⟨.inl E,E,.inl E,E,.inl E,E,.inl E,E,.inl E,E,Y⟩,E,E⟩ ?_
   intro j hj
   refine oO ?_
   refine⟨fun h=>?_,fun h=>?_⟩
   ·have hlt:j<out.length:=qA h
    have hj0:((j:Nat):Int).toNat<out.length:=by simpa using hlt
    obtain ⟨o,hoo⟩:∃ o,out[j]=o:=⟨_,rfl⟩
    have e1:out[((j:Nat):Int).toNat]'hj0=o:=hoo
    have hs:=I8 n (Bz m1 x.domain t) q.origin out j hlt
    rw[hoo]at hs
    have hjo:=Jv hn q.origin (out.take j) hz qn (fun x hx=>hb2 x (List.mem_of_mem_take hx))
    have hlen:(out.take j).length=j:=by rw[List.length_take];omega
    rw[hlen]at hjo
    have hsl:=Ih n q.origin (out.take j) (Bz m1 x.domain t)
    rw[hlen]at hsl
    have q5:=Aez n hn hm1 (A7 n (Bz m1 x.domain t) q.origin (out.take j)).1 J _ hjo qn o (hb2 o (by rw[← hoo];exact List.getElem_mem hlt)) q.origin
    have hfw:=I7 n (A7 n (Bz m1 x.domain t) q.origin (out.take j)).1 o q.origin
    clear h
    refine oO ?_
    refine⟨E,by omega,hj0,?_⟩
    rw[e1]
    conv=>whnf
    refine Bd (Af [] E F190 q5 E ⟨E,E,E,Y⟩ E ⟨.inl E,.inl E,.inl E,Y⟩) qq E ?_
    refine oD ?_
    refine Bd (Ac Γ.toTy 96 E E E E E (.row E) .sl qz qn qn) qq E ?_
    refine oD ?_
    refine kW ?_
    refine iW ?_
    have g1:(A7 n (Bz m1 x.domain t) q.origin (out.take (j+1))).1=(goesM n (A7 n (Bz m1 x.domain t) q.origin (out.take j)).1 o q.origin).1:=by rw[hs]
    have g2:(A7 n (Bz m1 x.domain t) q.origin (out.take (j+1))).2=(A7 n (Bz m1 x.domain t) q.origin (out.take j)).2++(goesM n (A7 n (Bz m1 x.domain t) q.origin (out.take j)).1 o q.origin).2:=by rw[hs]
    refine An [(1000,96)] hlt ⟨⟨E,E,E,E,E,E,E,E,E,E,Y⟩,?_,E,E⟩
    dsimp only
    rw[g1,g2]
    exact⟨.inl E,E,.inl E,E,.inl E,E,.inl E,E,.inl E,E,Y⟩
   ·have hjj:j=out.length:=qB h
    subst hjj
    rw[List.take_length]
    clear h
    refine oO ?_
    refine Ao 1000 E ?_
    exact done E (.cons .tmp .nil) [] (E6 n (A7 n (Bz m1 x.domain t) q.origin out).1) (fun _ h=>h) E E ⟨Y,⟨.inl E,E,.inl E,E,.inl E,E,Y⟩,E,E⟩
 ·have h2:e=2:=by simpa using h
  clear h
  have hpd:Is m1 x.domain (t,out,e)=Bg m1 e:=by
   unfold Is
   rw[if_pos h2,h2]
  rw[hpd]at hres hz
  subst hres
  refine oO ?_
  refine⟨fun _=>?_,fun h=>False.elim (by rw[h2]at h;simp at h)⟩
  have hbe:=hdr0 e.toNat
  have hg:H8 ⟨.int .i64,1,[.int .i64 0]⟩ (Jb n (m1).up (m1).now (m1).injected (m1).drops) (0+13+e.toNat * 1)=_:=Jx n (m1).up (m1).now (m1).injected (m1).drops e.toNat (by have:=hb4.2;omega)
  have hgl:=Ln (Jx n (m1).up (m1).now (m1).injected (m1).drops e.toNat (by have:=hb4.2;omega))
  have hst2:setAt (Jb n (m1).up (m1).now (m1).injected (m1).drops) (0+13+e.toNat * 1) [.val (.int .i64 ((m1).drops e.toNat+1))]=Jb n (m1).up (m1).now (m1).injected (Bg (m1) e).drops:=by rw[Mk n (m1) e,L7]
  have hble:Nat.ble (0+13+e.toNat * 1+1) (Jb n (m1).up (m1).now (m1).injected (m1).drops).length=true:=Nat.ble_eq_true_of_le hgl
  refine oO ?_
  refine⟨hb4.1,by have:=hb4.2;show e.toNat<64;omega,?_⟩
  conv=>whnf
  refine Als ?_ hg
  conv=>whnf
  refine⟨(show I64 (m1.drops e.toNat+1) by unfold I64;omega),?_⟩
  conv=>whnf
  refine⟨hb4.1,by have:=hb4.2;show e.toNat<64;omega,?_⟩
  conv=>whnf
  refine Yi (Al6 hst2 ?_) hble
  conv=>whnf
  refine kW ?_
  have hdr:H2 (Bg m1 e):=fun i=>⟨(hz.drp i).1,by have:=(hz.drp i).2;omega⟩
  refine Bm 12 1000 3 Bk E E ?_
  refine At out.length (fun j=>[(0,.ptr 0 0),(5,.ptr 5 0),(10,.sl 9 Bl out),(12,.osl 1000),(13,Aa j)]) (fun j=>Arn n (A7 n (Bg m1 e) q.origin (out.take j)).1 q (A7 n (Bg m1 e) q.origin (out.take j)).2) [] ⟨⟨E,E,E,E,E,E,E,E,E,E,Y⟩,⟨.inl E,E,.inl E,E,.inl E,E,.inl E,E,.inl E,E,Y⟩,E,E⟩ ?_
  intro j hj
  refine oO ?_
  refine⟨fun h=>?_,fun h=>?_⟩
  ·have hlt:j<out.length:=qA h
   have hj0:((j:Nat):Int).toNat<out.length:=by simpa using hlt
   obtain ⟨o,hoo⟩:∃ o,out[j]=o:=⟨_,rfl⟩
   have e1:out[((j:Nat):Int).toNat]'hj0=o:=hoo
   have hs:=I8 n (Bg m1 e) q.origin out j hlt
   rw[hoo]at hs
   have hjo:=Jv hn q.origin (out.take j) hz qn (fun x hx=>hb2 x (List.mem_of_mem_take hx))
   have hlen:(out.take j).length=j:=by rw[List.length_take];omega
   rw[hlen]at hjo
   have hsl:=Ih n q.origin (out.take j) (Bg m1 e)
   rw[hlen]at hsl
   have q5:=Aez n hn hm1 (A7 n (Bg m1 e) q.origin (out.take j)).1 J _ hjo qn o (hb2 o (by rw[← hoo];exact List.getElem_mem hlt)) q.origin
   have hfw:=I7 n (A7 n (Bg m1 e) q.origin (out.take j)).1 o q.origin
   clear h
   refine oO ?_
   refine⟨E,by omega,hj0,?_⟩
   rw[e1]
   conv=>whnf
   refine Bd (Af [] E F190 q5 E ⟨E,E,E,Y⟩ E ⟨.inl E,.inl E,.inl E,Y⟩) qq E ?_
   refine oD ?_
   refine Bd (Ac Γ.toTy 96 E E E E E (.row E) .sl qz qn qn) qq E ?_
   refine oD ?_
   refine kW ?_
   refine iW ?_
   have g1:(A7 n (Bg m1 e) q.origin (out.take (j+1))).1=(goesM n (A7 n (Bg m1 e) q.origin (out.take j)).1 o q.origin).1:=by rw[hs]
   have g2:(A7 n (Bg m1 e) q.origin (out.take (j+1))).2=(A7 n (Bg m1 e) q.origin (out.take j)).2++(goesM n (A7 n (Bg m1 e) q.origin (out.take j)).1 o q.origin).2:=by rw[hs]
   refine An [(1000,96)] hlt ⟨⟨E,E,E,E,E,E,E,E,E,E,Y⟩,?_,E,E⟩
   dsimp only
   rw[g1,g2]
   exact⟨.inl E,E,.inl E,E,.inl E,E,.inl E,E,.inl E,E,Y⟩
  ·have hjj:j=out.length:=qB h
   subst hjj
   rw[List.take_length]
   clear h
   refine oO ?_
   refine Ao 1000 E ?_
   exact done E (.cons .tmp .nil) [] (E6 n (A7 n (Bg m1 e) q.origin out).1) (fun _ h=>h) E E ⟨Y,⟨.inl E,E,.inl E,E,.inl E,E,Y⟩,E,E⟩
end Go.Sy.YteinjapglfkamaaGreat
