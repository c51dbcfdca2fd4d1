/-
  NB17 NB18 NB19 I50 NB20 NB21 WS11: parts of a proof, joined by program.
-/
import Derived.Test.YtljngfegfclkpaaGreatYA18
import Derived.Test.YtljngfegfclkpaaGreatYA11
import Derived.Test.YtljngfegfclkpaaGreatYA8
import Derived.Tactics
import Derived.Tactics2
import Derived.Defers
import Derived.Laws.Pointers
import Derived.Laws.LoneSync
import Derived.RegionTactic
import Derived.RegionCalls
import Derived.ChangeAlike
import Derived.Laws.NewBlocks
import Derived.Test.YtljngfegfclkpaaGreatYA7
import Derived.Test.YtljngfegfclkpaaGreatYA10
import Derived.Test.YtljngfegfclkpaaGreatYA19
set_option linter.all false
set_option linter.unusedVariables false
set_option linter.unusedSimpArgs false
set_option linter.deprecated false
namespace Go.Sy.YtljngfegfclkpaaGreat
open Go.Proofs
attribute [local irreducible] Go.Sy.G Go.Sy.DR
set_option maxRecDepth 100000
set_option maxHeartbeats 4000000
def V7 (dn lk:Int) (M:List LineM) (n:Net) (row e:Int):List SV:=[.val (.int .u32 dn),.val (.int .i32 lk),.val (.int .u32 0),.sl 17 A6 M]++C7 n++[Aa row,Aa e]
def Hi (dn lk:Int) (M:List LineM) (x:Net × Int × Int):Obs:=[(0,.box (V7 dn lk M x.1 x.2.1 x.2.2))]
theorem Axd {n:Net} (h:(meshNT n).2.2=0):(meshNT n).2.1=0:=by
 unfold meshNT at h ⊢
 split
 ·rfl
 rename_i h1
 rw[zA h1]at h
 split at h
 ·cases h
 ·rename_i h2
  split at h
  ·cases h
  ·rename_i h3
   rw[zA h3]
theorem Ano (M:List LineM) (hM:∀ l∈M,LineW l) (hl:M.length<2147483648) (dn lk:Int):Sq 31 [.ptr 0 0] (Hi dn lk M (emptyN,0,0)) (.tup []) (Hi dn lk M (C3 M)):=cT F31 Tryz.ntmps31 λ F hF=>by
 refine T ?_
 refine Db (λ x:Nat × Net=>x.1≤M.length∧x.2.Fin∧Dd x.2∧C3 M=B3 x.2 (M.drop x.1)) (λ x=>[(0,.ptr 0 0),(9,.sl 17 A6 M),(10,Aa M.length),(11,Aa x.1)]) (λ x=>Hi dn lk M (x.2,0,0)) (λ x=>M.length-x.1) (0,emptyN) [] ⟨by omega,Le,(λ x hx=>by cases hx),rfl⟩ U ?_
 rintro ⟨j,n⟩ ⟨hj,hn,ha,hI⟩
 dsimp only at hj hn ha hI ⊢
 refine T ?_
 constructor<;>intro h
 ·have hlt:j<M.length:=qA h
  have hj0:((j:Nat):Int).toNat<M.length:=hlt
  clear h
  have hw:=hM _ (zE hj0)
  have q:=A0f n hn ha _ hw
  have hp:=Aqy hn ha hw
  rw[yI hlt,B3]at hI
  refine T ?_
  refine cD q F76 ?_
  refine T ?_
  constructor<;>intro h
  ·have hne:(putT n (M[((j:Nat):Int).toNat]'hj0)).2≠0:=by intro e;rw[e]at h;cases h
   have he:=hp.none hne
   have hI2:C3 M=(emptyN,(M[((j:Nat):Int).toNat]'hj0).row,(putT n (M[((j:Nat):Int).toNat]'hj0)).2):=hI.trans (zC hne)
   rw[hI2,← he]
   clear h
   refine T ?_
   exact done E .nil [] (Hi dn lk M ((putT n (M[((j:Nat):Int).toNat]'hj0)).1,(M[((j:Nat):Int).toNat]'hj0).row,(putT n (M[((j:Nat):Int).toNat]'hj0)).2)) (λ _ h=>h) E E U
  ·have he:(putT n (M[((j:Nat):Int).toNat]'hj0)).2=0:=by simpa using h
   have hI2:C3 M=B3 (putT n (M[((j:Nat):Int).toNat]'hj0)).1 (M.drop (j+1)):=hI.trans (zA (λ hh=>hh he))
   clear h
   refine T ?_
   exact Bd (j+1,(putT n (M[((j:Nat):Int).toNat]'hj0)).1) [] ⟨hlt,hp.fin,hp.addrs,hI2⟩ (by dsimp only;omega) ⟨⟨E,E,E,E,E,E,E,E,Y⟩,⟨.inl (zD (λ e:Int=>Ob.box (V7 dn lk M (putT n (M[((j:Nat):Int).toNat]'hj0)).1 0 e)) he.symm),E,Y⟩,E,E⟩
 ·have hje:j=M.length:=qB h
  clear h
  rw[hje,tC,B3]at hI
  rw[hI]
  have qm:=meshS n hn
  have hf:=finishT.eq_1 n
  refine T ?_
  refine C qm F77 ?_
  refine T ?_
  constructor<;>intro h
  ·have hne:(meshNT n).2.2≠0:=by intro e;rw[e]at h;cases h
   rw[zC hne]at hf
   rw[hf]
   clear h
   refine T ?_
   exact done E .nil [] (Hi dn lk M (meshNT n)) (λ _ h=>h) E E U
  have he:(meshNT n).2.2=0:=by simpa using h
  clear h
  have hrow:(meshNT n).2.1=0:=Axd he
  rw[zA (by rw[he];decide)]at hf
  have ql:=loopS (meshNT n).1 (Afo hn)
  refine T ?_
  refine C ql F78 ?_
  refine T ?_
  constructor<;>intro h
  ·rw[zC h]at hf
   rw[hf]
   clear h
   refine T ?_
   refine Am 0 (V7 dn lk M emptyN (loopT (meshNT n).1).1 38) E vL ?_
   exact A4 E .nil [] (Hi dn lk M (emptyN,(loopT (meshNT n).1).1,38)) (λ _ h=>h) E E U
  ·rw[zA (by rw[h];decide)]at hf
   rw[hf]
   clear h
   refine T ?_
   exact A4 E .nil [] (Hi dn lk M ((meshNT n).1,0,0)) (λ _ h=>h) E E ⟨Y,⟨.inl (zD (λ a:Int × Int=>Ob.box (V7 dn lk M (meshNT n).1 a.1 a.2)) (Prod.ext hrow.symm he.symm:((0:Int),(0:Int))=(meshNT n).2)),E,Y⟩,E,E⟩
theorem Ara (a:Addr) (x:Int) (w:World) (hc:w.cell? a=some (.int .u32 x)):(callFunc 119 #[.pointer (some a)]).run Tryz.prog w=.ok (.value (.int .u32 x)) w :=
 run_call_load Tryz.func119 z_ z_ z_ .u32 z_ hc
theorem Uj (w:World):(callFunc 243 #[]).run Tryz.prog w=.ok (.value (.tuple #[])) w:=run_call_mark0 Tryz.func243 z_ z_ z_ .disable z_ w
theorem Wh (w:World):(callFunc 245 #[]).run Tryz.prog w=.ok (.value (.tuple #[])) w:=run_call_mark0 Tryz.func245 z_ z_ z_ .enable z_ w
theorem Aec (a:Addr) (w:World):(callFunc 246 #[.pointer (some a)]).run Tryz.prog w=.ok (.value (.tuple #[])) w:=run_call_marked Tryz.func246 z_ z_ z_ .acquire z_ a w
theorem Aeb (a:Addr) (w:World):(callFunc 248 #[.pointer (some a)]).run Tryz.prog w=.ok (.value (.tuple #[])) w:=run_call_marked Tryz.func248 z_ z_ z_ .releaseMerge z_ a w
theorem Aao (a:Addr) (x:Value) (u:FrameMode) (w:World) (hc:w.cell? a=some x) (hz:w.frozen? a=false) :
  CallsD Tryz.prog 122 #[.pointer (some a),.bool true] u w λ e u' w'=>u'=u∧(e=.returned (.tuple #[])∧w'=w.drew.setCell a (.int .u32 1)):=by
 have hc':w.drew.cell? a=some x:=by go_simp
 have hz':w.drew.frozen? a=false:=by go_simp
 have hst:=run_call_store (P:=Tryz.prog) Tryz.func183 z_ z_ z_ z_ (k:=.u32) (y:=1) hc' hz'
 go_enter_d Tryz.func122,Tryz.ntmps122
 go_wp2
 go_region_calls
 all_goals (go_end0;exact⟨rfl,rfl⟩)
theorem Yc (a:Addr) (u:FrameMode) (w:World) (hc:w.cell? a=some (.int .i32 1)) (hz:w.frozen? a=false) :
  CallsD Tryz.prog 121 #[.pointer (some a)] u w λ e u' w'=>u'=u∧(e=.returned (.tuple #[])∧w'=w.setCell a (.int .i32 0)):=by
 have hd:=Uj
 have he:=Wh
 have hr:=Aeb
 have hadd:=run_call_add (P:=Tryz.prog) Tryz.func249 z_ z_ z_ .i32 z_ (y:=-1) (s:=0) hc hz (by simp[go_sem];rfl)
 have hcv:=run_convert_to_unsafe (P:=Tryz.prog) (src:=370) (dst:=374) Tryz.underlying370 Tryz.underlying374 z_ hc
 go_enter_d Tryz.func121,Tryz.ntmps121
 go_wp2
 go_end0
 go_wp2
 go_end0
 exact⟨E,E⟩
theorem Aoq (a:Addr) (w:World) (hc:w.cell? a=some (.int .i32 0)) (hz:w.frozen? a=false) :
  Calls Tryz.prog 120 #[.pointer (some a)] w λ e w'=>e=.returned (.tuple #[])∧w'=w.setCell a (.int .i32 1):=by
 have hd:=Uj
 have he:=Wh
 have ha:=Aec
 have hcas:=run_call_cas_hit (P:=Tryz.prog) Tryz.func244 z_ z_ z_ .i32 z_ (y:=1) hc hz
 have hc':(w.setCell a (.int .i32 1)).cell? a=some (.int .i32 1):=World.cell?_setCell_same w a _ hc
 have hcv:=run_convert_to_unsafe (P:=Tryz.prog) (src:=370) (dst:=374) Tryz.underlying370 Tryz.underlying374 z_ hc'
 go_enter Tryz.func120,Tryz.ntmps120
 go_wp2
 first | go_end0 | (simp only[Exit.inBlock,Exit.then];refine bodyPost_ret (results_none rfl _ _ _) rfl ?_) | refine bodyPost_ret (results_none rfl _ _ _) rfl ?_
 go_wp2
 go_end0
 exact⟨E,E⟩
theorem Ctx.behindN {K:Nat→Prop} {κ κ2:Ka} {w w1 w2:World} (s:Step K κ w κ w1) (c:Ctx ⟨w1,κ,[]⟩ κ2 w2):Ctx ⟨w,κ,[]⟩ κ2 w2 where
 size:=wH s.size c.size
 os:=c.os.trans s.os
 tape:=c.tape.trans s.tape
 output:=c.output.trans s.output
 M:=c.M
 old:=λ b hb h=>by
  refine(c.old b (yO hb s.size) h).trans ?_
  by_cases hm:κ.M b
  ·exact s.mkeep b hm
  ·exact s.blk b hb (λ ho=>by
    rcases ho with ⟨k,hk⟩ | ho
    ·exact h k hk
    ·exact hm ho)
 own:=λ k b hk=>by
  rcases c.own k b hk with h | h
  ·exact .inl (wH s.size h)
  ·exact .inr h
 nam:=c.nam
theorem Apr {κ:Ka} {w:World} (hi:Inv κ w):Step (λ _=>False) κ w κ w.drew∧Inv κ w.drew:=by
 have g:=Grew.drew w
 exact⟨⟨g.size,g.os,g.tape,g.output,E,λ b _=>rfl,λ b _ _=>rfl,λ _ _ _ _=>rfl,λ _ _=>rfl,λ _ h=>h.elim,λ _ h=>.inl h⟩,⟨hi.inj,hi.bnd,hi.apart,hi.mbnd⟩⟩
theorem Asn (M:List LineM) (hM:∀ l∈M,LineW l) (hl:M.length<2147483648) :
  Sq 75 [.ptr 0 0,.clo (.func 31) [.ptr 0 0] []] (Hi 0 0 M (emptyN,0,0)) (.tup []) (Hi 1 0 M (C3 M)):=by
 intro κ w vs hi hnew hvs hok
 have o1:=hok (0,.box (V7 0 0 M emptyN 0 0)) (by simp[Hi])
 obtain ⟨b,e1,c1,c2,st1,inv1,ob1⟩:=Eh (off:=1) (x:=.val (.int .i32 1)) (v:=.int .i32 1) hi o1 rfl (λ _ _=>by simp only[Rd]) rfl
 simp only[RdL,Rd,e1]at hvs
 obtain ⟨v0,r0,rfl,rfl,v1,r1,rfl,⟨fs,cs,rfl,hfs,hcs⟩,rfl⟩:=hvs
 obtain ⟨p3,q3,rfl,rfl,rfl⟩:=hfs
 subst hcs
 have hcl:=Ano M hM hl 0 1 κ (w.setCell ⟨b,1,none⟩ (.int .i32 1)) [.pointer (some ⟨b,0,none⟩)] inv1 hnew (by simp only[RdL,Rd,e1];exact⟨_,_,rfl,rfl,rfl⟩) (λ p hp=>by
  simp only[Hi,yB,wO,tI]at hp
  rw[hp]
  exact ob1)
 obtain ⟨u1,hu1,hr1⟩:=c1 0 (.val (.int .u32 0)) rfl
 obtain ⟨u2,hu2,hr2⟩:=c1 1 (.val (.int .i32 0)) rfl
 rw[hr1.val]at hu1
 rw[hr2.val]at hu2
 have f1:=c2 0 (show 0<14 by decide)
 have f2:=c2 1 (show 1<14 by decide)
 have hl:=Ara ⟨b,0,none⟩ 0 (w.setCell ⟨b,1,none⟩ (.int .i32 1)) ((World.cell?_setCell_other _ ⟨b,1,none⟩ ⟨b,0,none⟩ _ y_).trans hu1)
 have hnot:∀ (x:Bool) (w:World),(Op.unary .not (.bool x)).run Tryz.prog w=.ok (.bool (!x)) w:=λ _ _=>rfl
 go_enter_defers Tryz.func75,Tryz.ntmps75
 go_wp2_with (first | (go_at_call 120;refine(Aoq ⟨b,1,none⟩ _ (by assumption) (by assumption)).mono ?_;rintro e w' ⟨rfl,rfl⟩) | (go_at_call 31;refine hcl.mono ?_;rintro e w' ⟨v,κ2,rfl,hc2,hi2,hv2,ok2⟩) | (go_at_call 74;go_in))
 have p1:=ok2 (0,.box (V7 0 1 M (C3 M).1 (C3 M).2.1 (C3 M).2.2)) (by simp[Hi])
 have k1:κ2 0=.blk b:=by
  obtain ⟨bb,_,_,_,q1,_⟩:=id p1
  rcases hc2.nam 0 (by rw[e1];intro h;cases h) with h | h
  ·rw[h];exact e1
  ·rw[h]at q1;cases q1
 obtain ⟨ba,a1,a2,a3,_,_,_⟩:=Eh (off:=0) (x:=.val (.int .u32 1)) (v:=.int .u32 1) hi2 p1 rfl (λ _ _=>by simp only[Rd]) rfl
 rw[k1]at a1
 cases a1
 obtain ⟨std,invd⟩:=Apr hi2
 have p2:=ObOK.step std (k:=0) (λ h=>h) _ p1
 obtain ⟨ba,a1,_,_,st3,inv3,ob3⟩:=Eh (off:=0) (x:=.val (.int .u32 1)) (v:=.int .u32 1) invd p2 rfl (λ _ _=>by simp only[Rd]) rfl
 rw[k1]at a1
 cases a1
 have ob3:ObOK κ2 (w'.drew.setCell ⟨b,0,none⟩ (.int .u32 1)) 0 (.box (V7 1 1 M (C3 M).1 (C3 M).2.1 (C3 M).2.2)):=ob3
 obtain ⟨ba,a1,a4,a5,st4,inv4,ob4⟩:=Eh (off:=1) (x:=.val (.int .i32 0)) (v:=.int .i32 0) inv3 ob3 rfl (λ _ _=>by simp only[Rd]) rfl
 rw[k1]at a1
 cases a1
 have ob4:ObOK κ2 ((w'.drew.setCell ⟨b,0,none⟩ (.int .u32 1)).setCell ⟨b,1,none⟩ (.int .i32 0)) 0 (.box (V7 1 0 M (C3 M).1 (C3 M).2.1 (C3 M).2.2)):=ob4
 obtain ⟨v1,hv1,hr1⟩:=a2 0 (.val (.int .u32 0)) rfl
 rw[hr1.val]at hv1
 obtain ⟨v2,hv2,hr2⟩:=a4 1 (.val (.int .i32 1)) rfl
 rw[hr2.val]at hv2
 refine leaves_cons (f:=122) (args:=#[.pointer (some ⟨b,0,none⟩),.bool true]) y_ (by simp[go_sem]) ?_
 refine(Aao ⟨b,0,none⟩ (.int .u32 0) .returning _ hv1 (a3 0 (show 0<14 by decide))).mono ?_
 rintro e u' w'' ⟨rfl,rfl,rfl⟩
 refine leaves_cons (f:=121) (args:=#[.pointer (some ⟨b,1,none⟩)]) (by simp[settle]) (by simp[go_sem]) ?_
 refine(Yc ⟨b,1,none⟩ _ _ hv2 (a5 1 (show 1<14 by decide))).mono ?_
 rintro e u' w'' ⟨rfl,rfl,rfl⟩
 have hst:Step (·=0) κ2 w' κ2 ((w'.drew.setCell ⟨b,0,none⟩ (.int .u32 1)).setCell ⟨b,1,none⟩ (.int .i32 0)):=(std.weaken (λ _ h=>h.elim)).trans (st3.trans st4)
 refine⟨.tuple #[],by simp[results,Tryz.results75],.tuple #[],κ2,E,Ctx.behindN st1 (hc2.step inv4 hst),inv4,⟨[],E,E⟩,λ p hp=>?_⟩
 simp only[Hi,yB,wO,tI]at hp
 rw[hp]
 exact ob4
theorem Aso (M:List LineM) (dn lk:Int) (x:Net × Int × Int):Sq 74 [.ptr 0 0] (Hi dn lk M x) (Ac (dn != 0)) (Hi dn lk M x):=cT F74 Tryz.ntmps74 λ F hF=>by
 refine fW ?_
 refine Ag (Ux Ara E E E E) E E ?_
 refine fU ?_
 exact done E (.cons .tmp .nil) [] (Hi dn lk M x) (λ _ h=>h) E E U
theorem Azv (M:List LineM) (hM:∀ l∈M,LineW l) (hl:M.length<2147483648) :
  Sq 30 [.ptr 0 0,.clo (.func 31) [.ptr 0 0] []] (Hi 0 0 M (emptyN,0,0)) (.tup []) (Hi 1 0 M (C3 M)):=cT F30 Tryz.ntmps30 λ F hF=>by
 have q1:Sq 74 [.ptr 0 0] (Hi 0 0 M (emptyN,0,0)) (Ac false) (Hi 0 0 M (emptyN,0,0)):=Aso M 0 0 (emptyN,0,0)
 have q2:=Asn M hM hl
 refine fW ?_
 refine X (Ad [] E F74 q1 E W E V) ?_
 refine fU ?_
 refine X (Ad [] E F75 q2 E W E V) ?_
 refine fU ?_
 exact A4 E .nil [] (Hi 1 0 M (C3 M)) (λ _ h=>h) E E U
theorem Av7 (M:List LineM) (hM:∀ l∈M,LineW l) (hl:M.length<2147483648):Sq 11 [.ptr 0 0] (Hi 0 0 M (emptyN,0,0)) (.tup [Aj (C3 M).1,Aa (C3 M).2.1,Aa (C3 M).2.2]) (Hi 1 0 M (C3 M)):=cT F11 Tryz.ntmps11 λ F hF=>by
 have q:=Azv M hM hl
 refine T ?_
 refine X (Ad [] E F30 q E W E V) ?_
 refine T ?_
 exact done E (.cons (.cell E E E E) (.cons .tmp (.cons .tmp .nil))) [] (Hi 1 0 M (C3 M)) (λ _ h=>h) E E U
theorem Atm (M:List LineM) (hM:∀ l∈M,LineW l) (hl:M.length<2147483648):Sp 6 [.sl 17 A6 M] (.tup [Aj (C3 M).1,Aa (C3 M).2.1,Aa (C3 M).2.2]):=cT F6 Tryz.ntmps6 λ F hF=>by
 have q:=Av7 M hM hl
 refine T ?_
 refine Am 8 (V7 0 0 M emptyN 0 0) E vL ?_
 refine X (Ad [(0,8)] E F11 q E W E V) ?_
 refine T ?_
 exact D
end Go.Sy.YtljngfegfclkpaaGreat
namespace Go.Sy.YtljngfegfclkpaaGreat
open Go.Proofs
set_option maxHeartbeats 4000000
structure LineR (l:LineM):Prop where
 right:C6 l=true
 ok:LineOK l
 vlan:0≤l.vlan∧l.vlan≤4094
 num:0≤l.num∧l.num≤16777215
 cost:0≤l.cost∧l.cost≤65535
 bits:0≤l.bits∧l.bits≤32
 tagged:H3 l.tagged 4094=true
 imports:H3 l.imports 65535=true
 exports:H3 l.exports 65535=true
 addrs:l.addrs.length≤16
 dev:l.dev.size≤12
 port:l.port.size≤12
 peer:l.peer.size≤12
 far:l.far.size≤12
 name:l.name.size≤12
theorem An0 (l:LineM) (r:Int):C6 { l with row:=r }=C6 l:=by
 by_cases h1:l.kind=1
 ·simp[C6,Bh,M0,h1]
 by_cases h2:l.kind=2
 ·simp[C6,Bh,M0,h1,h2]
 by_cases h3:l.kind=3
 ·simp[C6,Bh,M0,h1,h2,h3]
 by_cases h4:l.kind=4
 ·simp[C6,Bh,M0,h1,h2,h3,h4]
 by_cases h5:l.kind=5
 ·simp[C6,Bh,M0,h1,h2,h3,h4,h5]
 by_cases h6:l.kind=6
 ·simp[C6,Bh,M0,h1,h2,h3,h4,h5,h6]
 by_cases h7:l.kind=7
 ·simp[C6,Bh,M0,h1,h2,h3,h4,h5,h6,h7]
 by_cases h8:l.kind=8
 ·simp[C6,Bh,M0,h1,h2,h3,h4,h5,h6,h7,h8]
 by_cases h9:l.kind=9
 ·simp[C6,Bh,M0,h1,h2,h3,h4,h5,h6,h7,h8,h9]
 simp[C6,Bh,M0,h1,h2,h3,h4,h5,h6,h7,h8,h9]
theorem LineR.row {l:LineM} (h:LineR l) (r:Int):LineR { l with row:=r } :=
 ⟨by rw[An0];exact h.right,⟨h.ok.mac,h.ok.addr,h.ok.addrs⟩,h.vlan,h.num,h.cost,h.bits,h.tagged,h.imports,h.exports,h.addrs,h.dev,h.port,h.peer,h.far,h.name⟩
end Go.Sy.YtljngfegfclkpaaGreat
namespace Go.Sy.YtljngfegfclkpaaGreat
open Go.Proofs
attribute [local irreducible] Go.Sy.G Go.Sy.DR
set_option maxRecDepth 100000
set_option maxHeartbeats 4000000
theorem A0s {l:List LineM} (h:linesGreat l=false):∀ x∈l,LineOK x→LineW x:=by
 intro x hx ho
 refine⟨Aug h x hx,ho,?_,?_,?_,?_,?_⟩
 all_goals
  rw[linesGreat]at h
  split at h
  ·cases h
  ·have:=Sr l 0 h x hx
   simp only[Uq,List.forall_mem_cons]at this
   omega
end Go.Sy.YtljngfegfclkpaaGreat
namespace Go.Sy.YtljngfegfclkpaaGreat
open Go.Proofs
theorem built_all {M:List LineM} (hM:∀ z∈M,LineW z) (h:(C3 M).2.2=0):(C3 M).1.Fin∧BuiltK (C3 M).1∧Cn (C3 M).1=true:=by
 have hb:C3 M=B3 emptyN M:=rfl
 rw[hb]at h ⊢
 obtain ⟨hn,hu⟩:=Adt M emptyN Le (λ x hx=>(by cases hx)) hM h
 obtain ⟨_,hr,hm,_⟩:=Aab M emptyN (λ _=>0) Al0 Apm h
 have hme:=Md (n:=(B3 emptyN M).1) (by rw[hm])
 refine⟨hn,⟨hr,Ago M emptyN Agg h,⟨Xw M emptyN (λ d hd=>by cases hd) hM h,hu⟩,by rw[hm],?_⟩,costsK (Aac M emptyN Z8 h)⟩
 rw[← hme.1,hm]
theorem Aju {n:Net} {f t:Int} (h:(wscriptT n f t).2≠0):(wscriptT n f t).1=[]:=by
 rw[wscriptT]at h ⊢
 split at h
 ·rename_i hc
  rw[zC hc]
  split at h
  ·exact zW E h
  ·rename_i hw;rw[zA hw]
 ·rename_i hc;rw[zA hc]
theorem Ag8 {n:Net} {f t:Int} (h:(wscriptT n f t).2=0):okB n (Avn n)=true:=by
 rw[wscriptT]at h
 split at h
 ·rename_i hc;exact hc.2.2.2
 ·cases h
theorem Ah1 {n:Net} (B:BuiltK n) (hc:Cn n=true) {f t:Int} (h:(wscriptT n f t).2=0):(injectW n f (wayT n f t).1).bytes.length≤2000:=by
 rw[wscriptT]at h
 split at h
 ·split at h
  ·rename_i hw
   obtain ⟨_,h1,_,_,m,x,_,_,_,g4,_⟩:=(Ae1 (n:=n) (p:=f) (to:=t)).1 hw
   obtain ⟨st,r,W,_,_⟩:=Aa8 g4
   generalize (wayT n f t).1=l at *
   have hpos:=W.pos
   have hF:=Xg W B (Jh h1) (k:=0) q_
   rw[Ct,zC q_]at hF
   have hl:=hF.len
   rw[injectW,Ae2 W B (Jh h1)]
   dsimp only
   rw[J7 hF.ok]
   dsimp only
   split
   ·rw[(Abf hF.typ q_).2,Dm]
    simp
    omega
   ·rw[Dm];omega
  ·cases h
 ·cases h
def Aiz (t:Int) (l:List SeenM):Bool:=l.any λ s=>decide (s.port=t) && decide (s.origin=1)
attribute [local irreducible] Go.Sy.G Go.Sy.DR
set_option maxRecDepth 100000
set_option maxHeartbeats 4000000
theorem Ad7 (M:List LineM) (hM:∀ z∈M,LineOK z) (f t:Int):Sp 3 [.sl 17 A6 M,Aa f,Aa t] (Ac true):=cT F3 Tryz.ntmps3 λ F hF=>by
 have qw:=Avg
 by_cases c0:100<M.length
 ·have f0:decide ((M.length:Int)>100)=true:=zL q_
  refine T ?_
  refine C qw F4 ?_
  refine T ?_
  exact D
 have f0:decide ((M.length:Int)>100)=false:=zJ q_
 have qg:=Ak3 M q_
 cases hg:linesGreat M with
 | true =>
  rw[hg]at qg
  refine T ?_
  refine C qw F4 ?_
  refine T ?_
  refine C qg F5 ?_
  refine T ?_
  exact D
 | false =>
 rw[hg]at qg
 have wM:∀ z∈M,LineW z:=λ z hz=>A0s hg z hz (hM z hz)
 have q1:=Atm M wM q_
 have hbb:=@built_all M wM
 clear hg hM wM
 generalize C3 M=r at *
 obtain ⟨n,row,e⟩:=r
 dsimp only at hbb q1
 refine T ?_
 refine C qw F4 ?_
 refine T ?_
 refine C qg F5 ?_
 refine T ?_
 refine C q1 F6 ?_
 by_cases e0:e=0
 rotate_left
 ·have g0:(e != 0)=true:=by rw[yV];exact e0
  refine T ?_
  exact D
 have g0:(e != 0)=false:=by rw[e0];rfl
 obtain ⟨hn,B,hc⟩:=hbb e0
 have q2:=U9 n hn B.num B.num.addr f t
 by_cases s0:(wscriptT n f t).2=0
 rotate_left
 ·have hno:=Aju s0
  have g1:((wscriptT n f t).2 != 0)=true:=by rw[yV];exact s0
  rw[hno]at q2
  refine T ?_
  refine C q2 F7 ?_
  refine T ?_
  exact D
 obtain ⟨rest,x,k1,k2,k3,s,s1,s2,s3⟩:=Ag7 B hc s0
 have hok:=Ag8 s0
 have hsm:=Ah1 B hc s0
 have hkd:(injectW n f (wayT n f t).1).kind=1∧(injectW n f (wayT n f t).1).port=f:=⟨rfl,rfl⟩
 rw[k1,s0]at q2
 generalize injectW n f (wayT n f t).1=i0 at *
 have hbytes:∀ y∈i0::(rest++[x]),y.bytes.length≤2000:=λ y hy=>by
  rcases yB.1 hy with rfl | hy
  ·exact hsm
  ·rw[(k3 y hy).2];exact xP _
 obtain ⟨av,hav⟩:∃ av,(Ds n (newT n) (i0::rest)).2=av:=⟨_,rfl⟩
 obtain ⟨cv,hcv⟩:∃ cv,(doT n (Ds n (newT n) (i0::rest)).1 x).2=cv:=⟨_,rfl⟩
 have hb2:(Ds n (newT n) (i0::(rest++[x]))).2=av++cv:=by
  have:=Yn n (i0::rest) (newT n) x
  rw[wN]at this
  rw[this,hav,hcv]
 rw[hcv]at s1
 have k1':i0::rest++[x]=i0::(rest++[x]):=rfl
 rw[k1']at q2
 have hdom:=(Agh B.right).2.2.2.1
 have okA:ScriptOK (i0::rest):=⟨by rw[yJ];omega,λ y hy=>hbytes y (by
  rcases yB.1 hy with rfl | hy
  ·exact List.mem_cons_self
  ·exact List.mem_cons_of_mem _ (vT _ hy))⟩
 have okB':ScriptOK (i0::(rest++[x])):=⟨by rw[yJ,zI,zM];omega,hbytes⟩
 have q3:=Aql n hn B.num (i0::rest) okA
 have q4:=Aql n hn B.num (i0::(rest++[x])) okB'
 rw[runT,zC hok]at q3 q4
 dsimp only at q3 q4
 rw[hav]at q3
 rw[hb2]at q4
 have hsl:(i0::(rest++[x])).length=rest.length+2:=by simp
 have hd1:(i0::(rest++[x])).drop 1=rest++[x]:=rfl
 have ht1:(i0::(rest++[x])).take (rest.length+1)=i0::rest:=by
  rw[tF,List.take_left' rfl]
 have hk0:(0:Int).toNat<(i0::(rest++[x])).length:=by rw[hsl];show 0<_;omega
 have hx0:(i0::(rest++[x]))[(0:Int).toNat]'hk0=i0:=rfl
 have hcl:0<cv.length:=xF.2 (List.ne_nil_of_mem s1)
 have hany:Aiz t cv=true:=by
  rw[Aiz,wF]
  exact⟨s,s1,by rw[zL s2,zL s3];rfl⟩
 have hal:av.length≤(i0::rest).length * 4294967296:=by
  have:=Abp hn (i0::rest) (newT n)
  rwa [hav]at this
 have hcf:cv.length<4294967296:=by
  have:=Aik hn (Ds n (newT n) (i0::rest)).1 x
  rwa [hcv]at this
 rw[yJ]at hal
 obtain ⟨bv,hbv⟩:∃ bv,av++cv=bv:=⟨_,rfl⟩
 have hbl:bv.length=av.length+cv.length:=by rw[← hbv,zI]
 have hbd:bv.drop av.length=cv:=by rw[← hbv];exact List.drop_left' rfl
 rw[hbv]at q4
 generalize hsc:i0::(rest++[x])=sc at *
 clear hbytes okA okB' hav hcv hb2 hbv q1 qg qw s1 hok k1 k1' hbb
 have g1:(((0:Int)) != 0)=false:=rfl
 have g2:decide ((sc.length:Int)<2)=false:=zJ q_
 have g3:decide ((sc.length:Int)>4 * (n.domains.length:Int)+2)=false:=zJ q_
 have g4:((sc[(0:Int).toNat]'hk0).kind != 1)=false:=by rw[hx0,hkd.1];rfl
 have g5:((sc[(0:Int).toNat]'hk0).port != f)=false:=by rw[hx0,hkd.2,bne_self_eq_false]
 have g6:decide ((bv.length:Int)≤(av.length:Int))=false:=zJ q_
 refine T ?_
 refine C q2 F7 ?_
 refine T ?_
 have hs1:(sc.drop 1).length=rest.length+1:=by rw[yN];omega
 refine X (J5 (lo:=1) (hi:=sc.length) Γ.toTy (sc.drop 1) E E E E (.inr ⟨_,_,E,E⟩) (.inl ⟨E,E⟩) q_ (zZ _) (by rw[yG])) ?_
 refine Db (λ j:Nat=>j≤(sc.drop 1).length) (λ j=>[(1,Aa f),(2,Aa t),(7,.ptr 7 0),(10,.sl 6 D6 sc),(78,.sl 6 D6 (sc.drop 1)),(79,Aa (sc.drop 1).length),(80,Aa j)]) (λ _=>[(7,.box (C7 n))]) (λ j=>(sc.drop 1).length-j) 0 [] (xP _) U ?_
 rintro j hj
 refine T ?_
 constructor<;>intro h
 ·have hlt:j<(sc.drop 1).length:=qA h
  have hj0:((j:Nat):Int).toNat<(sc.drop 1).length:=hlt
  have hy:=(k3 ((sc.drop 1)[((j:Nat):Int).toNat]'hj0) (by rw[← hd1];exact zE hj0)).1
  clear h
  rcases hy with hy | hy
  ·have g7:(((sc.drop 1)[((j:Nat):Int).toNat]'hj0).kind != 2)=false:=by rw[hy];rfl
   refine T ?_
   exact Bd (j+1) [] hlt q_ U
  ·have g7:(((sc.drop 1)[((j:Nat):Int).toNat]'hj0).kind != 2)=true:=by rw[hy];rfl
   have g8:(((sc.drop 1)[((j:Nat):Int).toNat]'hj0).kind != 5)=false:=by rw[hy];rfl
   refine T ?_
   exact Bd (j+1) [] hlt q_ U
 ·clear h
  refine T ?_
  refine Xd (J5 (lo:=0) (hi:=rest.length+1) Γ.toTy (i0::rest) E E E E (.inl ⟨E,E⟩) (.inr ⟨_,_,E,zD (λ z=>SV.val (.int .i64 z)) q_⟩) (xP _) q_ (by rw[List.drop_zero];exact ht1)) ?_
  refine C q3 F8 ?_
  refine T ?_
  refine C q4 F8 ?_
  refine T ?_
  refine X (J5 (lo:=av.length) (hi:=bv.length) Γ.toTy cv E E E E (.inr ⟨_,_,E,E⟩) (.inl ⟨E,E⟩) q_ (zZ _) (by rw[yG];exact hbd)) ?_
  refine Db (λ j:Nat=>j≤cv.length) (λ j=>[(2,Aa t),(17,Ac (Aiz t (cv.take j))),(125,.sl 3 Dw cv),(126,Aa cv.length),(127,Aa j)]) (λ _=>[]) (λ j=>cv.length-j) 0 [] (xP _) U ?_
  rintro j hj
  refine T ?_
  constructor<;>intro h
  ·have hlt:j<cv.length:=qA h
   have hj0:((j:Nat):Int).toNat<cv.length:=hlt
   clear h
   have hsn:Aiz t (cv.take (j+1))=(Aiz t (cv.take j) || (decide ((cv[((j:Nat):Int).toNat]'hj0).port=t) && decide ((cv[((j:Nat):Int).toNat]'hj0).origin=1))):=by
    rw[zY hlt,Aiz,List.any_append]
    show _=_
    rw[← Aiz]
    simp
   cases a1:Aiz t (cv.take j) with
   | true =>
    rw[a1,uS]at hsn
    refine T ?_
    refine Bd (j+1) [] hlt q_ ?_
    rw[hsn]
    exact U
   | false =>
    rw[a1,vF]at hsn
    by_cases b1:(cv[((j:Nat):Int).toNat]'hj0).port=t
    ·have g7:((cv[((j:Nat):Int).toNat]'hj0).port == t)=true:=by rw[b1];simp
     have hs2:Aiz t (cv.take (j+1))=((cv[((j:Nat):Int).toNat]'hj0).origin == 1):=by
      rw[hsn,zL b1,zS,xO]
      simp
     refine T ?_
     refine Bd (j+1) [] hlt q_ ?_
     rw[hs2]
     exact U
    ·have g7:((cv[((j:Nat):Int).toNat]'hj0).port == t)=false:=by rw[zO];exact b1
     rw[zJ b1,zT]at hsn
     refine T ?_
     refine Bd (j+1) [] hlt q_ ?_
     rw[hsn]
     exact U
  ·have hje:j=cv.length:=qB h
   subst hje
   clear h
   rw[yG,hany]
   refine T ?_
   exact D
end Go.Sy.YtljngfegfclkpaaGreat
