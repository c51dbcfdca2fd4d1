/-
  Z3 Z4 K41 K42 K8 K9 K10 K11 K15 K16 K17 K18 K19 K20 K21 K22 K23 K12 K13 K14 K24 K43 K44 Z5 Z6 Z7 Z8 Z9 Z10 Z11 Z12 Z13 Z14 Z15 Z16 H1: parts of a proof, joined by program.
-/
import Derived.Test.YtcflgpijohhfbaaGreatXS7
import Derived.Test.YtcflgpijohhfbaaGreatXS5
import Derived.Test.YtcflgpijohhfbaaGreatXS6
import Derived.Test.YtcflgpijohhfbaaGreatXS4
import Derived.Test.YtcflgpijohhfbaaGreatXS3
import Derived.Tactics
import Derived.Tactics2
import Derived.Defers
import Derived.Laws.Pointers
import Derived.Laws.LoneSync
import Derived.RegionTactic
import Derived.RegionCalls
import Derived.ChangeAlike
import Derived.Laws.NewBlocks
set_option linter.all false
set_option linter.unusedVariables false
set_option linter.unusedSimpArgs false
set_option linter.deprecated false
namespace Go.Sy.YtcflgpijohhfbaaGreat
open Go.Proofs
attribute [local irreducible] Go.Sy.G Go.Sy.DR
set_option maxRecDepth 100000
set_option maxHeartbeats 4000000
theorem Aad (m:Nat) (h:m<4294967296):bits .and .u64 (m:Int) 4294967295=(m:Int):=by
 have:=bits_and_u64_nat m 4294967295 q_ j_
 rw[show ((4294967295:Nat):Int)=4294967295 from rfl]at this
 rw[this]
 have h2:=Nat.and_two_pow_sub_one_eq_mod m 32
 rw[show 2 ^ 32-1=4294967295 from rfl,show 2 ^ 32=4294967296 from rfl]at h2
 rw[h2,Nat.mod_eq_of_lt h]
theorem Aip (m:Nat) (h:m<4294967296):(m:Int).fdiv (2 ^ (min (Int.toNat 32) IntKind.u64.bits))=0:=by
 show (m:Int).fdiv 4294967296=0
 rw[Int.fdiv_eq_ediv_of_nonneg _ j_]
 omega
theorem mul64S (m:Nat) (h:m<4294967296):Sy.Spec Tryz.prog 150 [A9 1,A9 m] [] (.tup [A9 0,A9 m]) []:=cT F150 Tryz.ntmps150 fun F hF=>by
 have e0:bits .and .u64 1 4294967295=1:=Aad 1 j_
 have e1:(1:Int).fdiv (2 ^ (min (Int.toNat 32) IntKind.u64.bits))=0:=Aip 1 j_
 have e2:=Aad m h
 have e3:=Aip m h
 have w1:IntKind.u64.wrap (1 * (m:Int))=m:=by rw[IntKind.wrap_u64];omega
 have w0:IntKind.u64.wrap (0 * (m:Int))=0:=by rw[IntKind.wrap_u64];omega
 have z0:IntKind.u64.wrap (0+0)=0:=rfl
 have a0:bits .and .u64 0 4294967295=0:=Aad 0 j_
 have s0:(0:Int).fdiv (2 ^ (min (Int.toNat 32) IntKind.u64.bits))=0:=Aip 0 j_
 conv=>whnf
 rw[e0]
 refine⟨by decide,?_⟩
 rw[e1]
 conv=>whnf
 rw[e2]
 refine⟨by decide,?_⟩
 rw[e3]
 conv=>whnf
 rw[w1,w0]
 refine⟨by decide,?_⟩
 rw[e3]
 conv=>whnf
 rw[z0,a0]
 refine⟨by decide,?_⟩
 rw[s0]
 conv=>whnf
 refine⟨by decide,?_⟩
 conv=>whnf
 refine Ap E (.cons .tmp (.cons .tmp .nil)) ?_ E
 refine congrArg (fun z:Int=>SV.tup [A9 0,A9 z]) ?_
 exact w1.symm
theorem mulS (m:Nat) (h:m<4294967296):Sy.Spec Tryz.prog 92 [A9 1,A9 m] [] (.tup [A9 0,A9 m]) []:=cT F92 Tryz.ntmps92 fun F hF=>by
 ((conv=>whnf);refine aF ?_;refine rg ?_;conv=>whnf)
 refine c0 (mul64S m h) F150 ?_
 refine oO ?_
 exact dN
def Jr (m k:Nat):List Bool:=List.replicate k true++List.replicate (m-k) false
theorem M6 (m k:Nat) (h:k≤m):(Jr m k).length=m:=by simp[Jr];omega
theorem Aqc (m:Nat):Jr m m=List.replicate m true:=by simp[Jr]
theorem Anh (m k c:Nat) (_h:k≤m) (hc:c=min k (m-k)):(Jr m k).take k++(Jr m k).take c++(Jr m k).drop (k+c)=Jr m (k+c):=by
 have e1:(Jr m k).take k=List.replicate k true:=by
  rw[Jr,List.take_append_of_le_length y_];simp
 have e2:(Jr m k).take c=List.replicate c true:=by
  rw[Jr,List.take_append_of_le_length (by simp;omega)];simp;omega
 have e3:(Jr m k).drop (k+c)=List.replicate (m-(k+c)) false:=by
  rw[Jr,List.drop_append,List.drop_eq_nil_of_le y_,List.nil_append]
  simp
  omega
 rw[e1,e2,e3,Jr,List.replicate_append_replicate]
theorem Alf (m:Nat) (h:m<2147483648):Sy.Spec Tryz.prog 57 [.sl 1 Ab [true],Aa m] [] (.sl 1 Ab (List.replicate m true)) []:=cT F57 Tryz.ntmps57 fun F hF=>by
 have hw:IntKind.u64.wrap (m:Int)=m:=by rw[IntKind.wrap_u64];omega
 have hw2:IntKind.i64.wrap (m:Int)=m:=by rw[IntKind.wrap_i64];omega
 have q:=mulS m q_
 rw[← hw]at q
 ((conv=>whnf);refine aF ?_;refine rg ?_;conv=>whnf)
 refine c0 q F92 ?_
 rw[hw]
 refine oF ?_
 refine⟨fun h1=>absurd (of_decide_eq_true h1) q_,fun _=>?_⟩
 refine oO ?_
 rw[hw2]
 refine Af (Bp Γ.toTy (d:=30) (n:=m) Ab false E E E E E E E E q_ q_ E E E) E E ?_
 refine oO ?_
 refine Af (V4 Γ.toTy (l:=List.replicate m false) (m:=[true]) E E E E E .sl) E E ?_
 have e0:[true].take (List.replicate m false).length++(List.replicate m false).drop [true].length=Jr m (min 1 m):=by
  cases m with
  | zero=>rfl
  | succ m=>simp[Jr,Nat.min_eq_left,List.replicate_succ]
 have e1:min [true].length (List.replicate m false).length=min 1 m:=by simp
 rw[e0,e1]
 refine oO ?_
 refine C1 (fun k:Nat=>min 1 m≤k∧k≤m) (fun k=>[(7,.osl 30),(8,Aa k)]) (fun k=>[(30,.row 1 Ab (Jr m k))]) (fun k=>m-k) (min 1 m) [] q_ ⟨⟨E,E,E,E,Y⟩,⟨.inl E,E,Y⟩,E,E⟩ ?_
 intro k hk
 have hl:=M6 m k hk.2
 refine oO ?_
 refine⟨fun h1=>?_,fun h1=>?_⟩
 ·have hlt:k<m:=by have:=of_decide_eq_true h1;rw[hl]at this;omega
  clear h1
  have hk1:1≤k:=by omega
  have hne:Jr m k≠[]:=fun e=>by rw[e]at hl;simp at hl;omega
  refine Amf 30 [7] E hne (fun i hi=>by simp at hi;subst hi;rfl) ?_
  intro b cap hc
  rw[hl]at hc ⊢
  have hcl:¬ cap=k:=by omega
  have hcp:=Anh m k (min k (m-k)) hk.2 rfl
  refine oO ?_
  refine Bm (C6 (lo:=k) (hi:=m) Γ.toTy E E E E (.inr ⟨_,_,E,E⟩) (.inl ⟨E,E⟩) q_ q_) z_ E ?_
  refine oD ?_
  refine Bm (C6 (lo:=0) (hi:=k) Γ.toTy E E E E (.inl ⟨E,E⟩) (.inr ⟨_,_,E,E⟩) q_ q_) z_ E ?_
  refine oD ?_
  refine Bm (Aa9 Γ.toTy 30 (lo:=k) (k:=k) E E E E (by rw[if_neg hcl,Nat.mul_one]) E (by rw[if_neg q_,Nat.zero_mul]) E hl q_ q_) z_ E ?_
  refine oD ?_
  refine iW ?_
  refine kW ?_
  refine Xz 30 31 [7] m E E (by rw[hcp,M6 m _ q_];exact Nat.le_refl _) (fun i hi=>by simp at hi;subst hi;rfl) ?_
  have hfin:((Jr m k).take k++(Jr m k).take (min k (m-k))++(Jr m k).drop (k+min k (m-k))).take m=Jr m (k+min k (m-k)):=by
   rw[hcp,List.take_of_length_le (by rw[M6 m _ q_];exact Nat.le_refl _)]
  exact Bg (k+min k (m-k)) [(30,31)] q_ q_ ⟨⟨E,E,E,E,Y⟩,⟨.inl (congrArg (Ob.row 1 Ab) hfin.symm),E,Y⟩,E,E⟩
 ·have hkm:k=m:=by have:=of_decide_eq_false h1;rw[hl]at this;omega
  subst hkm
  rw[Aqc]
  refine oO ?_
  refine Ah 30 E ?_
  exact dN
def K4 (t:List EntryM):SV:=.sl 3 Ay t
def Mp (l:List QueuedM):SV:=.sl 7 Bo l
def M3 (n:Net) (k:Nat) (now inj:Int) (d:Nat→Int):List SV :=
 [.sl 5 Aq n.devices,.sl 7 Au n.ports,.sl 3 Bl n.links,.sl 6 An n.domains,.sl 4 As n.statics,.sl 4 A0 n.floods,.sl 5 Bv n.vrfs,.sl 5 Br n.irbs,.ptr k 0,.osl 2,.osl 3,.val (.int .i64 now),.val (.int .i64 inj),
 .val (.int .i64 (d 0)),.val (.int .i64 (d 1)),.val (.int .i64 (d 2)),.val (.int .i64 (d 3)),.val (.int .i64 (d 4)),.val (.int .i64 (d 5)),.val (.int .i64 (d 6)),.val (.int .i64 (d 7)),.val (.int .i64 (d 8)),.val (.int .i64 (d 9)),.val (.int .i64 (d 10)),.val (.int .i64 (d 11)),.val (.int .i64 (d 12)),.val (.int .i64 (d 13)),.val (.int .i64 (d 14)),.val (.int .i64 (d 15)),.val (.int .i64 (d 16)),.val (.int .i64 (d 17)),.val (.int .i64 (d 18)),.val (.int .i64 (d 19)),.val (.int .i64 (d 20)),.val (.int .i64 (d 21)),.val (.int .i64 (d 22)),.val (.int .i64 (d 23)),.val (.int .i64 (d 24)),.val (.int .i64 (d 25)),.val (.int .i64 (d 26)),.val (.int .i64 (d 27)),.val (.int .i64 (d 28)),.val (.int .i64 (d 29)),.val (.int .i64 (d 30)),.val (.int .i64 (d 31)),.val (.int .i64 (d 32)),.val (.int .i64 (d 33)),.val (.int .i64 (d 34)),.val (.int .i64 (d 35)),.val (.int .i64 (d 36)),.val (.int .i64 (d 37)),.val (.int .i64 (d 38)),.val (.int .i64 (d 39)),.val (.int .i64 (d 40)),.val (.int .i64 (d 41)),.val (.int .i64 (d 42)),.val (.int .i64 (d 43)),.val (.int .i64 (d 44)),.val (.int .i64 (d 45)),.val (.int .i64 (d 46)),.val (.int .i64 (d 47)),.val (.int .i64 (d 48)),.val (.int .i64 (d 49)),.val (.int .i64 (d 50)),.val (.int .i64 (d 51)),.val (.int .i64 (d 52)),.val (.int .i64 (d 53)),.val (.int .i64 (d 54)),.val (.int .i64 (d 55)),.val (.int .i64 (d 56)),.val (.int .i64 (d 57)),.val (.int .i64 (d 58)),.val (.int .i64 (d 59)),.val (.int .i64 (d 60)),.val (.int .i64 (d 61)),.val (.int .i64 (d 62)),.val (.int .i64 (d 63))]
def onceL (up:List Bool) (done:Int) (fw:List Bool):List SV:=[.sl 1 Ab up,.val (.int .u32 done),.val (.int .i32 0),.val (.int .u32 0),.sl 1 Ab fw]
def Is (n:Net) (up:List Bool) (d:Bool):List SV:=onceL up (if d then 1 else 0) (if d then Li n up else [])
def C8 (n:Net) (m:MacM) (d:Bool):Obs:=[(0,.box (M3 n 1 m.now m.injected m.drops)),(1,.box (Is n m.up d)),(2,.row 1 K4 m.tables),(3,.row 1 Mp m.queues)]
theorem getI_map (f:Nat→SV):∀ (k a n:Nat),k<n→Ei ((List.range' a n).map f) k=some (f (a+k))
 | 0,a,n+1,_=>rfl
 | k+1,a,n+1,h=>by
  show Ei ((List.range' (a+1) n).map f) k=_
  rw[getI_map f k (a+1) n q_]
  congr 2;omega
theorem Ak8 (f:Nat→SV) (x:SV):∀ (k a n:Nat),((List.range' a n).map f).set k x=(List.range' a n).map (fun i=>if i=a+k then x else f i)
 | _,_,0=>rfl
 | 0,a,n+1=>by
  show x::(List.range' (a+1) n).map f=(if a=a+0 then x else f a)::(List.range' (a+1) n).map _
  rw[if_pos q_]
  congr 1
  apply List.map_congr_left
  intro i hi
  have:=(List.mem_range'_1.1 hi).1
  rw[if_neg q_]
 | k+1,a,n+1=>by
  show f a::((List.range' (a+1) n).map f).set k x=(if a=a+(k+1) then x else f a)::(List.range' (a+1) n).map _
  rw[if_neg q_,Ak8 f x k (a+1) n]
  congr 1
  apply List.map_congr_left
  intro i _
  rw[show a+1+k=a+(k+1) by omega]
theorem So (n:Net) (k:Nat) (now inj:Int) (d:Nat→Int):M3 n k now inj d =
  .sl 5 Aq n.devices::.sl 7 Au n.ports::.sl 3 Bl n.links::.sl 6 An n.domains::.sl 4 As n.statics::.sl 4 A0 n.floods::.sl 5 Bv n.vrfs::.sl 5 Br n.irbs::.ptr k 0::.osl 2::.osl 3::.val (.int .i64 now)::.val (.int .i64 inj) ::
   (List.range' 0 64).map (fun i=>.val (.int .i64 (d i))):=rfl
theorem Ap5 (n:Net) (k:Nat) (now inj:Int) (d:Nat→Int) (e:Nat) (he:e<64):Ei (M3 n k now inj d) (13+e)=some (.val (.int .i64 (d e))):=by
 rw[So,Nat.add_comm]
 show Ei ((List.range' 0 64).map (fun i=>SV.val (.int .i64 (d i)))) e=_
 rw[getI_map _ e 0 64 he,Nat.zero_add]
theorem Ap4 (n:Net) (k:Nat) (now inj:Int) (d:Nat→Int) (e:Nat) (v:Int):(M3 n k now inj d).set (13+e) (.val (.int .i64 v))=M3 n k now inj (fun i=>if i=e then v else d i):=by
 rw[So,So,Nat.add_comm]
 have h:=Ak8 (fun i=>SV.val (.int .i64 (d i))) (.val (.int .i64 v)) e 0 64
 have h2:(fun i=>if i=0+e then SV.val (.int .i64 v) else SV.val (.int .i64 (d i)))=(fun i=>SV.val (.int .i64 (if i=e then v else d i))):=by
  funext i
  rw[Nat.zero_add]
  split<;>rfl
 rw[h2]at h
 rw[← h]
 rfl
theorem add64 (a:Addr) (x y:Int) (w:World) (hc:w.cell? a=some (.int .i64 x)) (hz:w.frozen? a=false):(callFunc 237 #[.pointer (some a),.int .i64 y]).run Tryz.prog w=.ok (.value (.int .i64 (IntKind.i64.wrap (x+y)))) (w.setCell a (.int .i64 (IntKind.i64.wrap (x+y)))) :=
 run_call_add Tryz.func237 z_ z_ z_ .i64 z_ hc hz rfl
theorem Am4 (n:Net) (k:Nat) (m:MacM) (e:Int):M3 n k m.now m.injected (Cg m e).drops=(M3 n k m.now m.injected m.drops).set (13+e.toNat) (.val (.int .i64 (m.drops e.toNat+1))):=by
 rw[Ap4]
 congr 1
 funext i
 show (if i=e.toNat then m.drops i+1 else m.drops i)=_
 split
 ·rename_i h;rw[h]
 ·rfl
theorem Akd {x:Int} (h:0≤x∧x≤1000000000000):IntKind.i64.wrap (x+1)=x+1:=by
 rw[IntKind.wrap_i64];omega
theorem Akr (n:Net) (m:MacM) (d:Bool) (e:Int) (h0:0≤e) (h1:e<64) (hb:IntKind.i64.wrap (m.drops e.toNat+1)=m.drops e.toNat+1) :
  Sy.Spec Tryz.prog 171 [.ptr 0 (13+e.toNat),Aa 1] (C8 n m d) (Aa (m.drops e.toNat+1)) (C8 n (Cg m e) d):=cT F171 Tryz.ntmps171 fun F hF=>by
 have hg:=Ap5 n 1 m.now m.injected m.drops e.toNat q_
 have hs:=Am4 n 1 m e
 have hlt:=Xv hg
 refine fW ?_
 refine Af (Adz add64 E E E E hg hb) E E ?_
 refine fU ?_
 exact done E (.cons .tmp .nil) [] (C8 n (Cg m e) d) (fun _ h=>h) E E ⟨Y,⟨.inl (congrArg Ob.box hs),E,.inl E,E,.inl E,E,.inl E,E,Y⟩,E,E⟩
theorem Ahd (n:Net) (m:MacM) (d:Bool) (e:Int) (h0:0≤e) (h1:e<64) (hb:0≤m.drops e.toNat∧m.drops e.toNat≤1000000000000) :
  Sy.Spec Tryz.prog 109 [.ptr 0 0,Aa e] (C8 n m d) (.tup []) (C8 n (Cg m e) d):=cT F109 Tryz.ntmps109 fun F hF=>by
 refine fW ?_
 refine⟨h0,by omega,?_⟩
 refine fU ?_
 refine Af (Ad [] E F171 (Akr n m d e h0 h1 (Akd hb)) (congrArg (fun z=>[SV.ptr 0 z,Aa 1]) (show 13+e.toNat=0+13+e.toNat * 1 by omega)) ⟨E,E,E,E,Y⟩ E ⟨.inl E,.inl E,.inl E,.inl E,Y⟩) E E ?_
 refine fU ?_
 exact A1 E .nil [] (C8 n (Cg m e) d) (fun _ h=>h) E E ⟨Y,⟨.inl E,E,.inl E,E,.inl E,E,.inl E,E,Y⟩,E,E⟩
theorem Ak6 (n:Net) (m:MacM) (d:Bool) (dom:Int) :
  Sy.Spec Tryz.prog 65 [.ptr 0 0,Aa dom] (C8 n m d) (Ab (Ai dom m.queues.length)) (C8 n m d):=cT F65 Tryz.ntmps65 fun F hF=>by
 have hres:Ai dom m.queues.length=(decide (0≤dom) && decide (dom<m.queues.length)):=rfl
 generalize Ai dom m.queues.length=res at *
 refine fW ?_
 refine⟨fun h=>?_,fun h=>?_⟩
 ·refine fU ?_
  (repeat (first | (refine⟨fun h=>False.elim (by first | (exact absurd h j_) | (simp at h;done) | (simp at h;omega)),fun _=>?_⟩;(refine fU ?_)) | (refine⟨fun _=>?_,fun h=>False.elim (by first | (exact absurd h j_) | (simp at h;done) | (simp at h;omega))⟩;(refine fU ?_))))
  refine done E (.cons .tmp .nil) [] (C8 n m d) (fun _ h=>h) ?_ E ⟨Y,⟨.inl E,E,.inl E,E,.inl E,E,.inl E,E,Y⟩,E,E⟩
  rw[hres,h]
  rfl
 ·refine fU ?_
  (repeat (first | (refine⟨fun h=>False.elim (by first | (exact absurd h j_) | (simp at h;done) | (simp at h;omega)),fun _=>?_⟩;(refine fU ?_)) | (refine⟨fun _=>?_,fun h=>False.elim (by first | (exact absurd h j_) | (simp at h;done) | (simp at h;omega))⟩;(refine fU ?_))))
  refine done E (.cons .tmp .nil) [] (C8 n m d) (fun _ h=>h) ?_ E ⟨Y,⟨.inl E,E,.inl E,E,.inl E,E,.inl E,E,Y⟩,E,E⟩
  rw[hres,h]
  rfl
theorem Aj8 (f:FrameM) (hb:f.body.length<100000):Sy.Spec Tryz.prog 178 [Ce f] [] (Ce f) []:=cT F178 Tryz.ntmps178 fun F hF=>by
 conv=>whnf
 refine Af (Bp Γ.toTy (d:=7) (n:=f.body.length) Al 0 E E E E E E E E q_ q_ E E E) E E ?_
 refine oO ?_
 refine Af (V4 Γ.toTy (l:=List.replicate f.body.length 0) (m:=f.body) E E E E E .sl) E E ?_
 refine oO ?_
 refine Ah 7 E ?_
 refine oO ?_
 refine Ap E (.cons (.cell E E E E) .nil) ?_ E
 show SV.agg [_,_,_,.sl 1 Al f.body]=SV.agg [_,_,_,.sl 1 Al (f.body.take (List.replicate f.body.length (0:UInt8)).length++(List.replicate f.body.length (0:UInt8)).drop f.body.length)]
 have e:f.body.take (List.replicate f.body.length (0:UInt8)).length++(List.replicate f.body.length (0:UInt8)).drop f.body.length=f.body:=by
  rw[List.length_replicate,List.take_length,List.drop_eq_nil_of_le y_,List.append_nil]
 rw[e]
 rfl
theorem Aed (q:QueuedM) (hb:q.frame.body.length<100000):Sy.Spec Tryz.prog 113 [Bo q] [] (Bo q) []:=cT F113 Tryz.ntmps113 fun F hF=>by
 have qc:=Aj8 q.frame hb
 conv=>whnf
 refine c0 qc F178 ?_
 refine oO ?_
 exact dN
def O7 (l:List QueuedM):Prop:=∀ q∈l,q.frame.body.length<100000
theorem Aut (l:List QueuedM) (hl:l.length<1000000) (hb:O7 l):Sy.Spec Tryz.prog 112 [.sl 7 Bo l] [] (.osl 0) [(0,.row 7 Bo l)]:=cT F112 Tryz.ntmps112 fun F hF=>by
 conv=>whnf
 refine Cc 3 1000 7 Bo E E ?_
 refine A3 l.length (fun j=>[(3,.osl 1000),(6,.sl 7 Bo l),(7,Aa l.length),(8,Aa j)]) (fun j=>[(1000,.row 7 Bo (l.take j))]) [] ⟨⟨E,E,E,E,E,E,E,E,Y⟩,⟨.inl E,E,Y⟩,E,E⟩ ?_
 intro j hj
 refine oO ?_
 refine⟨fun h=>?_,fun h=>?_⟩
 ·have hlt:j<l.length:=qA h
  have hj0:((j:Nat):Int).toNat<l.length:=by simpa using hlt
  obtain ⟨q,hq⟩:∃ q,l[j]=q:=⟨_,rfl⟩
  have e1:l[((j:Nat):Int).toNat]'hj0=q:=hq
  have hs:l.take (j+1)=l.take j++[q]:=by rw[List.take_succ_eq_append_getElem hlt,hq]
  have hqb:=hb q (by rw[← hq];exact List.getElem_mem hlt)
  have hll:(l.take j).length=j:=by rw[List.length_take];omega
  clear h
  refine oO ?_
  refine⟨E,by omega,hj0,?_⟩
  rw[e1]
  conv=>whnf
  refine c0 (Aed q hqb) F113 ?_
  refine oO ?_
  refine Af (Ag Γ.toTy 16 E E E E E (.row E) (.lit (e:=Bo) (l:=[q]) E E) y_ (by rw[hll];simp;omega) (by rw[hll];simp;omega)) E E ?_
  refine oO ?_
  refine iW ?_
  exact Av [(1000,16)] hlt ⟨⟨E,E,E,E,E,E,E,E,Y⟩,⟨.inl (congrArg (Ob.row 7 Bo) hs),E,Y⟩,E,E⟩
 ·have hjj:j=l.length:=qB h
  subst hjj
  rw[List.take_length]
  refine oO ?_
  exact done E (.cons .tmp .nil) [(0,1000)] [(0,.row 7 Bo l)] (fun _ h=>h) E E ⟨Y,⟨.inl E,E,Y⟩,E,E⟩
theorem Afu (l:List QueuedM) (q:QueuedM) (hl:l.length<1000000) (hb:O7 l) (hqb:q.frame.body.length<100000) :
  Sy.Spec Tryz.prog 160 [.sl 7 Bo l,Bo q] [] (.tup [.sl 7 Bo (pushT l q).1,Ab (pushT l q).2]) []:=cT F160 Tryz.ntmps160 fun F hF=>by
 have hres:=pushT.eq_1 l q
 generalize pushT l q=res at *
 conv=>whnf
 refine Af (Ad [(0,55)] E F112 (Aut l hl hb) E Y E ⟨.inr E,Y⟩) E E ?_
 refine oO ?_
 refine⟨fun h=>?_,fun h=>?_⟩
 ·rw[if_pos (qA h)]at hres
  subst hres
  refine oO ?_
  refine Ah 55 E ?_
  exact dN
 ·rw[if_neg (qB h)]at hres
  subst hres
  refine oO ?_
  refine c0 (Aed q hqb) F113 ?_
  refine oO ?_
  refine Af (Ag Γ.toTy 17 E E E E E (.row E) (.lit (e:=Bo) (l:=[q]) E E) j_ (by simp;omega) (by simp;omega)) E E ?_
  refine Ah 17 E ?_
  refine oO ?_
  exact dN
theorem Yq (l:List QueuedM) (at_:Int) (hl:l.length<1000000) (hb:O7 l) :
  Sy.Spec Tryz.prog 66 [.sl 7 Bo l,Aa at_] [] (.tup [Bo (takeT l at_).1,.sl 7 Bo (takeT l at_).2.1,Ab (takeT l at_).2.2]) []:=cT F66 Tryz.ntmps66 fun F hF=>by
 have hres:=takeT.eq_1 l at_
 generalize takeT l at_=res at *
 conv=>whnf
 refine⟨fun h=>?_,fun h=>?_⟩
 ·rw[if_pos (.inl (of_decide_eq_true h))]at hres
  subst hres
  refine oT ?_
  refine Af (Ad [(0,55)] E F112 (Aut l hl hb) E Y E ⟨.inr E,Y⟩) E E ?_
  refine Ah 55 E ?_
  refine oO ?_
  refine Am 4 [Aa 0,Aa 0,Aa 0,A9 0,A9 0,Aa 0,.sl 1 Al []] E vL ?_
  exact dN
 have h0:0≤at_:=qB h
 clear h
 refine oO ?_
 refine⟨fun h=>?_,fun h=>?_⟩
 ·rw[if_pos (.inr (of_decide_eq_true h))]at hres
  subst hres
  refine oO ?_
  refine Af (Ad [(0,55)] E F112 (Aut l hl hb) E Y E ⟨.inr E,Y⟩) E E ?_
  refine Ah 55 E ?_
  refine oO ?_
  refine Am 4 [Aa 0,Aa 0,Aa 0,A9 0,A9 0,Aa 0,.sl 1 Al []] E vL ?_
  exact dN
 have h1:at_<l.length:=qB h
 clear h
 have hk:at_.toNat<l.length:=by omega
 have hne:l≠[]:=fun e=>by rw[e]at hk;simp at hk
 have hkk:((at_.toNat:Nat):Int)=at_:=by omega
 rw[if_neg q_,List.getElem?_eq_getElem hk,Option.getD_some]at hres
 obtain ⟨q,hq⟩:∃ q,l[at_.toNat]'hk=q:=⟨_,rfl⟩
 rw[hq]at hres
 have hqb:=hb q (by rw[← hq];exact List.getElem_mem hk)
 refine G_dat 0 90 E hne ?_
 intro B off cap hcap
 refine run Γ hm 3 ?_
 conv=>whnf
 refine Bm (Ww 90 (.inl E) E E) z_ E ?_
 refine oD ?_
 refine⟨E,h0,hk,?_⟩
 rw[hq]
 conv=>whnf
 refine cD (Aed q hqb) F113 ?_
 refine oD ?_
 refine Bm (Aa5 (hi:=at_.toNat) Γ.toTy E E E E (congrArg (fun z=>SV.val (.int .i64 z)) hkk.symm) (congrArg (fun z=>SV.val (.int .i64 z)) hkk.symm) q_) z_ E ?_
 refine Bm (Ww 90 (.inl E) E E) z_ E ?_
 refine oD ?_
 refine iW ?_
 refine Bm (Cs (lo:=at_.toNat+1) (hi:=l.length) Γ.toTy E E E E (.inr ⟨_,_,E,congrArg (fun z=>SV.val (.int .i64 z)) q_⟩) (.inl ⟨E,E⟩) q_ (Nat.le_refl _)) z_ E ?_
 have hll:((l.take l.length).drop (at_.toNat+1)).length=l.length-(at_.toNat+1):=by rw[List.length_drop,List.length_take];omega
 refine Bm (Aba Γ.toTy 90 E E E E E E (Nat.le_of_lt hk) E (by rw[hll];omega) (by rw[hll];omega)) z_ E ?_
 have he:l.take at_.toNat++(l.take l.length).drop (at_.toNat+1)=l.eraseIdx at_.toNat:=by rw[List.take_length,List.eraseIdx_eq_take_drop_succ]
 have hel:(l.take at_.toNat++(l.take l.length).drop (at_.toNat+1)).length<1000000:=by rw[he,List.length_eraseIdx];split<;>omega
 have heb:O7 (l.take at_.toNat++(l.take l.length).drop (at_.toNat+1)):=by rw[he];exact fun x hx=>hb x (List.mem_of_mem_eraseIdx hx)
 refine oD ?_
 refine Bm (Ad [(0,55)] E F112 (Aut _ hel heb) E Y E ⟨.inr E,Y⟩) z_ E ?_
 refine oD ?_
 refine kW ?_
 refine Ah 55 E ?_
 refine Ap E (.cons (.cell E E E E) (.cons .tmp (.cons .tmp .nil))) ?_ E
 subst hres
 show SV.tup [_,.sl 7 Bo (l.eraseIdx at_.toNat),_]=SV.tup [_,.sl 7 Bo (l.take at_.toNat++(l.take l.length).drop (at_.toNat+1)),_]
 rw[he]
 rfl
def E0 {α:Type} (q:α→Bool) (l:List α):Nat→Nat
 | 0=>0
 | j+1=>match l[j]? with
  | some x=>if q x=true then E0 q l j+1 else E0 q l j
  | none=>E0 q l j
def dfC {α:Type} (q:α→Bool) (l:List α):Nat→List α
 | 0=>l
 | j+1=>match l[j]? with
  | some x=>if q x=true then (dfC q l j).set (E0 q l j) x else dfC q l j
  | none=>dfC q l j
theorem Xy {α:Type} (q:α→Bool) (l:List α) (j:Nat):E0 q l j≤j:=by
 induction j with
 | zero=>exact Nat.le_refl _
 | succ j ih =>
  simp only[E0]
  split
  ·split<;>omega
  ·omega
theorem S4 {α:Type} (q:α→Bool) (l:List α) (j:Nat):(dfC q l j).length=l.length:=by
 induction j with
 | zero=>rfl
 | succ j ih =>
  simp only[dfC]
  split
  ·split
   ·rw[List.length_set];exact ih
   ·exact ih
  ·exact ih
theorem Al6 {α:Type} (q:α→Bool) (l:List α) (j k:Nat) (h:j≤k):(dfC q l j)[k]? = l[k]?:=by
 induction j with
 | zero=>rfl
 | succ j ih =>
  simp only[dfC]
  split
  ·split
   ·rw[List.getElem?_set_ne (by have:=Xy q l j;omega)];exact ih q_
   ·exact ih q_
  ·exact ih q_
theorem Ahf {α:Type} (q:α→Bool) (l:List α) (j:Nat) (h:j≤l.length):(dfC q l j).take (E0 q l j)=(l.take j).filter q:=by
 induction j with
 | zero=>rfl
 | succ j ih =>
  have hj:j<l.length:=by omega
  have ih:=ih q_
  have hc:=Xy q l j
  simp only[dfC,E0,List.getElem?_eq_getElem hj]
  rw[List.take_add_one,List.getElem?_eq_getElem hj,List.filter_append]
  by_cases hq:q l[j]=true
  ·rw[if_pos hq,if_pos hq]
   have hlt:E0 q l j<((dfC q l j).set (E0 q l j) l[j]).length:=by rw[List.length_set,S4];omega
   rw[List.take_add_one,List.getElem?_eq_getElem hlt,List.getElem_set_self]
   rw[List.take_set_of_le (Nat.le_refl _),ih]
   simp[hq]
  ·rw[if_neg hq,if_neg hq,ih]
   simp[hq]
theorem Acm {α:Type} (q:α→Bool) (l:List α) (i:Nat) (hi:i≤l.length) (h:∀ k (hk:k<l.length),k<i→q l[k]=true):dfC q l i=l∧E0 q l i=i:=by
 induction i with
 | zero=>exact⟨rfl,rfl⟩
 | succ i ih =>
  obtain ⟨h1,h2⟩:=ih q_ (fun k hk hki=>h k hk q_)
  have hil:i<l.length:=by omega
  simp only[dfC,E0,List.getElem?_eq_getElem hil]
  rw[if_pos (h i hil q_),if_pos (h i hil q_),h1,h2]
  exact⟨List.set_getElem_self hil,E⟩
theorem Ma {α:Type} (p:α→Bool) (l:List α):(B9 p l=-1∧∀ x∈l,p x=false)∨∃ (i:Nat) (hi:i<l.length),B9 p l=i∧p l[i]=true∧∀ k (hk:k<l.length),k<i→p l[k]=false:=by
 unfold B9
 cases h:l.findIdx? p with
 | none=>exact .inl ⟨rfl,by simpa using h⟩
 | some i =>
  rw[List.findIdx?_eq_some_iff_getElem]at h
  obtain ⟨hi,h1,h2⟩:=h
  exact .inr ⟨i,hi,E,h1,fun k hk hki=>by simpa using h2 k hki⟩
theorem O1 (l:List EntryM) (hl:l.length<2147483648):Sy.Spec Tryz.prog 174 [.sl 3 Ay l] [] (.osl 0) [(0,.row 3 Ay l)]:=cT F174 Tryz.ntmps174 fun F hF=>by
 conv=>whnf
 refine C3 E (.inl E) E E E .sl E E ?_
 intro b hb
 cases b
 ·refine oF ?_
  refine Af (Ag Γ.toTy 7 E E E E E (.lit (e:=Ay) (l:=[]) E E) .sl y_ (by simp;omega) (by simp;omega)) E E ?_
  refine oO ?_
  exact done E (.cons .tmp .nil) [(0,7)] [(0,.row 3 Ay l)] (fun _ h=>h) E E ⟨Y,⟨.inl E,E,Y⟩,E,E⟩
 ·have h0:l=[]:=List.eq_nil_of_length_eq_zero (hb rfl)
  subst h0
  refine oT ?_
  refine Cc 2 1000 3 Ay E E ?_
  exact done E (.cons .tmp .nil) [(0,1000)] [(0,.row 3 Ay [])] (fun _ h=>h) E E ⟨Y,⟨.inl E,E,Y⟩,E,E⟩
theorem Lg (l:List EntryM) (p:EntryM→Bool) (f:FuncId) (first cap:List SV) (hc:(SV.clo (.func f) first cap).inn []=true) (hf:∀ x∈l,Ek Tryz.prog f (first++[Ay x]++cap) (Ab (p x))) (hl:Ak l) :
  Sy.Spec Tryz.prog 240 [.sl 3 Ay l,.clo (.func f) first cap] [] (Aa (B9 p l)) []:=cT F240 Tryz.ntmps240 fun F hF=>by
 unfold Ak at hl
 have hin:∀ x:EntryM,By [] (first++[Ay x]++cap)=true:=fun x=>Cj hc rfl
 conv=>whnf
 refine Be l.length (fun j=>Hk (fun _ x=>!(p x)) l j) (fun j=>[(0,.sl 3 Ay l),(1,.clo (.func f) first cap),(7,Aa l.length),(8,Aa j)]) (fun _=>[]) [] (Bk _ _) ⟨⟨E,E,A5 _,hc,E,E,E,E,Y⟩,Y,E,E⟩ ?_
 intro j hj hI
 refine oO ?_
 refine⟨fun h=>?_,fun h=>?_⟩
 ·have h:=of_decide_eq_true h
  have hj2:j<l.length:=by omega
  refine oO ?_
  refine⟨E,by omega,by omega,?_⟩
  conv=>whnf
  refine Dq (hf l[j] (List.getElem_mem hj2)) E E E (by simp only[hin];rfl) E E ?_
  refine oO ?_
  refine⟨fun h2=>?_,fun h2=>?_⟩
  ·refine oO ?_
   refine Ap E (.cons .tmp .nil) (congrArg Aa ?_) E
   exact Cm hj2 (fun i hi hij=>by simpa using hI i hi hij) h2
  ·refine oO ?_
   refine iW ?_
   exact Bb [] hI hj2 (Bf hI hj2 (by simp[h2])) ⟨⟨E,E,A5 _,hc,E,E,E,E,Y⟩,Y,E,E⟩
 ·have h:=of_decide_eq_false h
  refine oO ?_
  refine Ap E (.cons .tmp .nil) (congrArg Aa ?_) E
  exact Cy (fun i hi=>by simpa using hI i hi q_)
theorem Uy (l:List EntryM) (p:EntryM→Bool) (f:FuncId) (first cap:List SV) (hc:(SV.clo (.func f) first cap).inn []=true) (hc0:(SV.clo (.func f) first cap).inn [0]=true) (hf:∀ x∈l,Ek Tryz.prog f (first++[Ay x]++cap) (Ab (p x))) (hl:Ak l) :
  Sy.Spec Tryz.prog 176 [.osl 0,.clo (.func f) first cap] [(0,.row 3 Ay l)] (.osl 1) [(0,.non),(1,.row 3 Ay (l.filter fun x=>!(p x)))]:=cT F176 Tryz.ntmps176 fun F hF=>by
 have qi:=Lg l p f first cap hc hf hl
 unfold Ak at hl
 have hin:∀ x:EntryM,By [] (first++[Ay x]++cap)=true:=fun x=>Cj hc rfl
 conv=>whnf
 refine Al7 [0] qi F240 E (.cons (.row E E) (.cons (.refl _) .nil)) (by simp only[By,hc,Bool.and_true];rfl) E E ?_
 rcases Ma p l with ⟨h1,h2⟩ | ⟨i,hi,h1,h2,h3⟩
 ·rw[h1]
  have e1:(l.filter fun x=>!(p x))=l:=List.filter_eq_self.2 (fun x hx=>by simp[h2 x hx])
  rw[e1]
  refine oT ?_
  refine Akx 0 1000 [0,4] E E j_ (by simp;exact⟨E,E⟩) ?_
  exact done E (.cons .tmp .nil) [(0,0),(1,1000)] _ (fun _ h=>h) E E ⟨Y,⟨.inl E,E,.inl E,E,Y⟩,E,E⟩
 obtain ⟨f1,f2⟩:=Acm (fun x=>!(p x)) l i q_ (fun k hk hki=>by simp[h3 k hk hki])
 have g1:dfC (fun x=>!(p x)) l (i+1+0)=l:=by
  show dfC (fun x=>!(p x)) l (i+1)=l
  simp only[dfC,List.getElem?_eq_getElem hi]
  rw[if_neg (by simp[h2]),f1]
 have g2:E0 (fun x=>!(p x)) l (i+1+0)=i:=by
  show E0 (fun x=>!(p x)) l (i+1)=i
  simp only[E0,List.getElem?_eq_getElem hi]
  rw[if_neg (by simp[h2]),f2]
 rw[h1]
 refine oF ?_
 refine iW ?_
 refine A3 (l.length-(i+1)) (fun j=>[(0,.osl 0),(1,.clo (.func f) first cap),(5,Aa (E0 (fun x=>!(p x)) l (i+1+j))),(6,Aa ((i+1+j:Nat)))]) (fun j=>[(0,.row 3 Ay (dfC (fun x=>!(p x)) l (i+1+j)))]) []
  ⟨⟨rfl,rfl,A5 _,hc0,congrArg Aa (congrArg Int.ofNat g2),rfl,congrArg (fun z=>SV.val (.int .i64 z)) q_,rfl,trivial⟩,⟨.inl (congrArg (Ob.row 3 Ay) g1),rfl,trivial⟩,rfl,rfl⟩ ?_
 intro j hj
 have hcl:=Xy (fun x=>!(p x)) l (i+1+j)
 have hdl:=S4 (fun x=>!(p x)) l (i+1+j)
 have hget:=Al6 (fun x=>!(p x)) l (i+1+j) (i+1+j) (Nat.le_refl _)
 have s1:∀ h:i+1+j<l.length,E0 (fun x=>!(p x)) l (i+1+(j+1))=if (!(p l[i+1+j]))=true then E0 (fun x=>!(p x)) l (i+1+j)+1 else E0 (fun x=>!(p x)) l (i+1+j):=fun hlt=>by
  show E0 (fun x=>!(p x)) l (i+1+j+1)=_
  simp only[E0,List.getElem?_eq_getElem hlt]
 have s2:∀ h:i+1+j<l.length,dfC (fun x=>!(p x)) l (i+1+(j+1))=if (!(p l[i+1+j]))=true then (dfC (fun x=>!(p x)) l (i+1+j)).set (E0 (fun x=>!(p x)) l (i+1+j)) l[i+1+j] else dfC (fun x=>!(p x)) l (i+1+j):=fun hlt=>by
  show dfC (fun x=>!(p x)) l (i+1+j+1)=_
  simp only[dfC,List.getElem?_eq_getElem hlt]
 have htk:=fun h=>Ahf (fun x=>!(p x)) l (i+1+j) h
 obtain ⟨D,hD⟩:∃ D,dfC (fun x=>!(p x)) l (i+1+j)=D:=⟨_,rfl⟩
 obtain ⟨K,hK⟩:∃ K,E0 (fun x=>!(p x)) l (i+1+j)=K:=⟨_,rfl⟩
 rw[hD]at hdl hget s2 htk ⊢
 rw[hK]at hcl s1 s2 htk ⊢
 refine oO ?_
 refine⟨fun h=>?_,fun h=>?_⟩
 ·have hlt:i+1+j<l.length:=qA h
  have hfx:=hf l[i+1+j] (List.getElem_mem hlt)
  have s1:=s1 hlt
  have s2:=s2 hlt
  rw[List.getElem?_eq_getElem hlt,List.getElem?_eq_getElem q_]at hget
  have hget:=Option.some.inj hget
  obtain ⟨x,hx⟩:∃ x,l[i+1+j]=x:=⟨_,rfl⟩
  rw[hx]at hfx s1 s2 hget
  refine oO ?_
  refine⟨by omega,by simp;omega,?_⟩
  conv=>whnf
  refine⟨E,by omega,?_⟩
  rw[show D[((i+1+j:Nat):Int).toNat]'q_=x from hget]
  conv=>whnf
  refine Dq hfx E E E (by simp only[hin];rfl) E E ?_
  cases hpx:p x
  ·rw[hpx]at s1 s2
   refine oT ?_
   refine⟨by omega,by simp;omega,?_⟩
   conv=>whnf
   refine⟨E,by omega,x,E,E,?_⟩
   conv=>whnf
   refine iW ?_
   refine iW ?_
   exact Av [] q_ ⟨⟨E,E,A5 _,hc0,congrArg Aa (congrArg Int.ofNat s1),E,congrArg (fun z=>SV.val (.int .i64 z)) q_,E,Y⟩,⟨.inl (congrArg (Ob.row 3 Ay) s2),E,Y⟩,E,E⟩
  ·rw[hpx]at s1 s2
   refine oF ?_
   refine iW ?_
   exact Av [] q_ ⟨⟨E,E,A5 _,hc0,congrArg Aa (congrArg Int.ofNat s1),E,congrArg (fun z=>SV.val (.int .i64 z)) q_,E,Y⟩,⟨.inl (congrArg (Ob.row 3 Ay) s2),E,Y⟩,E,E⟩
 ·have hend:i+1+j=l.length:=qB h
  have hne:D≠[]:=fun h=>by rw[h]at hdl;simp at hdl;omega
  have htk:=htk q_
  rw[show l.take (i+1+j)=l from List.take_of_length_le q_]at htk
  refine Amf 0 [0] E hne (by simp;rfl) ?_
  intro b cap' hcap
  refine oO ?_
  refine Af (C6 Γ.toTy E E E E (.inr ⟨_,_,E,E⟩) (.inl ⟨E,E⟩) q_ q_) E E ?_
  refine oO ?_
  refine Af (J5 Γ.toTy 0 (k:=K) E E E E j_ E E E q_ q_) E E ?_
  refine oO ?_
  refine Af (C6 Γ.toTy E E E E (.inl ⟨E,E⟩) (.inr ⟨_,_,E,E⟩) q_ q_) E E ?_
  refine oO ?_
  refine Xz 0 1000 [4] K E E (by rw[List.length_take];omega) (fun i hi=>?_) ?_
  ·rw[List.mem_singleton]at hi
   subst hi
   show SV.val (.slice (some (if cap'=0 then ⟨b,0,none⟩ else ⟨b,0 * 3,none⟩)) (K-0) (cap'-0))=_
   split<;>simp
  refine done E (.cons .tmp .nil) [(0,0),(1,1000)] _ (fun _ h=>h) E E ⟨Y,⟨.inl E,E,.inl ?_,E,Y⟩,E,E⟩
  rw[← htk]
  exact congrArg (Ob.row 3 Ay) (by rw[List.take_take,Nat.min_self])
theorem Abc (l:List EntryM) (i:Nat) (hi:i<l.length) (_hl:Ak l) :
  Sy.Spec Tryz.prog 282 [.osl 0,Aa i,Aa ((i+1:Nat):Int)] [(0,.row 3 Ay l)] (.osl 1) [(0,.non),(1,.row 3 Ay (l.take i++l.drop (i+1)))]:=cT F282 Tryz.ntmps282 fun F hF=>by
 have hne:l≠[]:=fun h=>by rw[h]at hi;simp at hi
 refine fW ?_
 refine Amf 0 [0,8] E hne (by simp;exact⟨E,E⟩) ?_
 intro b cap hcap
 refine fU ?_
 refine Af (Aa4 Γ.toTy E E E E E E E q_ q_ hcap) E E ?_
 refine fU ?_
 refine⟨fun h=>absurd h (by simp;omega),fun _=>?_⟩
 refine fU ?_
 refine Bm (C6 Γ.toTy E E E E (.inl ⟨E,E⟩) (.inr ⟨_,_,E,E⟩) q_ q_) z_ E ?_
 refine fU ?_
 refine Bm (C6 (hi:=l.length) Γ.toTy E E E E (.inr ⟨_,_,E,E⟩) (.inl ⟨E,E⟩) q_ q_) z_ E ?_
 refine fU ?_
 have hif:(if cap=0 then (⟨b,0,none⟩:Addr) else ⟨b,0 * 3,none⟩)=⟨b,0,none⟩:=by split<;>simp
 refine Bm (Xo Γ.toTy 0 (n:=l.length) (i:=i) (j:=i+1) E E E (congrArg (fun z=>SV.val (.slice (some z) i cap)) hif) E E E E q_ q_) z_ E ?_
 refine fU ?_
 refine⟨z_,?_⟩
 refine fW ?_
 refine Af (C6 (lo:=i+(l.length-(i+1))) (hi:=l.length) Γ.toTy E E E E (.inr ⟨_,_,E,E⟩) (.inr ⟨_,_,E,E⟩) q_ q_) E E ?_
 refine fU ?_
 have hll:(l.take i++l.drop (i+1)).length=i+(l.length-(i+1)):=by rw[List.length_append,List.length_take,List.length_drop];omega
 refine Af (J5 Γ.toTy 0 (k:=i+(l.length-(i+1))) E E E E j_ E E E q_ q_) E E ?_
 refine fU ?_
 refine Xz 0 1000 [6] (i+(l.length-(i+1))) E E (by rw[List.length_take];omega) (by simp;rfl) ?_
 refine done E (.cons .tmp .nil) [(0,0),(1,1000)] _ (fun _ h=>h) E E ⟨Y,⟨.inl E,E,.inl ?_,E,Y⟩,E,E⟩
 exact congrArg (Ob.row 3 Ay) (by rw[List.take_take,Nat.min_self];exact(List.take_of_length_le q_).symm)
theorem We (m:Nat) (h:m<18446744073709551616):Sy.Spec Tryz.prog 226 [A9 m] [] (Ab (Ip m)) []:=cT F226 Tryz.ntmps226 fun F hF=>by
 have q:=Jy m h
 refine fW ?_
 refine⟨fun h1=>?_,fun h1=>?_⟩
 ·have h2:m≤281474976710655:=by simp at h1;omega
  refine fU ?_
  refine c0 q F158 ?_
  refine fU ?_
  exact Ap E (.cons .tmp .nil) (congrArg Ab (by rw[Ip,decide_eq_true h2,Bool.true_and])) E
 ·have h2:¬ m≤281474976710655:=by simp at h1;omega
  refine fU ?_
  exact Ap E (.cons .tmp .nil) (congrArg Ab (by rw[Ip,decide_eq_false h2,Bool.false_and])) E
theorem Sl (i:Int):Sy.Spec Tryz.prog 175 [Aa i] [] (Ab (Ht i)) []:=cT F175 Tryz.ntmps175 fun F hF=>by
 conv=>whnf
 (repeat' (first | (refine⟨fun h=>?_,fun h=>?_⟩<;>(repeat (first | simp only[decide_eq_true_eq]at h | simp only[decide_eq_false_iff_not]at h))<;>((refine oO ?_))) | (refine Ap rfl (.cons .tmp .nil) ?_ rfl)))
 all_goals (refine congrArg Ab ?_)
 all_goals grind [Ht]
theorem Amq (m:Nat) (e:EntryM):Sy.Spec Tryz.prog 280 [Ay e,.ref 1 (A9 m) 0] [] (Ab (decide (e.mac=m))) []:=cT F280 Tryz.ntmps280 fun F hF=>by
 conv=>whnf
 refine Ap E (.cons .tmp .nil) ?_ E
 refine congrArg Ab ?_
 rw[Bool.eq_iff_iff];simp;omega
theorem Vo (t:List EntryM) (m:Nat) (hl:Ak t):Sy.Spec Tryz.prog 227 [.sl 3 Ay t,A9 m] [] (Aa (Et t m)) []:=cT F227 Tryz.ntmps227 fun F hF=>by
 have q:=Lg t (fun e=>decide (e.mac=m)) 280 [] [.ref 1 (A9 m) 0] rfl (fun x _=>⟨⟨_,_,F280⟩,Amq m x⟩) hl
 conv=>whnf
 refine Aw 3 1 (A9 m) E E E ?_
 refine oO ?_
 refine c0 q F240 ?_
 refine oO ?_
 exact dN
theorem Apu (t:List EntryM) (m:Nat) (hl:Ak t):Sy.Spec Tryz.prog 287 [.sl 3 Ay t,A9 m] [] (.tup [Aa (findE t m).1,Ab (findE t m).2]) []:=cT F287 Tryz.ntmps287 fun F hF=>by
 have q:=Vo t m hl
 have hlt:Et t m<t.length:=Em _ _
 have hres:=findE.eq_1 t m
 generalize findE t m=res at *
 generalize Et t m=i at *
 conv=>whnf
 refine c0 q F227 ?_
 refine oO ?_
 refine⟨fun h=>?_,fun h=>?_⟩
 ·rw[if_pos (by simpa using h)]at hres
  subst hres
  refine oO ?_
  exact dN
 ·have h0:¬ i<0:=by simpa using h
  have hi:i.toNat<t.length:=by omega
  rw[if_neg h0,List.getElem?_eq_getElem hi]at hres
  subst hres
  refine oO ?_
  refine⟨E,by omega,by omega,?_⟩
  conv=>whnf
  exact dN
theorem Vn (t:List EntryM) (hl:Ak t) (hmac:∀ e∈t,e.mac<18446744073709551616):Sy.Spec Tryz.prog 162 [.sl 3 Ay t] [] (Ab (tableB t)) []:=cT F162 Tryz.ntmps162 fun F hF=>by
 unfold Ak at hl
 have hres:=tableB.eq_1 t
 generalize tableB t=res at *
 conv=>whnf
 refine⟨fun h=>?_,fun h=>?_⟩
 ·have h8:¬ t.length≤8:=by simp at h;omega
  rw[decide_eq_false h8,Bool.false_and]at hres
  subst hres
  refine oO ?_
  exact dN
 have h8:t.length≤8:=by simp at h;omega
 rw[decide_eq_true h8,Bool.true_and]at hres
 refine oO ?_
 refine Be t.length (fun j=>Hk (V7 t) t j) (fun j=>[(0,.sl 3 Ay t),(8,.sl 3 Ay t),(9,Aa t.length),(10,Aa j)]) (fun _=>[]) [] (Bk _ _) ⟨⟨E,E,E,E,E,E,E,E,Y⟩,Y,E,E⟩ ?_
 intro j hj hI
 refine oO ?_
 refine⟨fun h=>?_,fun h=>?_⟩
 ·have hlt:j<t.length:=qA h
  have q1:=We t[j].mac (hmac _ (List.getElem_mem hlt))
  have q2:=Sl t[j].seen
  have q3:=Vo t t[j].mac hl
  have hent:V7 t j t[j]=(Ip t[j].mac && Ht t[j].seen && decide (Et t t[j].mac=j)):=rfl
  have hbad:V7 t j t[j]=false→res=false:=fun hf=>by rw[hres];exact Ch hlt hf
  have hgood:V7 t j t[j]=true→Hk (V7 t) t (j+1):=fun ht=>Bf hI hlt ht
  refine oO ?_
  refine⟨E,by omega,by omega,?_⟩
  rw[show t[((j:Nat):Int).toNat]'q_=t[j] from rfl]
  generalize t[j]=x at *
  conv=>whnf
  refine c0 q1 F226 ?_
  cases h1:Ip x.mac
  ·rw[hbad (by rw[hent,h1];rfl)]
   (refine oT ?_;refine bT ?_;refine bT ?_)
   exact dN
  refine oF ?_
  refine c0 q2 F175 ?_
  cases h2:Ht x.seen
  ·rw[hbad (by rw[hent,h1,h2];rfl)]
   (refine oT ?_;refine bT ?_)
   exact dN
  refine oF ?_
  refine c0 q3 F227 ?_
  refine oO ?_
  refine⟨fun h3=>?_,fun h3=>?_⟩
  ·rw[hbad (by rw[hent,h1,h2,decide_eq_false (by simpa using h3)];rfl)]
   refine oO ?_
   exact dN
  ·have h4:=hgood (by rw[hent,h1,h2,decide_eq_true (by simpa using h3)];rfl)
   refine oO ?_
   refine iW ?_
   exact Bb [] hI q_ h4 ⟨⟨E,E,E,E,E,E,E,E,Y⟩,Y,E,E⟩
 ·have hend:j=t.length:=qB h
  subst hend
  rw[hres.trans (Dy hI (Nat.le_refl _))]
  refine oO ?_
  exact dN
theorem Atf (now:Int) (hn:Ht now=true) (e:EntryM):Sy.Spec Tryz.prog 177 [Ay e,.ref 1 (Aa now) 0] [] (Ab (decide (e.seen<now-4))) []:=cT F177 Tryz.ntmps177 fun F hF=>by
 have hn2:0≤now∧now≤1099511627776:=by simpa [Ht] using hn
 conv=>whnf
 refine iW ?_
 exact dN
theorem Ate (t:List EntryM) (now:Int) (hl:Ak t) (hmac:∀ e∈t,e.mac<18446744073709551616):Sy.Spec Tryz.prog 111 [.sl 3 Ay t,Aa now] [] (.sl 3 Ay (ageT t now)) []:=cT F111 Tryz.ntmps111 fun F hF=>by
 have hl2:=hl
 unfold Ak at hl2
 have hres:=ageT.eq_1 t now
 generalize ageT t now=res at *
 have q1:=Vn t hl hmac
 have q2:=Sl now
 conv=>whnf
 refine Af (Ad [(0,55)] E F174 (O1 t hl2) E Y E ⟨.inr E,Y⟩) E E ?_
 refine oO ?_
 refine c0 q1 F162 ?_
 cases h1:tableB t
 ·rw[if_pos (.inl h1)]at hres
  subst hres
  (refine oT ?_;refine bT ?_)
  refine Ah 55 E ?_
  exact dN
 refine oF ?_
 refine c0 q2 F175 ?_
 cases h2:Ht now
 ·rw[if_pos (.inr h2)]at hres
  subst hres
  refine oT ?_
  refine Ah 55 E ?_
  exact dN
 rw[if_neg (by simp[h1,h2])]at hres
 refine oF ?_
 refine Aw 3 1 (Aa now) E E E ?_
 refine oO ?_
 have q3:=Uy t (fun e=>decide (e.seen<now-4)) 177 [] [.ref 1 (Aa now) 0] rfl rfl (fun x _=>⟨⟨_,_,F177⟩,Atf now h2 x⟩) hl
 refine Af (Ad [(0,55),(1,56)] E F176 q3 E ⟨E,Y⟩ E ⟨.inl E,.inr E,Y⟩) E E ?_
 refine oO ?_
 refine Ah 56 E ?_
 refine Ap E (.cons .tmp .nil) ?_ E
 subst hres
 refine congrArg (SV.sl 3 Ay) (List.filter_congr fun e _=>?_)
 rw[Bool.eq_iff_iff];simp
theorem Yy (t:List EntryM) (j:Nat) (h:0<t.length) (hj:j≤t.length):oldestU t j<t.length:=by
 induction j with
 | zero=>exact h
 | succ j ih =>
  rw[oldestU]
  split
  ·omega
  ·exact ih q_
theorem Ah6 (t:List EntryM) (hl:Ak t) (h0:0<t.length):Sy.Spec Tryz.prog 281 [.sl 3 Ay t] [] (Aa (oldestU t t.length:Nat)) []:=cT F281 Tryz.ntmps281 fun F hF=>by
 unfold Ak at hl
 conv=>whnf
 refine A3 t.length (fun j=>[(0,.sl 3 Ay t),(3,Aa (oldestU t j:Nat)),(6,.sl 3 Ay t),(7,Aa t.length),(8,Aa j)]) (fun _=>[]) [] ⟨⟨E,E,E,E,E,E,E,E,E,E,Y⟩,Y,E,E⟩ ?_
 intro j hj
 refine oO ?_
 refine⟨fun h=>?_,fun h=>?_⟩
 ·have hlt:j<t.length:=qA h
  have hol:=Yy t j h0 q_
  have hs:=oldestU.eq_2 t j
  rw[List.getElem?_eq_getElem hlt,List.getElem?_eq_getElem hol]at hs
  obtain ⟨o,ho⟩:∃ o,oldestU t j=o:=⟨_,rfl⟩
  simp only[ho]at hs hol ⊢
  have hs2:oldestU t (j+1)=if t[j].seen<t[o].seen then j else o:=hs
  refine oO ?_
  refine⟨E,by omega,by omega,?_⟩
  rw[show t[((j:Nat):Int).toNat]'q_=t[j] from rfl]
  conv=>whnf
  refine⟨E,by omega,by omega,?_⟩
  rw[show t[((o:Nat):Int).toNat]'q_=t[o] from rfl]
  conv=>whnf
  refine kW ?_
  refine⟨fun h2=>?_,fun h2=>?_⟩
  ·rw[if_pos (of_decide_eq_true h2)]at hs2
   refine oO ?_
   refine iW ?_
   exact Av [] q_ ⟨⟨E,E,congrArg (fun z:Nat=>Aa z) hs2,E,E,E,E,E,E,E,Y⟩,Y,E,E⟩
  ·rw[if_neg (of_decide_eq_false h2)]at hs2
   refine oO ?_
   refine iW ?_
   exact Av [] q_ ⟨⟨E,E,congrArg (fun z:Nat=>Aa z) hs2,E,E,E,E,E,E,E,Y⟩,Y,E,E⟩
 ·have:j=t.length:=qB h
  subst this
  refine oO ?_
  exact dN
theorem Abm (t:List EntryM) (m:Nat) (wh now:Int) (hl:Ak t) (hmac:∀ e∈t,e.mac<18446744073709551616) (hm64:m<18446744073709551616) :
  Sy.Spec Tryz.prog 228 [.sl 3 Ay t,A9 m,Aa wh,Aa now] [] (.sl 3 Ay (learnT t m wh now)) []:=cT F228 Tryz.ntmps228 fun F hF=>by
 have hl2:=hl
 unfold Ak at hl2
 have hres:=learnT.eq_1 t m wh now
 generalize learnT t m wh now=res at *
 have q1:=Vn t hl hmac
 have q2:=We m hm64
 have q3:=Sl now
 have q4:=Vo t m hl
 conv=>whnf
 refine Af (Ad [(0,55)] E F174 (O1 t hl2) E Y E ⟨.inr E,Y⟩) E E ?_
 refine oO ?_
 refine c0 q1 F162 ?_
 cases h1:tableB t
 ·rw[if_pos (.inl h1)]at hres
  subst hres
  (refine oT ?_;refine bT ?_;refine bT ?_)
  refine Ah 55 E ?_
  exact dN
 refine oF ?_
 refine c0 q2 F226 ?_
 cases h2:Ip m
 ·rw[if_pos (.inr (.inl h2))]at hres
  subst hres
  (refine oT ?_;refine bT ?_)
  refine Ah 55 E ?_
  exact dN
 refine oF ?_
 refine c0 q3 F175 ?_
 cases h3:Ht now
 ·rw[if_pos (.inr (.inr h3))]at hres
  subst hres
  refine oT ?_
  refine Ah 55 E ?_
  exact dN
 rw[if_neg (by simp[h1,h2,h3])]at hres
 have ht8:t.length≤8:=by simp only[tableB,Bool.and_eq_true,decide_eq_true_eq]at h1;exact h1.1
 have hfound:∀ hi:0≤Et t m,∃ h:(Et t m).toNat<t.length,t[(Et t m).toNat].mac=m:=fun hi=>by
  rcases Ma (fun e=>decide (EntryM.mac e=m)) t with ⟨h,_⟩ | ⟨k,hk,h,h2,_⟩
  ·rw[Et,h]at hi
   exact absurd hi j_
  ·have e1:Et t m=k:=h
   simp only[e1,Int.toNat_natCast]
   exact⟨hk,of_decide_eq_true h2⟩
 generalize Et t m=i at *
 refine oF ?_
 refine c0 q4 F227 ?_
 refine oO ?_
 refine⟨fun h4=>?_,fun h4=>?_⟩
 ·have h5:0≤i:=by simpa using h4
  obtain ⟨hi,hmm⟩:=hfound h5
  rw[if_pos h5]at hres
  refine oO ?_
  have hne:t≠[]:=fun h=>by rw[h]at hi;simp at hi
  refine⟨h5,by omega,?_⟩
  conv=>whnf
  refine⟨hne,?_⟩
  conv=>whnf
  refine⟨E,hi,⟨t[i.toNat].mac,wh,t[i.toNat].seen⟩,E,E,?_⟩
  conv=>whnf
  refine⟨h5,by simp;omega,?_⟩
  conv=>whnf
  refine⟨by simp;exact hne,?_⟩
  conv=>whnf
  refine⟨E,by simp;omega,⟨t[i.toNat].mac,wh,now⟩,by rw[List.getElem_set_self];rfl,by rw[List.getElem_set_self];rfl,?_⟩
  conv=>whnf
  refine Ah 55 E ?_
  refine oO ?_
  refine Ap E (.cons .tmp .nil) (congrArg (SV.sl 3 Ay) ?_) E
  rw[hres,List.set_set,hmm]
 ·have h5:¬ 0≤i:=by simp at h4 ⊢;omega
  rw[if_neg h5]at hres
  refine oO ?_
  refine⟨fun h6=>?_,fun h6=>?_⟩
  ·have h7:t.length=8:=by simp at h6;omega
   rw[if_pos h7]at hres
   have q5:=Ah6 t hl q_
   have hol:=Yy t t.length q_ (Nat.le_refl _)
   refine oO ?_
   refine Al7 [55] q5 F281 E (.cons (.row E E) .nil) E E E ?_
   generalize oldestU t t.length=o at *
   have q6:=Abc t o hol hl
   refine oO ?_
   refine iW ?_
   refine Af (Ad [(0,55),(1,56)] E F282 q6 E ⟨E,Y⟩ E ⟨.inl E,.inr E,Y⟩) E E ?_
   refine oO ?_
   refine Af (Ag Γ.toTy 60 rfl rfl rfl rfl rfl (.row rfl) (.lit (e:=Ay) (l:=[⟨m,wh,now⟩]) rfl rfl) (fun j hj=>by cases hj;decide) (by simp;omega) (by simp;omega)) rfl rfl ?_
   refine Ah 60 E ?_
   refine oO ?_
   refine Ap E (.cons .tmp .nil) (congrArg (SV.sl 3 Ay) ?_) E
   rw[hres,List.eraseIdx_eq_take_drop_succ]
  ·have h7:¬ t.length=8:=by simp at h6;omega
   rw[if_neg h7]at hres
   refine oO ?_
   refine Af (Ag Γ.toTy 60 rfl rfl rfl rfl rfl (.row rfl) (.lit (e:=Ay) (l:=[⟨m,wh,now⟩]) rfl rfl) (fun j hj=>by cases hj;decide) (by simp;omega) (by simp;omega)) rfl rfl ?_
   refine Ah 60 E ?_
   refine oO ?_
   exact Ap E (.cons .tmp .nil) (congrArg (SV.sl 3 Ay) hres) E
theorem Aef (l:List Int) (hl:l.length<2147483648):Sy.Spec Tryz.prog 103 [.sl 1 Aa l] [] (.osl 0) [(0,.row 1 Aa l)]:=cT F103 Tryz.ntmps103 fun F hF=>by
 conv=>whnf
 refine C3 E (.inl E) E E E .sl E E ?_
 intro b hb
 cases b
 ·refine oF ?_
  refine Af (Ag Γ.toTy 7 E E E E E (.lit (e:=Aa) (l:=[]) E E) .sl y_ (by simp;omega) (by simp;omega)) E E ?_
  refine oO ?_
  exact done E (.cons .tmp .nil) [(0,7)] [(0,.row 1 Aa l)] (fun _ h=>h) E E ⟨Y,⟨.inl E,E,Y⟩,E,E⟩
 ·have h0:l=[]:=List.eq_nil_of_length_eq_zero (hb rfl)
  subst h0
  refine oT ?_
  refine Cc 2 1000 1 Aa E E ?_
  exact done E (.cons .tmp .nil) [(0,1000)] [(0,.row 1 Aa [])] (fun _ h=>h) E E ⟨Y,⟨.inl E,E,Y⟩,E,E⟩
theorem Xq (l:List Int) (p:Int→Bool) (f:FuncId) (first cap:List SV) (hc:(SV.clo (.func f) first cap).inn []=true) (hc0:(SV.clo (.func f) first cap).inn [0]=true) (hf:∀ x∈l,Ek Tryz.prog f (first++[Aa x]++cap) (Ab (p x))) (hl:Ak l) :
  Sy.Spec Tryz.prog 279 [.osl 0,.clo (.func f) first cap] [(0,.row 1 Aa l)] (.osl 1) [(0,.non),(1,.row 1 Aa (l.filter fun x=>!(p x)))]:=cT F279 Tryz.ntmps279 fun F hF=>by
 have qi:=J2 l p f first cap hc hf hl
 unfold Ak at hl
 have hin:∀ x:Int,By [] (first++[Aa x]++cap)=true:=fun x=>Cj hc rfl
 conv=>whnf
 refine Al7 [0] qi F295 E (.cons (.row E E) (.cons (.refl _) .nil)) (by simp only[By,hc,Bool.and_true];rfl) E E ?_
 rcases Ma p l with ⟨h1,h2⟩ | ⟨i,hi,h1,h2,h3⟩
 ·rw[h1]
  have e1:(l.filter fun x=>!(p x))=l:=List.filter_eq_self.2 (fun x hx=>by simp[h2 x hx])
  rw[e1]
  refine oT ?_
  refine Akx 0 1000 [0,4] E E j_ (by simp;exact⟨E,E⟩) ?_
  exact done E (.cons .tmp .nil) [(0,0),(1,1000)] _ (fun _ h=>h) E E ⟨Y,⟨.inl E,E,.inl E,E,Y⟩,E,E⟩
 obtain ⟨f1,f2⟩:=Acm (fun x=>!(p x)) l i q_ (fun k hk hki=>by simp[h3 k hk hki])
 have g1:dfC (fun x=>!(p x)) l (i+1+0)=l:=by
  show dfC (fun x=>!(p x)) l (i+1)=l
  simp only[dfC,List.getElem?_eq_getElem hi]
  rw[if_neg (by simp[h2]),f1]
 have g2:E0 (fun x=>!(p x)) l (i+1+0)=i:=by
  show E0 (fun x=>!(p x)) l (i+1)=i
  simp only[E0,List.getElem?_eq_getElem hi]
  rw[if_neg (by simp[h2]),f2]
 rw[h1]
 refine oF ?_
 refine iW ?_
 refine A3 (l.length-(i+1)) (fun j=>[(0,.osl 0),(1,.clo (.func f) first cap),(5,Aa (E0 (fun x=>!(p x)) l (i+1+j))),(6,Aa ((i+1+j:Nat)))]) (fun j=>[(0,.row 1 Aa (dfC (fun x=>!(p x)) l (i+1+j)))]) []
  ⟨⟨rfl,rfl,A5 _,hc0,congrArg Aa (congrArg Int.ofNat g2),rfl,congrArg (fun z=>SV.val (.int .i64 z)) q_,rfl,trivial⟩,⟨.inl (congrArg (Ob.row 1 Aa) g1),rfl,trivial⟩,rfl,rfl⟩ ?_
 intro j hj
 have hcl:=Xy (fun x=>!(p x)) l (i+1+j)
 have hdl:=S4 (fun x=>!(p x)) l (i+1+j)
 have hget:=Al6 (fun x=>!(p x)) l (i+1+j) (i+1+j) (Nat.le_refl _)
 have s1:∀ h:i+1+j<l.length,E0 (fun x=>!(p x)) l (i+1+(j+1))=if (!(p l[i+1+j]))=true then E0 (fun x=>!(p x)) l (i+1+j)+1 else E0 (fun x=>!(p x)) l (i+1+j):=fun hlt=>by
  show E0 (fun x=>!(p x)) l (i+1+j+1)=_
  simp only[E0,List.getElem?_eq_getElem hlt]
 have s2:∀ h:i+1+j<l.length,dfC (fun x=>!(p x)) l (i+1+(j+1))=if (!(p l[i+1+j]))=true then (dfC (fun x=>!(p x)) l (i+1+j)).set (E0 (fun x=>!(p x)) l (i+1+j)) l[i+1+j] else dfC (fun x=>!(p x)) l (i+1+j):=fun hlt=>by
  show dfC (fun x=>!(p x)) l (i+1+j+1)=_
  simp only[dfC,List.getElem?_eq_getElem hlt]
 have htk:=fun h=>Ahf (fun x=>!(p x)) l (i+1+j) h
 obtain ⟨D,hD⟩:∃ D,dfC (fun x=>!(p x)) l (i+1+j)=D:=⟨_,rfl⟩
 obtain ⟨K,hK⟩:∃ K,E0 (fun x=>!(p x)) l (i+1+j)=K:=⟨_,rfl⟩
 rw[hD]at hdl hget s2 htk ⊢
 rw[hK]at hcl s1 s2 htk ⊢
 refine oO ?_
 refine⟨fun h=>?_,fun h=>?_⟩
 ·have hlt:i+1+j<l.length:=qA h
  have hfx:=hf l[i+1+j] (List.getElem_mem hlt)
  have s1:=s1 hlt
  have s2:=s2 hlt
  rw[List.getElem?_eq_getElem hlt,List.getElem?_eq_getElem q_]at hget
  have hget:=Option.some.inj hget
  obtain ⟨x,hx⟩:∃ x,l[i+1+j]=x:=⟨_,rfl⟩
  rw[hx]at hfx s1 s2 hget
  refine oO ?_
  refine⟨by omega,by simp;omega,?_⟩
  conv=>whnf
  refine⟨E,by omega,?_⟩
  rw[show D[((i+1+j:Nat):Int).toNat]'q_=x from hget]
  conv=>whnf
  refine Dq hfx E E E (by simp only[hin];rfl) E E ?_
  cases hpx:p x
  ·rw[hpx]at s1 s2
   refine oT ?_
   refine⟨by omega,by simp;omega,?_⟩
   conv=>whnf
   refine⟨E,by omega,x,E,E,?_⟩
   conv=>whnf
   refine iW ?_
   refine iW ?_
   exact Av [] q_ ⟨⟨E,E,A5 _,hc0,congrArg Aa (congrArg Int.ofNat s1),E,congrArg (fun z=>SV.val (.int .i64 z)) q_,E,Y⟩,⟨.inl (congrArg (Ob.row 1 Aa) s2),E,Y⟩,E,E⟩
  ·rw[hpx]at s1 s2
   refine oF ?_
   refine iW ?_
   exact Av [] q_ ⟨⟨E,E,A5 _,hc0,congrArg Aa (congrArg Int.ofNat s1),E,congrArg (fun z=>SV.val (.int .i64 z)) q_,E,Y⟩,⟨.inl (congrArg (Ob.row 1 Aa) s2),E,Y⟩,E,E⟩
 ·have hend:i+1+j=l.length:=qB h
  have hne:D≠[]:=fun h=>by rw[h]at hdl;simp at hdl;omega
  have htk:=htk q_
  rw[show l.take (i+1+j)=l from List.take_of_length_le q_]at htk
  refine Amf 0 [0] E hne (by simp;rfl) ?_
  intro b cap' hcap
  refine oO ?_
  refine Af (C6 Γ.toTy E E E E (.inr ⟨_,_,E,E⟩) (.inl ⟨E,E⟩) q_ q_) E E ?_
  refine oO ?_
  refine Af (J5 Γ.toTy 0 (k:=K) E E E E j_ E E E q_ q_) E E ?_
  refine oO ?_
  refine Af (C6 Γ.toTy E E E E (.inl ⟨E,E⟩) (.inr ⟨_,_,E,E⟩) q_ q_) E E ?_
  refine oO ?_
  refine Xz 0 1000 [4] K E E (by rw[List.length_take];omega) (fun i hi=>?_) ?_
  ·rw[List.mem_singleton]at hi
   subst hi
   show SV.val (.slice (some (if cap'=0 then ⟨b,0,none⟩ else ⟨b,0 * 1,none⟩)) (K-0) (cap'-0))=_
   split<;>simp
  refine done E (.cons .tmp .nil) [(0,0),(1,1000)] _ (fun _ h=>h) E E ⟨Y,⟨.inl E,E,.inl ?_,E,Y⟩,E,E⟩
  rw[← htk]
  exact congrArg (Ob.row 1 Aa) (by rw[List.take_take,Nat.min_self])
def Lu (n:Net) (fw:List Bool) (at_ from_:Int) (ml:List Int):SV :=
 .agg [.sl 5 Aq n.devices,.sl 7 Au n.ports,.sl 3 Bl n.links,.sl 6 An n.domains,.sl 4 As n.statics,.sl 4 A0 n.floods,.sl 5 Bv n.vrfs,.sl 5 Br n.irbs,.sl 1 Ab fw,Aa at_,Aa from_,.sl 1 Aa ml]
theorem As8 (n:Net) (fw:List Bool) (p:Int) (h0:0≤p) (hp:p<n.ports.length) (hl:(nth n.ports p).link<fw.length):Sy.Spec Tryz.prog 278 [Aj n,.sl 1 Ab fw,Aa p] [] (Ab (usableB n fw p)) []:=cT F278 Tryz.ntmps278 fun F hF=>by
 have hk:p.toNat<n.ports.length:=by omega
 have e1:nth n.ports p=n.ports[p.toNat]:=Ae hk
 have hu:=usableB.eq_1 n fw p
 generalize usableB n fw p=res at *
 rw[e1]at hu hl
 obtain ⟨q,hq⟩:∃ q,n.ports[p.toNat]'hk=q:=⟨_,rfl⟩
 rw[hq]at hu hl
 conv=>whnf
 refine⟨E,h0,hk,?_⟩
 rw[hq]
 conv=>whnf
 refine⟨fun h=>?_,fun h=>?_⟩
 ·rw[h,Bool.true_or]at hu
  subst hu
  refine oO ?_
  exact dN
 ·rw[h,Bool.false_or]at hu
  have h1:¬ q.link<0:=of_decide_eq_false h
  have h2:q.link.toNat<fw.length:=by omega
  rw[List.getElem?_eq_getElem h2]at hu
  refine oO ?_
  refine⟨E,by omega,h2,?_⟩
  conv=>whnf
  exact Ap E (.cons .tmp .nil) (congrArg Ab hu) E
theorem portsC (n:Net) (fw:List Bool) (at_ from_:Int) (ml:List Int) (p:Int) (h0:0≤p) (hp:p<n.ports.length) (hl:(nth n.ports p).link<fw.length) :
  Sy.Spec Tryz.prog 277 [Aa p,.ref 1 (.ref 12 (Lu n fw at_ from_ ml) 0) 0] [] (Ab (decide (p=from_) || !(usableB n fw p))) []:=cT F277 Tryz.ntmps277 fun F hF=>by
 have q:=As8 n fw p h0 hp hl
 conv=>whnf
 refine⟨fun h=>?_,fun h=>?_⟩
 ·have h1:p=from_:=by simpa using h
  refine oD ?_
  refine kW ?_
  exact Ap E (.cons .tmp .nil) (congrArg Ab (by rw[decide_eq_true h1,Bool.true_or])) E
 ·have h1:¬ p=from_:=by simpa using h
  refine oD ?_
  refine cD q F278 ?_
  refine oD ?_
  refine kW ?_
  exact Ap E (.cons .tmp .nil) (congrArg Ab (by rw[decide_eq_false h1,Bool.false_or])) E
def Amd (n:Net) (fw:List Bool) (l:List Int):Prop:=∀ p∈l,0≤p∧p<n.ports.length∧(nth n.ports p).link<fw.length
theorem Ai3 (n:Net) (fw:List Bool) (at_ from_:Int) (ml l:List Int) (hl:Ak l) (hp:Amd n fw l) :
  Sy.Spec Tryz.prog 224 [.ref 12 (Lu n fw at_ from_ ml) 0,.sl 1 Aa l] [] (.sl 1 Aa (D9 n fw from_ l)) []:=cT F224 Tryz.ntmps224 fun F hF=>by
 have q:=Xq l (fun p=>decide (p=from_) || !(usableB n fw p)) 277 [] [.ref 1 (.ref 12 (Lu n fw at_ from_ ml) 0) 0] rfl rfl (fun p h=>⟨⟨_,_,F277⟩,portsC n fw at_ from_ ml p (hp p h).1 (hp p h).2.1 (hp p h).2.2⟩) hl
 unfold Ak at hl
 conv=>whnf
 refine Aw 2 1 (.ref 12 (Lu n fw at_ from_ ml) 0) E E E ?_
 refine oO ?_
 refine Af (Ad [(0,55)] E F103 (Aef l hl) E Y E ⟨.inr E,Y⟩) E E ?_
 refine oO ?_
 refine Af (Ad [(0,55),(1,56)] E F279 q E ⟨E,Y⟩ E ⟨.inl E,.inr E,Y⟩) E E ?_
 refine oO ?_
 refine Ah 56 E ?_
 exact dN
theorem Alj (n:Net) (hn:n.Fin) (fw:List Bool) (dom from_:Int) (ml:List Int) (hd:Ai dom n.domains.length=true) :
  Sy.Spec Tryz.prog 225 [.ref 12 (Lu n fw dom from_ ml) 0] [] (.sl 1 Aa (peersOut n dom from_)) []:=cT F225 Tryz.ntmps225 fun F hF=>by
 have hdi:=B8 hd
 have hd0:0≤dom:=hdi.1
 have hkd:dom.toNat<n.domains.length:=by omega
 have e2:nth n.domains dom=n.domains[dom.toNat]:=Ae hkd
 have hpe:=hn.peers _ (List.getElem_mem hkd)
 have hres:=peersOut.eq_1 n dom from_
 generalize peersOut n dom from_=res at *
 rw[e2]at hres
 obtain ⟨d,hdd⟩:∃ d,n.domains[dom.toNat]'hkd=d:=⟨_,rfl⟩
 rw[hdd]at hres hpe
 have qc:=Dj d.peers hpe
 conv=>whnf
 refine⟨fun h=>?_,fun h=>?_⟩
 ·rw[if_pos (by simpa using h)]at hres
  subst hres
  refine oO ?_
  refine Ao 2 1 Aa E ?_
  exact dN
 ·rw[if_neg (by simpa using h)]at hres
  subst hres
  refine oO ?_
  refine⟨E,hd0,hkd,?_⟩
  rw[hdd]
  conv=>whnf
  refine cD qc F103 ?_
  refine oD ?_
  refine kW ?_
  exact dN
def O2 (n:Net) (fw:List Bool) (dom:Int):Bool:=Ai dom n.domains.length && decide (fw.length=n.links.length) && Ac n
theorem Alc (n:Net) (hn:n.Fin) (fw:List Bool) (dom from_:Int) (h:O2 n fw dom=false) :
  Sy.Spec Tryz.prog 223 [Aj n,.sl 1 Ab fw,Aa dom,Aa from_] [] (.tup [.val (.pointer none),Ab false]) []:=cT F223 Tryz.ntmps223 fun F hF=>by
 have qr:=At n hn
 conv=>whnf
 refine⟨fun h1=>?_,fun h1=>?_⟩
 ·(refine oT ?_;refine bT ?_;refine bT ?_)
  exact dN
 refine oO ?_
 refine⟨fun h2=>?_,fun h2=>?_⟩
 ·(refine oT ?_;refine bT ?_)
  exact dN
 refine oO ?_
 refine⟨fun h3=>?_,fun h3=>?_⟩
 ·refine oT ?_
  exact dN
 refine oO ?_
 refine c0 qr F12 ?_
 cases hbn:Ac n
 ·refine oT ?_
  exact dN
 ·exfalso
  have h4:Ai dom n.domains.length=true:=Kg ⟨by simp at h1;omega,by simp at h2;omega⟩
  have h5:fw.length=n.links.length:=by simp at h3;omega
  simp[O2,h4,h5,hbn]at h
theorem Ap9 (n:Net) (hn:n.Fin) (fw:List Bool) (dom from_:Int) (h:O2 n fw dom=true) :
  Sy.Spec Tryz.prog 223 [Aj n,.sl 1 Ab fw,Aa dom,Aa from_] [] (.tup [.ref 12 (Lu n fw dom from_ (A6 n dom)) 0,Ab (decide (from_=-1) || decide (from_=-2) || inB (A6 n dom) from_)]) []:=cT F223 Tryz.ntmps223 fun F hF=>by
 have qr:=At n hn
 simp only[O2,Bool.and_eq_true,decide_eq_true_eq]at h
 obtain ⟨⟨hd,hfw⟩,hbn⟩:=h
 rw[hbn]at qr
 have hdi:=B8 hd
 have qm:=Kv n hn dom
 have qc:=C0 (A8 n dom) from_ (Hz n hn dom)
 have hmt:A8 n dom=A6 n dom:=by rw[A8,if_pos ⟨⟨hdi.1,hdi.2⟩,hbn⟩]
 rw[hmt]at qm qc
 generalize A6 n dom=ml at *
 conv=>whnf
 refine⟨fun h1=>absurd h1 (by simp;omega),fun _=>?_⟩
 refine oO ?_
 refine⟨fun h1=>absurd h1 (by simp;omega),fun _=>?_⟩
 refine oO ?_
 refine⟨fun h1=>absurd h1 (by simp;omega),fun _=>?_⟩
 refine oO ?_
 refine c0 qr F12 ?_
 refine oF ?_
 refine cD qm F15 ?_
 refine oD ?_
 refine kW ?_
 refine⟨fun h1=>?_,fun h1=>?_⟩
 ·have h2:from_=-1:=by simpa using h1
  refine Aw 41 12 (Lu n fw dom from_ ml) E E E ?_
  refine oT ?_
  exact Ap E (.cons .tmp (.cons .tmp .nil)) (congrArg (fun z=>SV.tup [_,Ab z]) (by simp[h2])) E
 have h2:¬ from_=-1:=by simpa using h1
 refine Aw 41 12 (Lu n fw dom from_ ml) E E E ?_
 refine oO ?_
 refine⟨fun h3=>?_,fun h3=>?_⟩
 ·have h4:from_=-2:=by simpa using h3
  refine oO ?_
  exact Ap E (.cons .tmp (.cons .tmp .nil)) (congrArg (fun z=>SV.tup [_,Ab z]) (by simp[h4])) E
 have h4:¬ from_=-2:=by simpa using h3
 refine oO ?_
 refine c0 qc F14 ?_
 refine oO ?_
 exact Ap E (.cons .tmp (.cons .tmp .nil)) (congrArg (fun z=>SV.tup [_,Ab z]) (by simp[h2,h4])) E
theorem Adi {n:Net} (hb:Ac n=true) {p:Int} (h0:0≤p) (hp:p<n.ports.length):(nth n.ports p).link<n.links.length:=by
 have hk:p.toNat<n.ports.length:=by omega
 have e1:nth n.ports p=n.ports[p.toNat]:=Ae hk
 rw[e1]
 by_cases hl:0≤n.ports[p.toNat].link
 ·have:=Ew hb hk hl
  omega
 ·omega
theorem Ys {n:Net} {fw:List Bool} (hb:Ac n=true) (hf:fw.length=n.links.length) {l:List Int} (h:∀ p∈l,0≤p∧p<n.ports.length):Amd n fw l:=fun p hp =>
 ⟨(h p hp).1,(h p hp).2,by rw[hf];exact Adi hb (h p hp).1 (h p hp).2⟩
theorem Ef {n:Net} {dom:Int}:∀ p∈A6 n dom,0≤p∧p<n.ports.length:=fun p hp=>by
 rw[A6,Lj]at hp
 exact⟨hp.1,hp.2.1⟩
theorem Kw {n:Net} (hn:n.Fin) (dom:Int):Ak (A6 n dom):=by
 have h1:=Ez (Mr n (nth n.domains dom)) n.ports.length
 have h2:=hn.ports
 unfold Ak at *
 rw[A6]
 omega
theorem M5 (n:Net) (fw:List Bool) (dom from_:Int):Mo n fw dom from_=(O2 n fw dom && (decide (from_=-1) || decide (from_=-2) || inB (A6 n dom) from_)):=rfl
theorem floodS (n:Net) (hn:n.Fin) (fw:List Bool) (dom from_:Int) :
  Sy.Spec Tryz.prog 161 [Aj n,.sl 1 Ab fw,Aa dom,Aa from_] [] (.tup [.sl 1 Aa (floodT n fw dom from_).1,.sl 1 Aa (floodT n fw dom from_).2.1,Aa (floodT n fw dom from_).2.2]) []:=cT F161 Tryz.ntmps161 fun F hF=>by
 have hres:=floodT.eq_1 n fw dom from_
 generalize floodT n fw dom from_=res at *
 rw[M5]at hres
 cases hbase:O2 n fw dom
 ·rw[hbase,Bool.false_and,if_pos rfl]at hres
  subst hres
  have q:=Alc n hn fw dom from_ hbase
  conv=>whnf
  refine c0 q F223 ?_
  refine oT ?_
  refine Ao 8 1 Aa E ?_
  refine Ao 9 1 Aa E ?_
  exact dN
 rw[hbase,Bool.true_and]at hres
 have q:=Ap9 n hn fw dom from_ hbase
 have hb2:=hbase
 simp only[O2,Bool.and_eq_true,decide_eq_true_eq]at hb2
 obtain ⟨⟨hd,hfw⟩,hbn⟩:=hb2
 have qp:=Ai3 n fw dom from_ (A6 n dom) (A6 n dom) (Kw hn dom) (Ys hbn hfw Ef)
 have qe:=Alj n hn fw dom from_ (A6 n dom) hd
 generalize (decide (from_=-1) || decide (from_=-2) || inB (A6 n dom) from_)=ok at *
 generalize A6 n dom=ml at *
 conv=>whnf
 refine c0 q F223 ?_
 cases ok
 ·rw[if_pos rfl]at hres
  subst hres
  refine oT ?_
  refine Ao 8 1 Aa E ?_
  refine Ao 9 1 Aa E ?_
  exact dN
 rw[if_neg j_]at hres
 subst hres
 refine oF ?_
 refine c0 qp F224 ?_
 refine oO ?_
 refine c0 qe F225 ?_
 refine oO ?_
 exact dN
theorem Uh (l:List Static) (p:Static→Bool) (f:FuncId) (first cap:List SV) (hc:(SV.clo (.func f) first cap).inn []=true) (hf:∀ x∈l,Ek Tryz.prog f (first++[As x]++cap) (Ab (p x))) (hl:Ak l) :
  Sy.Spec Tryz.prog 259 [.sl 4 As l,.clo (.func f) first cap] [] (Aa (B9 p l)) []:=cT F259 Tryz.ntmps259 fun F hF=>by
 unfold Ak at hl
 have hin:∀ x:Static,By [] (first++[As x]++cap)=true:=fun x=>Cj hc rfl
 conv=>whnf
 refine Be l.length (fun j=>Hk (fun _ x=>!(p x)) l j) (fun j=>[(0,.sl 4 As l),(1,.clo (.func f) first cap),(7,Aa l.length),(8,Aa j)]) (fun _=>[]) [] (Bk _ _) ⟨⟨E,E,A5 _,hc,E,E,E,E,Y⟩,Y,E,E⟩ ?_
 intro j hj hI
 refine oO ?_
 refine⟨fun h=>?_,fun h=>?_⟩
 ·have h:=of_decide_eq_true h
  have hj2:j<l.length:=by omega
  refine oO ?_
  refine⟨E,by omega,by omega,?_⟩
  conv=>whnf
  refine Dq (hf l[j] (List.getElem_mem hj2)) E E E (by simp only[hin];rfl) E E ?_
  refine oO ?_
  refine⟨fun h2=>?_,fun h2=>?_⟩
  ·refine oO ?_
   refine Ap E (.cons .tmp .nil) (congrArg Aa ?_) E
   exact Cm hj2 (fun i hi hij=>by simpa using hI i hi hij) h2
  ·refine oO ?_
   refine iW ?_
   exact Bb [] hI hj2 (Bf hI hj2 (by simp[h2])) ⟨⟨E,E,A5 _,hc,E,E,E,E,Y⟩,Y,E,E⟩
 ·have h:=of_decide_eq_false h
  refine oO ?_
  refine Ap E (.cons .tmp .nil) (congrArg Aa ?_) E
  exact Cy (fun i hi=>by simpa using hI i hi q_)
theorem entryC (dom:Int) (m:Nat) (s:Static):Sy.Spec Tryz.prog 260 [As s,.ref 1 (Aa dom) 0,.ref 1 (A9 m) 0] [] (Ab (decide (s.domain=dom) && decide (s.mac=(m:Int)))) []:=cT F260 Tryz.ntmps260 fun F hF=>by
 conv=>whnf
 refine⟨fun h=>?_,fun h=>?_⟩
 ·refine oO ?_
  refine Ap E (.cons .tmp .nil) (congrArg Ab ?_) E
  have h1:s.domain=dom:=by simpa using h
  rw[decide_eq_true h1,Bool.true_and,Bool.eq_iff_iff]
  simp
 ·refine oO ?_
  refine Ap E (.cons .tmp .nil) (congrArg Ab ?_) E
  have h1:¬ s.domain=dom:=by simpa using h
  rw[decide_eq_false h1,Bool.false_and]
theorem entryI (n:Net) (hn:n.Fin) (dom:Int) (m:Nat):Sy.Spec Tryz.prog 192 [Aj n,Aa dom,A9 m] [] (Aa (Dw n dom m)) []:=cT F192 Tryz.ntmps192 fun F hF=>by
 have q:=Uh n.statics (fun s:Static=>decide (s.domain=dom) && decide (s.mac=(m:Int))) 260 [] [.ref 1 (Aa dom) 0,.ref 1 (A9 m) 0] rfl (fun x _=>⟨⟨_,_,F260⟩,entryC dom m x⟩) hn.statics
 conv=>whnf
 refine Aw 4 1 (Aa dom) E E E ?_
 refine Aw 5 1 (A9 m) E E E ?_
 refine oO ?_
 refine c0 q F259 ?_
 refine oO ?_
 exact dN
def staticP (n:Net) (dom:Int) (m:Nat):Int:=if 0≤Dw n dom m then (nth n.statics (Dw n dom m)).port else -1
theorem Akg (n:Net) (hn:n.Fin) (hb:Ac n=true) (dom:Int) (m:Nat):Sy.Spec Tryz.prog 286 [Aj n,Aa dom,A9 m] [] (Aa (staticP n dom m)) []:=cT F286 Tryz.ntmps286 fun F hF=>by
 have q:=entryI n hn dom m
 have qr:=At n hn
 rw[hb]at qr
 have hlt:Dw n dom m<n.statics.length:=Em _ _
 have hres:=staticP.eq_1 n dom m
 generalize staticP n dom m=res at *
 generalize Dw n dom m=i at *
 conv=>whnf
 refine c0 q F192 ?_
 refine oO ?_
 refine⟨fun h=>?_,fun h=>?_⟩
 ·rw[if_neg (by simp at h;omega)]at hres
  subst hres
  refine oT ?_
  exact dN
 ·have h0:0≤i:=by simp at h;omega
  have hk:i.toNat<n.statics.length:=by omega
  have e1:nth n.statics i=n.statics[i.toNat]:=Ae hk
  rw[if_pos h0,e1]at hres
  refine oO ?_
  refine c0 qr F12 ?_
  refine oF ?_
  refine⟨E,h0,hk,?_⟩
  conv=>whnf
  exact Ap E (.cons .tmp .nil) (congrArg Aa hres) E
def knownT (n:Net) (fw:List Bool) (t:List EntryM) (dom from_:Int) (m:Nat):List Int × List Int × Bool :=
 if 0≤staticP n dom m then (D9 n fw from_ [staticP n dom m],[],true)
 else if (findE t m).2=false then ([],[],false)
 else if 0≤(findE t m).1∧inB (A6 n dom) (findE t m).1=true then (D9 n fw from_ [(findE t m).1],[],true)
 else if (findE t m).1<0∧inB (nth n.domains dom).peers (-1-(findE t m).1)=true then (if from_=-1 then ([],[],true) else ([],[-1-(findE t m).1],true))
 else ([],[],false)
theorem Wf {n:Net} (hb:Ac n=true) (dom:Int) (m:Nat) (h:0≤staticP n dom m):staticP n dom m<n.ports.length:=by
 unfold staticP at h ⊢
 split at h
 ·rename_i h0
  rw[if_pos h0]
  have hlt:Dw n dom m<n.statics.length:=Em _ _
  have hk:(Dw n dom m).toNat<n.statics.length:=by omega
  simp only[Ac,Bool.and_eq_true]at hb
  have:=allB_iff.1 hb.1.1.1.2 _ hk
  simp only[O9,Bool.and_eq_true,Ai,decide_eq_true_eq]at this
  rw[Ae hk]
  exact this.1.1.2.2
 ·omega
theorem knownS (n:Net) (hn:n.Fin) (fw:List Bool) (t:List EntryM) (dom from_:Int) (m:Nat) (hl:Ak t) (hw:I64 (-1-(findE t m).1)) (hbase:O2 n fw dom=true) :
  Sy.Spec Tryz.prog 231 [.ref 12 (Lu n fw dom from_ (A6 n dom)) 0,.sl 3 Ay t,A9 m] [] (.tup [.sl 1 Aa (knownT n fw t dom from_ m).1,.sl 1 Aa (knownT n fw t dom from_ m).2.1,Ab (knownT n fw t dom from_ m).2.2]) []:=cT F231 Tryz.ntmps231 fun F hF=>by
 simp only[O2,Bool.and_eq_true,decide_eq_true_eq]at hbase
 obtain ⟨⟨hd,hfw⟩,hbn⟩:=hbase
 have hdi:=B8 hd
 have hd0:0≤dom:=hdi.1
 have hkd:dom.toNat<n.domains.length:=by omega
 have e2:nth n.domains dom=n.domains[dom.toNat]:=Ae hkd
 have hpe:=hn.peers _ (List.getElem_mem hkd)
 have hres:=knownT.eq_1 n fw t dom from_ m
 have qs:=Akg n hn hbn dom m
 have hsp:=Wf hbn dom m
 have qf:=Apu t m hl
 have qp:∀ p:Int,0≤p→p<n.ports.length→_:=fun p h0 h1=>Ai3 n fw dom from_ (A6 n dom) [p] (by unfold Ak;simp) (Ys hbn hfw (l:=[p]) (fun x hx=>by rw[List.mem_singleton]at hx;subst hx;exact⟨h0,h1⟩))
 have hmem:∀ p,inB (A6 n dom) p=true→0≤p∧p<n.ports.length:=fun p hp=>Ef p (inB_mem.1 hp)
 have qc:=fun x=>C0 (A6 n dom) x (Kw hn dom)
 rw[e2]at hres
 obtain ⟨d,hdd⟩:∃ d,n.domains[dom.toNat]'hkd=d:=⟨_,rfl⟩
 rw[hdd]at hres hpe
 have qc2:=fun x=>C0 d.peers x hpe
 generalize knownT n fw t dom from_ m=res at *
 generalize staticP n dom m=sp at *
 generalize findE t m=fe at *
 obtain ⟨w,ok⟩:=fe
 dsimp only at hres hw qf
 generalize A6 n dom=ml at *
 conv=>whnf
 refine cD qs F286 ?_
 refine oD ?_
 refine kW ?_
 refine⟨fun h1=>?_,fun h1=>?_⟩
 ·have h2:0≤sp:=by simpa using h1
  rw[if_pos h2]at hres
  subst hres
  refine oO ?_
  refine I5 25 Aa [sp] E E ?_
  refine Ah 25 E ?_
  refine c0 (qp sp h2 (hsp h2)) F224 ?_
  refine oO ?_
  refine Ao 7 1 Aa E ?_
  exact dN
 have h2:¬ 0≤sp:=by simp at h1;omega
 rw[if_neg h2]at hres
 refine oO ?_
 refine c0 qf F287 ?_
 cases ok
 ·rw[if_pos rfl]at hres
  subst hres
  refine oT ?_
  refine Ao 6 1 Aa E ?_
  refine Ao 7 1 Aa E ?_
  exact dN
 rw[if_neg j_]at hres
 refine oF ?_
 refine⟨fun h3=>?_,fun h3=>?_⟩
 ·have h4:0≤w:=by simpa using h3
  refine oO ?_
  refine c0 (qc w) F14 ?_
  cases hin:inB ml w
  ·rw[if_neg (by simp[hin]),if_neg q_]at hres
   subst hres
   refine oF ?_
   refine⟨fun h5=>absurd h5 (by simp;omega),fun _=>?_⟩
   refine oD ?_
   refine⟨z_,?_⟩
   ((conv=>whnf);refine aF ?_;refine rg ?_;conv=>whnf)
   refine Ao 6 1 Aa E ?_
   refine Ao 7 1 Aa E ?_
   exact dN
  ·rw[if_pos ⟨h4,hin⟩]at hres
   subst hres
   refine oT ?_
   refine I5 49 Aa [w] E E ?_
   refine Ah 49 E ?_
   refine c0 (qp w h4 (hmem w hin).2) F224 ?_
   refine oO ?_
   refine Ao 7 1 Aa E ?_
   exact dN
 have h4:¬ 0≤w:=by simp at h3;omega
 rw[if_neg q_]at hres
 refine oF ?_
 refine⟨fun h5=>?_,fun h5=>absurd h5 (by simp;omega)⟩
 refine oD ?_
 refine⟨E,hd0,hkd,?_⟩
 rw[hdd]
 conv=>whnf
 refine⟨hw,?_⟩
 conv=>whnf
 refine cD (qc2 (-1-w)) F14 ?_
 cases hin:inB d.peers (-1-w)
 ·rw[if_neg (by simp[hin])]at hres
  subst hres
  refine oD ?_
  refine⟨z_,?_⟩
  ((conv=>whnf);refine aF ?_;refine rg ?_;conv=>whnf)
  refine Ao 6 1 Aa E ?_
  refine Ao 7 1 Aa E ?_
  exact dN
 rw[if_pos ⟨by omega,hin⟩]at hres
 refine oD ?_
 refine⟨z_,?_⟩
 ((conv=>whnf);refine aT ?_;refine rg ?_;conv=>whnf)
 refine⟨fun h6=>?_,fun h6=>?_⟩
 ·rw[if_pos (by simpa using h6)]at hres
  subst hres
  refine oO ?_
  refine Ao 6 1 Aa E ?_
  refine Ao 7 1 Aa E ?_
  exact dN
 ·rw[if_neg (by simpa using h6)]at hres
  subst hres
  refine oO ?_
  refine⟨hw,?_⟩
  conv=>whnf
  refine Ao 6 1 Aa E ?_
  refine I5 78 Aa [-1-w] E E ?_
  refine Ah 78 E ?_
  exact dN
theorem Ti {n:Net} (hb:Ac n=true) (dom:Int) (m:Nat):(0≤staticP n dom m↔0≤Dw n dom m)∧(0≤Dw n dom m→staticP n dom m=(nth n.statics (Dw n dom m)).port):=by
 refine⟨⟨fun h=>?_,fun h=>?_⟩,fun h=>by rw[staticP,if_pos h]⟩
 ·unfold staticP at h
  split at h
  ·assumption
  ·omega
 ·rw[staticP,if_pos h]
  have hlt:Dw n dom m<n.statics.length:=Em _ _
  have hk:(Dw n dom m).toNat<n.statics.length:=by omega
  simp only[Ac,Bool.and_eq_true]at hb
  have:=allB_iff.1 hb.1.1.1.2 _ hk
  simp only[O9,Bool.and_eq_true,Ai,decide_eq_true_eq]at this
  rw[Ae hk]
  exact this.1.1.2.1
theorem Aul {n:Net} {fw:List Bool} {t:List EntryM} {dom from_:Int} {m:Nat} (hb:Ac n=true) (hr:Mo n fw dom from_=true) (hg:Hh m=false) :
  Cz n fw t dom from_ m=if (knownT n fw t dom from_ m).2.2=true then ((knownT n fw t dom from_ m).1,(knownT n fw t dom from_ m).2.1,0) else (D9 n fw from_ (A6 n dom),peersOut n dom from_,0):=by
 obtain ⟨h1,h2⟩:=Ti hb dom m
 rw[Cz,if_neg (by rw[hr];decide),if_neg (by rw[hg];decide)]
 unfold knownT
 by_cases hs:0≤Dw n dom m
 ·rw[if_pos hs,if_pos (h1.2 hs),h2 hs];rfl
 rw[if_neg hs,if_neg (fun h=>hs (h1.1 h))]
 generalize findE t m=fe
 obtain ⟨w,ok⟩:=fe
 cases ok
 ·simp
 simp only[Bool.true_eq_false,if_false,true_and]
 by_cases ha:0≤w∧inB (A6 n dom) w=true
 ·rw[if_pos ha,if_pos ha];rfl
 rw[if_neg ha,if_neg ha]
 by_cases hc:w<0∧inB (nth n.domains dom).peers (-1-w)=true
 ·rw[if_pos hc,if_pos hc]
  split<;>rfl
 ·rw[if_neg hc,if_neg hc];rfl
theorem Aum (n:Net) (hn:n.Fin) (fw:List Bool) (t:List EntryM) (dom from_:Int) (m:Nat) (hl:Ak t) (hw:I64 (-1-(findE t m).1)) (hm64:m<18446744073709551616) :
  Sy.Spec Tryz.prog 167 [Aj n,.sl 1 Ab fw,.sl 3 Ay t,Aa dom,Aa from_,A9 m] [] (.tup [.sl 1 Aa (Cz n fw t dom from_ m).1,.sl 1 Aa (Cz n fw t dom from_ m).2.1,Aa (Cz n fw t dom from_ m).2.2]) []:=cT F167 Tryz.ntmps167 fun F hF=>by
 cases hbase:O2 n fw dom
 ·have hres:Cz n fw t dom from_ m=([],[],2):=by
   rw[Cz,if_pos (by rw[M5,hbase];rfl)]
  rw[hres]
  have q:=Alc n hn fw dom from_ hbase
  refine fW ?_
  refine c0 q F223 ?_
  refine fU ?_
  refine Ao 12 1 Aa E ?_
  refine Ao 13 1 Aa E ?_
  exact dN
 have q:=Ap9 n hn fw dom from_ hbase
 have qk:=knownS n hn fw t dom from_ m hl hw hbase
 have qg:=Jy m hm64
 have hb2:=hbase
 simp only[O2,Bool.and_eq_true,decide_eq_true_eq]at hb2
 obtain ⟨⟨hd,hfw⟩,hbn⟩:=hb2
 have qp:=Ai3 n fw dom from_ (A6 n dom) (A6 n dom) (Kw hn dom) (Ys hbn hfw Ef)
 have qe:=Alj n hn fw dom from_ (A6 n dom) hd
 have hroom:=M5 n fw dom from_
 rw[hbase,Bool.true_and]at hroom
 have hbad:Mo n fw dom from_=false→Cz n fw t dom from_ m=([],[],2):=fun h=>by rw[Cz,if_pos h]
 have hgrp:Mo n fw dom from_=true→Hh m=true→Cz n fw t dom from_ m=(D9 n fw from_ (A6 n dom),peersOut n dom from_,0):=fun h h2=>by
  rw[Cz,if_neg (by rw[h];decide),if_pos h2]
 have hkn:=fun h h2=>@Aul n fw t dom from_ m hbn h h2
 generalize Cz n fw t dom from_ m=res at *
 generalize knownT n fw t dom from_ m=kn at *
 obtain ⟨kp,ke,ko⟩:=kn
 generalize Mo n fw dom from_=rm at *
 generalize (decide (from_=-1) || decide (from_=-2) || inB (A6 n dom) from_)=ok at *
 subst hroom
 generalize A6 n dom=ml at *
 dsimp only at hkn qk
 refine fW ?_
 refine c0 q F223 ?_
 cases rm
 ·rw[hbad rfl]
  refine fU ?_
  refine Ao 12 1 Aa E ?_
  refine Ao 13 1 Aa E ?_
  exact dN
 refine fU ?_
 refine c0 qg F158 ?_
 cases hg:Hh m
 ·have hkn:=hkn rfl hg
  refine fU ?_
  refine c0 qk F231 ?_
  cases ko
  ·rw[if_neg j_]at hkn
   subst hkn
   refine fU ?_
   refine c0 qp F224 ?_
   refine fU ?_
   refine c0 qe F225 ?_
   refine fU ?_
   exact dN
  ·rw[if_pos rfl]at hkn
   subst hkn
   refine fU ?_
   exact dN
 ·rw[hgrp rfl hg]
  refine fU ?_
  refine c0 qp F224 ?_
  refine fU ?_
  refine c0 qe F225 ?_
  refine fU ?_
  exact dN
theorem Aei (t:List EntryM) (q:QueuedM) (now:Int) (ht:TabOK t) (hq:QueuedOK q):Sy.Spec Tryz.prog 163 [.sl 3 Ay t,Bo q,Aa now] [] (.sl 3 Ay (learnQ t q now)) []:=cT F163 Tryz.ntmps163 fun F hF=>by
 have hres:=learnQ.eq_1 t q now
 generalize learnQ t q now=res at *
 have hl:=ht.short
 have hl2:=hl
 unfold Ak at hl2
 have hs:=hq.frame.src
 have h1:=hq.peer
 conv=>whnf
 refine⟨fun h=>?_,fun h=>?_⟩
 ·rw[if_pos (by simpa using h)]at hres
  subst hres
  refine oO ?_
  refine Af (Ad [(0,55)] E F174 (O1 res hl2) E Y E ⟨.inr E,Y⟩) E E ?_
  refine Ah 55 E ?_
  refine oO ?_
  exact dN
 rw[if_neg (by simpa using h)]at hres
 clear h
 refine oO ?_
 refine⟨fun h=>?_,fun h=>?_⟩
 ·rw[if_pos (by simpa using h)]at hres
  subst hres
  refine oO ?_
  refine iW ?_
  refine c0 (Abm t q.frame.src (-1-q.peer) now hl ht.mac q_) F228 ?_
  refine oO ?_
  exact dN
 rw[if_neg (by simpa using h)]at hres
 subst hres
 refine oO ?_
 refine c0 (Abm t q.frame.src q.from_ now hl ht.mac q_) F228 ?_
 refine oO ?_
 exact dN
def Anp (k p d:Int):OutM:=⟨k,p,d,[],noF,0⟩
theorem Atz (k p d:Int) (b:List UInt8) (e:Int):Ua (Anp k p d) (b,e)=if e≠0 then ⟨5,p,d,[],noF,e⟩ else ⟨k,p,d,b,noF,0⟩:=rfl
theorem S6 (l:List OutM) (k p d:Int) (b:List UInt8) (e:Int) (hl:l.length<100000000000) :
  Sy.Spec Tryz.prog 166 [Eb (Anp k p d),.sl 1 Al b,Aa e,.ptr 0 0] [(0,.box [.osl 1]),(1,.row 9 Eb l)] (.tup []) [(0,.box [.osl 2]),(1,.non),(2,.row 9 Eb (l++[Ua (Anp k p d) (b,e)]))]:=cT F166 Tryz.ntmps166 fun F hF=>by
 have hres:=Atz k p d b e
 generalize Ua (Anp k p d) (b,e)=res at *
 conv=>whnf
 refine⟨fun h=>?_,fun h=>?_⟩
 ·rw[if_pos (by simpa using h)]at hres
  refine oO ?_
  refine Aen 17 [Eb ⟨5,p,d,[],noF,e⟩] E (.cons (.agg vL) .nil) E ?_
  refine Af (Ag Γ.toTy 18 E E E E E (.row E) (.lit (e:=Eb) (l:=[res]) E (by rw[hres];rfl)) j_ (by simp;omega) (by simp;omega)) E E ?_
  refine oO ?_
  exact A1 E .nil [(2,18)] [(0,.box [.osl 2]),(1,.non),(2,.row 9 Eb (l++[res]))] (fun _ h=>h) E E ⟨Y,⟨.inl E,E,.inl E,E,.inl E,E,Y⟩,E,E⟩
 ·rw[if_neg (by simpa using h)]at hres
  refine oO ?_
  refine Af (Ag Γ.toTy 18 E E E E E (.row E) (.lit (e:=Eb) (l:=[res]) E (by rw[hres];rfl)) j_ (by simp;omega) (by simp;omega)) E E ?_
  refine oO ?_
  exact A1 E .nil [(2,18)] [(0,.box [.osl 2]),(1,.non),(2,.row 9 Eb (l++[res]))] (fun _ h=>h) E E ⟨Y,⟨.inl E,E,.inl E,E,.inl E,E,Y⟩,E,E⟩
theorem Aud {t:List EntryM} (ht:TabOK t) (m:Nat):I64 (findE t m).1:=by
 unfold findE
 split
 ·unfold I64;dsimp only;omega
 ·rename_i h
  have hlt:Et t m<t.length:=Em _ _
  have hk:(Et t m).toNat<t.length:=by omega
  dsimp only
  rw[List.getElem?_eq_getElem hk]
  exact ht.wh _ (List.getElem_mem hk)
theorem Jf {n:Net} {fw:List Bool} {fr:Int} {l:List Int} {p:Int} (h:p∈D9 n fw fr l):p∈l:=(List.mem_filter.1 h).1
theorem Aec {n:Net} (hb:Ac n=true) (fw:List Bool) (t:List EntryM) (dom fr:Int) (m:Nat):∀ p∈(Cz n fw t dom fr m).1,0≤p∧p<n.ports.length:=by
 intro p hp
 unfold Cz at hp
 split at hp
 ·cases hp
 split at hp
 ·exact Ef p (Jf hp)
 split at hp
 ·rename_i h1
  obtain ⟨hs1,hs2⟩:=Ti hb dom m
  have h2:=hs1.2 h1
  have h3:=Wf hb dom m h2
  have h4:=List.mem_singleton.1 (Jf hp)
  rw[h4,← hs2 h1]
  exact⟨h2,h3⟩
 split at hp
 ·rename_i h1
  rw[List.mem_singleton.1 (Jf hp)]
  exact Ef _ (inB_mem.1 h1.2.2)
 split at hp
 ·cases hp
 ·exact Ef p (Jf hp)
theorem Adh (n:Net) (fw:List Bool) (fr:Int) (l:List Int):(D9 n fw fr l).length≤l.length:=List.length_filter_le _ _
theorem Adj {n:Net} (hn:n.Fin) (dom fr:Int) (hd:Ai dom n.domains.length=true):(peersOut n dom fr).length<2147483648:=by
 unfold peersOut
 split
 ·decide
 ·have h:=Jv hd
  rw[Ae h.2]
  exact hn.peers _ (List.getElem_mem h.2)
theorem Z3 {n:Net} (hn:n.Fin) (fw:List Bool) (t:List EntryM) (dom fr:Int) (m:Nat):(Cz n fw t dom fr m).1.length<2147483648∧(Cz n fw t dom fr m).2.1.length<2147483648:=by
 have h1:=Agb n dom
 have h2:=hn.ports
 unfold Ak at h2
 have h3:=fun l=>Adh n fw fr l
 unfold Cz
 split
 ·decide
 rename_i h
 have hd:Ai dom n.domains.length=true:=by
  cases hx:Ai dom n.domains.length
  ·exact absurd (by rw[Mo,hx];rfl) h
  ·rfl
 have h4:=Adj hn dom fr hd
 split
 ·have:=h3 (A6 n dom);exact⟨by dsimp only;omega,h4⟩
 split
 ·have:=h3 [(nth n.statics (Dw n dom m)).port];simp only[List.length_cons,List.length_nil]at this;exact⟨by dsimp only;omega,by show (0:Nat)<2147483648;decide⟩
 split
 ·have:=h3 [(findE t m).1];simp only[List.length_cons,List.length_nil]at this;exact⟨by dsimp only;omega,by show (0:Nat)<2147483648;decide⟩
 split
 ·refine⟨by show (0:Nat)<2147483648;decide,?_⟩
  dsimp only
  split<;>simp
 ·have:=h3 (A6 n dom);exact⟨by dsimp only;omega,h4⟩
theorem Ahn (n:Net) (hn:n.Fin) (hm0:n.Num) (fw:List Bool) (t:List EntryM) (dom:Int) (q:QueuedM) (now:Int) (ht:TabOK t) (hq:QueuedOK q) :
  Sy.Spec Tryz.prog 107 [Aj n,.sl 1 Ab fw,.sl 3 Ay t,Aa dom,Bo q,Aa now] [] (.tup [.sl 3 Ay (bridgeT n fw t dom q now).1,.sl 9 Eb (bridgeT n fw t dom q now).2.1,Aa (bridgeT n fw t dom q now).2.2]) []:=cT F107 Tryz.ntmps107 fun F hF=>by
 have hres:=bridgeT.eq_1 n fw t dom q now
 generalize bridgeT n fw t dom q now=res at *
 have qf:=floodS n hn fw dom q.from_
 have qr:=Vn t ht.short ht.mac
 conv=>whnf
 refine Aw 6 8 (Aj n) E E E ?_
 refine Aw 10 7 (Bo q) E E E ?_
 refine oO ?_
 cases hroom:Mo n fw dom q.from_
 ·rw[if_pos (.inl hroom)]at hres
  subst hres
  rw[floodT,if_pos hroom]at qf
  refine c0 qf F161 ?_
  (refine oT ?_;refine bT ?_)
  refine Am 13 [.sl 9 Eb []] E (.cons .nil .nil) ?_
  refine Ao 12 3 Ay E ?_
  exact dN
 rw[floodT,if_neg (by rw[hroom];decide)]at qf
 refine c0 qf F161 ?_
 refine oF ?_
 refine c0 qr F162 ?_
 cases htb:tableB t
 ·rw[if_pos (.inr htb)]at hres
  subst hres
  refine oT ?_
  refine Am 13 [.sl 9 Eb []] E (.cons .nil .nil) ?_
  refine Ao 12 3 Ay E ?_
  exact dN
 rw[if_neg (by simp[hroom,htb])]at hres
 have ql:=Aei t q now ht hq
 have hu:=Qf ht hq now
 generalize learnQ t q now=u at *
 have qro:=Aeq n hn hm0 dom q.frame.dst
 generalize routerT n dom q.frame.dst=ro at *
 obtain ⟨irb,ok⟩:=ro
 dsimp only at hres qro
 have hbn:Ac n=true:=by
  simp only[Mo,Bool.and_eq_true]at hroom
  exact hroom.1.2
 refine oF ?_
 refine c0 ql F163 ?_
 refine oO ?_
 refine c0 qro F164 ?_
 cases ok
 rotate_left
 ·rw[if_pos rfl]at hres
  have qh:=Anc n hn hm0 irb q.frame hq.frame
  generalize hopT n irb q.frame=hp at *
  obtain ⟨to,g,e⟩:=hp
  dsimp only at hres qh
  refine oT ?_
  refine c0 qh F165 ?_
  refine oO ?_
  refine⟨fun h=>?_,fun h=>?_⟩
  ·rw[if_pos (by simpa using h)]at hres
   subst hres
   refine oO ?_
   refine Am 13 [.sl 9 Eb []] E (.cons .nil .nil) ?_
   exact dN
  ·rw[if_neg (by simpa using h)]at hres
   subst hres
   refine oO ?_
   refine kW ?_
   refine Aen 84 [Eb ⟨4,0,to,[],g,0⟩] E (.cons (.agg vL) .nil) E ?_
   refine I5 84 Eb [⟨4,0,to,[],g,0⟩] E E ?_
   refine Ah 84 E ?_
   exact dN
 rw[if_neg j_]at hres
 have hs:=hq.frame.src
 have hd2:=hq.frame.dst
 have hfw:=Aud hu q.frame.dst
 have qd:=Aum n hn fw u dom q.from_ q.frame.dst hu.short (by unfold I64 at *;omega) q_
 have hports:=Aec hbn fw u dom q.from_ q.frame.dst
 have hfew:=Z3 hn fw u dom q.from_ q.frame.dst
 generalize Cz n fw u dom q.from_ q.frame.dst=dc at *
 obtain ⟨ports,peers,e0⟩:=dc
 dsimp only at hres qd hports hfew
 obtain ⟨hf1,hf2⟩:=hfew
 refine oF ?_
 refine c0 qd F167 ?_
 refine oO ?_
 refine Ah1 13 0 1000 9 Eb E E E E ?_
 refine A3 ports.length (fun j=>[(3,Aa dom),(6,.ref 8 (Aj n) 0),(10,.ref 7 (Bo q) 0),(12,.sl 3 Ay u),(13,.ptr 13 0),(23,.clo (.func 166) [] [.ptr 13 0]),(25,.sl 1 Aa peers),(100,.sl 1 Aa ports),(101,Aa ports.length),(102,Aa j)])
  (fun j=>[(13,.box [.osl 1000]),(1000,.row 9 Eb ((ports.take j).map (Aax n dom q.frame)))]) [(13,13),(1000,1000)] ⟨⟨rfl,rfl,rfl,rfl,rfl,rfl,rfl,rfl,rfl,rfl,rfl,rfl,rfl,rfl,rfl,rfl,rfl,rfl,rfl,rfl,trivial⟩,⟨.inl rfl,rfl,.inl rfl,rfl,trivial⟩,rfl,rfl⟩ ?_
 intro j hj
 refine oO ?_
 refine⟨fun h=>?_,fun h=>?_⟩
 ·have hlt:j<ports.length:=qA h
  have hj0:((j:Nat):Int).toNat<ports.length:=by simpa using hlt
  obtain ⟨p,hp⟩:∃ p,ports[j]=p:=⟨_,rfl⟩
  have e1:ports[((j:Nat):Int).toNat]'hj0=p:=hp
  have hs:(ports.take (j+1)).map (Aax n dom q.frame)=(ports.take j).map (Aax n dom q.frame)++[Aax n dom q.frame p]:=by
   rw[List.take_succ_eq_append_getElem hlt,List.map_append,hp];rfl
  have hal:((ports.take j).map (Aax n dom q.frame)).length=j:=by rw[List.length_map,List.length_take];omega
  have hpi:=hports p (by rw[← hp];exact List.getElem_mem hlt)
  have hpk:p.toNat<n.ports.length:=by omega
  have ql:=Arf n hn p dom q.frame hq.frame
  have hop:Aax n dom q.frame p=Ua (Anp (if (nth n.ports p).link<0 then 1 else 2) p 0) ((leaveT n p dom q.frame).1,(leaveT n p dom q.frame).2):=rfl
  rw[hop,Ae hpk]at hs
  clear hop
  obtain ⟨acc,hacc⟩:∃ acc,(ports.take j).map (Aax n dom q.frame)=acc:=⟨_,rfl⟩
  rw[hacc]at hs hal ⊢
  obtain ⟨x,hx⟩:∃ x,n.ports[p.toNat]'hpk=x:=⟨_,rfl⟩
  rw[hx]at hs
  clear h
  refine oO ?_
  refine⟨E,by omega,hj0,?_⟩
  rw[e1]
  conv=>whnf
  refine⟨E,hpi.1,hpk,?_⟩
  rw[hx]
  conv=>whnf
  refine⟨fun h=>?_,fun h=>?_⟩
  ·rw[if_neg (qA h)]at hs
   refine oO ?_
   refine c0 ql F168 ?_
   refine oO ?_
   refine Af (Hq [(0,13),(1,1000),(2,1001)] [] (B4 E E F166) (S6 acc 2 p 0 (leaveT n p dom q.frame).1 (leaveT n p dom q.frame).2 q_) (.cons (.agg vL) vL) ⟨E,E,Y⟩ E ⟨.inl E,.inl E,.inr E,Y⟩ E) E E ?_
   refine oO ?_
   refine iW ?_
   exact Av [(13,13),(1000,1001)] hlt ⟨⟨E,E,E,E,E,E,E,E,E,E,E,E,E,E,E,E,E,E,E,E,Y⟩,⟨.inl E,E,.inl (congrArg (Ob.row 9 Eb) hs),E,Y⟩,E,E⟩
  ·rw[if_pos (qB h)]at hs
   refine oO ?_
   refine c0 ql F168 ?_
   refine oO ?_
   refine Af (Hq [(0,13),(1,1000),(2,1001)] [] (B4 E E F166) (S6 acc 1 p 0 (leaveT n p dom q.frame).1 (leaveT n p dom q.frame).2 q_) (.cons (.agg vL) vL) ⟨E,E,Y⟩ E ⟨.inl E,.inl E,.inr E,Y⟩ E) E E ?_
   refine oO ?_
   refine iW ?_
   exact Av [(13,13),(1000,1001)] hlt ⟨⟨E,E,E,E,E,E,E,E,E,E,E,E,E,E,E,E,E,E,E,E,Y⟩,⟨.inl E,E,.inl (congrArg (Ob.row 9 Eb) hs),E,Y⟩,E,E⟩
 have hjj:j=ports.length:=qB h
 subst hjj
 clear h
 rw[List.take_length]
 obtain ⟨acc0,hacc0⟩:∃ acc0,ports.map (Aax n dom q.frame)=acc0:=⟨_,rfl⟩
 have hal0:acc0.length=ports.length:=by rw[← hacc0,List.length_map]
 rw[hacc0]at hres ⊢
 refine oO ?_
 refine A3 peers.length (fun j=>[(3,Aa dom),(6,.ref 8 (Aj n) 0),(10,.ref 7 (Bo q) 0),(12,.sl 3 Ay u),(13,.ptr 13 0),(23,.clo (.func 166) [] [.ptr 13 0]),(130,.sl 1 Aa peers),(131,Aa peers.length),(132,Aa j)])
  (fun j=>[(13,.box [.osl 1000]),(1000,.row 9 Eb (acc0++(peers.take j).map (Adm n dom q.frame)))]) [(13,13),(1000,1000)] ⟨⟨rfl,rfl,rfl,rfl,rfl,rfl,rfl,rfl,rfl,rfl,rfl,rfl,rfl,rfl,rfl,rfl,rfl,rfl,trivial⟩,⟨.inl rfl,rfl,.inl (congrArg (Ob.row 9 Eb) y_),rfl,trivial⟩,rfl,rfl⟩ ?_
 intro j hj
 refine oO ?_
 refine⟨fun h=>?_,fun h=>?_⟩
 ·have hlt:j<peers.length:=qA h
  have hj0:((j:Nat):Int).toNat<peers.length:=by simpa using hlt
  obtain ⟨p,hp⟩:∃ p,peers[j]=p:=⟨_,rfl⟩
  have e1:peers[((j:Nat):Int).toNat]'hj0=p:=hp
  have hs:acc0++(peers.take (j+1)).map (Adm n dom q.frame)=(acc0++(peers.take j).map (Adm n dom q.frame))++[Adm n dom q.frame p]:=by
   rw[List.take_succ_eq_append_getElem hlt,List.map_append,hp,List.append_assoc];rfl
  have hal:(acc0++(peers.take j).map (Adm n dom q.frame)).length≤ports.length+j:=by rw[List.length_append,List.length_map,List.length_take];omega
  have ql:=Ajj n hn hm0 dom p q.frame hq.frame
  have hop:Adm n dom q.frame p=Ua (Anp 3 0 p) ((meshT n dom p q.frame).1,(meshT n dom p q.frame).2):=rfl
  rw[hop]at hs
  clear hop
  obtain ⟨acc,hacc⟩:∃ acc,acc0++(peers.take j).map (Adm n dom q.frame)=acc:=⟨_,rfl⟩
  rw[hacc]at hs hal ⊢
  clear h
  refine oO ?_
  refine⟨E,by omega,hj0,?_⟩
  rw[e1]
  conv=>whnf
  refine c0 ql F169 ?_
  refine oO ?_
  refine Af (Hq [(0,13),(1,1000),(2,1001)] [] (B4 E E F166) (S6 acc 3 0 p (meshT n dom p q.frame).1 (meshT n dom p q.frame).2 q_) (.cons (.agg vL) vL) ⟨E,E,Y⟩ E ⟨.inl E,.inl E,.inr E,Y⟩ E) E E ?_
  refine oO ?_
  refine iW ?_
  exact Av [(13,13),(1000,1001)] hlt ⟨⟨E,E,E,E,E,E,E,E,E,E,E,E,E,E,E,E,E,E,Y⟩,⟨.inl E,E,.inl (congrArg (Ob.row 9 Eb) hs),E,Y⟩,E,E⟩
 have hjj:j=peers.length:=qB h
 subst hjj
 clear h
 rw[List.take_length]
 subst hres
 refine oO ?_
 refine kW ?_
 refine Ah 1000 E ?_
 exact dN
theorem Ly {l:List QueuedM} (h:Hf l):l.length<1000000∧O7 l:=⟨by have:=h.1;omega,fun q hq=>by have:=(h.2 q hq).frame.body;omega⟩
theorem Xw {α:Type} {l:List α} {i:Nat} (h:i<l.length) (d:α):(l[i]?).getD d=l[i]:=by
 rw[List.getElem?_eq_getElem h];rfl
theorem placeB_iff {d:Int} {k:Nat}:Ai d k=true↔0≤d∧d.toNat<k:=by
 simp only[Ai,Bool.and_eq_true,decide_eq_true_eq];omega
theorem Am2 (n:Net) (m:MacM) (d:Bool) (dom:Int) (hl:Hf (queueL m dom)) :
  Sy.Spec Tryz.prog 22 [.ptr 0 0,Aa dom] (C8 n m d) (.sl 7 Bo (if Ai dom m.queues.length then queueL m dom else [])) (C8 n m d):=cT F22 Tryz.ntmps22 fun F hF=>by
 have h1:=Ak6 n m d dom
 have hpl:=placeB_iff (d:=dom) (k:=m.queues.length)
 generalize Ai dom m.queues.length=b at *
 have hb:=Ly hl
 have h2:=Yq _ (-1) hb.1 hb.2
 have h3:takeT (queueL m dom) (-1)=(noQ,queueL m dom,false):=by rw[takeT];exact if_pos (.inl j_)
 rw[h3]at h2
 clear h3 hb hl
 have hres:=queueL.eq_1 m dom
 generalize queueL m dom=res at *
 conv=>whnf
 refine Af (Ad [] E F65 h1 E ⟨E,E,E,E,Y⟩ E ⟨.inl E,.inl E,.inl E,.inl E,Y⟩) E E ?_
 refine oO ?_
 cases b
 ·(refine⟨fun _=>?_,fun h=>False.elim (absurd h j_)⟩;refine rg ?_;conv=>whnf)
  refine Ao 4 7 Bo E ?_
  exact done E (.cons .tmp .nil) [] (C8 n m d) (fun _ h=>h) E E ⟨Y,⟨.inl E,E,.inl E,E,.inl E,E,.inl E,E,Y⟩,E,E⟩
 have hd:=hpl.1 rfl
 have hlt:dom.toNat<m.queues.length:=hd.2
 rw[Xw hlt]at hres
 subst hres
 (refine⟨fun h=>False.elim (absurd h j_),fun _=>?_⟩;refine rg ?_;conv=>whnf)
 refine⟨hd.1,by omega,?_⟩
 conv=>whnf
 refine⟨E,hlt,?_⟩
 conv=>whnf
 refine c0 h2 F66 ?_
 refine oO ?_
 exact done E (.cons .tmp .nil) [] (C8 n m d) (fun _ h=>h) E E ⟨Y,⟨.inl E,E,.inl E,E,.inl E,E,.inl E,E,Y⟩,E,E⟩
def Qm (m:MacM):Prop:=∀ i,0≤m.drops i∧m.drops i≤1000000000000
theorem Tl (n:Net) (m:MacM) (d:Bool) (dom:Int) (q:QueuedM) (e:Int) (he:0≤e∧e<64) (hd:e=0→0≤dom∧dom.toNat<m.queues.length) (hb:Qm m) (hl:Hf (queueL m dom)) (hq:QueuedOK q) :
  Sy.Spec Tryz.prog 106 [.ptr 0 0,Aa dom,Bo q,Aa e] (C8 n m d) (.tup []) (C8 n (comeM m dom q e) d):=cT F106 Tryz.ntmps106 fun F hF=>by
 have hqb:=Ly hl
 have hp:=Afu _ q hqb.1 hqb.2 (by have:=hq.frame.body;omega)
 have h1:=Ahd n m d e he.1 he.2 (hb _)
 have h3:=Ahd n m d 3 j_ j_ (hb _)
 have hres:=comeM.eq_1 m dom q e
 generalize comeM m dom q e=res at *
 conv=>whnf
 refine⟨fun h=>?_,fun h=>?_⟩
 ·rw[if_pos (by simpa using h)]at hres
  subst hres
  refine oO ?_
  refine Af (Ad [] E F109 h1 E ⟨E,E,E,E,Y⟩ E ⟨.inl E,.inl E,.inl E,.inl E,Y⟩) E E ?_
  refine oO ?_
  exact done E .nil [] (C8 n (Cg m e) d) (fun _ h=>h) E E ⟨Y,⟨.inl E,E,.inl E,E,.inl E,E,.inl E,E,Y⟩,E,E⟩
 have h0:e=0:=by simpa using h
 have hd:=hd h0
 rw[if_neg (by rw[h0];decide)]at hres
 clear h hqb h1 hl he
 have hq0:=queueL.eq_1 m dom
 rw[Xw hd.2]at hq0
 generalize queueL m dom=l at *
 generalize pushT l q=r at *
 obtain ⟨l2,ok⟩:=r
 subst hq0
 refine oO ?_
 refine⟨hd.1,hd.2,?_⟩
 conv=>whnf
 refine⟨E,hd.2,?_⟩
 conv=>whnf
 refine cD hp F160 ?_
 refine oD ?_
 refine kW ?_
 cases ok
 ·rw[if_neg y_]at hres
  subst hres
  (refine⟨fun _=>?_,fun h=>False.elim (by simp at h)⟩;refine rg ?_;conv=>whnf)
  refine Af (Ad [] E F109 h3 E ⟨E,E,E,E,Y⟩ E ⟨.inl E,.inl E,.inl E,.inl E,Y⟩) E E ?_
  refine oO ?_
  exact done E .nil [] (C8 n (Cg m 3) d) (fun _ h=>h) E E ⟨Y,⟨.inl E,E,.inl E,E,.inl E,E,.inl E,E,Y⟩,E,E⟩
 ·rw[if_pos rfl]at hres
  subst hres
  (refine⟨fun h=>False.elim (by simp at h),fun _=>?_⟩;refine rg ?_;conv=>whnf)
  refine⟨hd.1,hd.2,?_⟩
  conv=>whnf
  refine⟨E,hd.2,l2,E,E,?_⟩
  conv=>whnf
  exact A1 E .nil [] (C8 n (Am5 m dom l2) d) (fun _ h=>h) E E ⟨Y,⟨.inl E,E,.inl E,E,.inl E,E,.inl E,E,Y⟩,E,E⟩
theorem Afc (n:Net) (m:MacM) (d:Bool) (dom at_:Int) (hl:Hf (queueL m dom)) :
  Sy.Spec Tryz.prog 62 [.ptr 0 0,Aa dom,Aa at_] (C8 n m d) (.tup [Bo (takeM m dom at_).2.1,Ab (takeM m dom at_).2.2]) (C8 n (takeM m dom at_).1 d):=cT F62 Tryz.ntmps62 fun F hF=>by
 have hqb:=Ly hl
 have hp:=Yq _ at_ hqb.1 hqb.2
 have h1:=Ak6 n m d dom
 have hpl:=placeB_iff (d:=dom) (k:=m.queues.length)
 have hres:=takeM.eq_1 m dom at_
 generalize takeM m dom at_=res at *
 generalize Ai dom m.queues.length=b at *
 have hq0:=queueL.eq_1 m dom
 clear hl hqb
 generalize queueL m dom=l at *
 generalize takeT l at_=r at *
 obtain ⟨q,l2,ok⟩:=r
 conv=>whnf
 refine Af (Ad [] E F65 h1 E ⟨E,E,E,E,Y⟩ E ⟨.inl E,.inl E,.inl E,.inl E,Y⟩) E E ?_
 refine oO ?_
 cases b
 ·rw[if_pos rfl]at hres
  subst hres
  (refine⟨fun _=>?_,fun h=>False.elim (absurd h j_)⟩;refine rg ?_;conv=>whnf)
  refine Am 6 [Aa 0,Aa 0,Aa 0,A9 0,A9 0,Aa 0,.sl 1 Al []] E vL ?_
  exact done E (.cons (.cell E E E E) (.cons .tmp .nil)) [] (C8 n m d) (fun _ h=>h) E E ⟨Y,⟨.inl E,E,.inl E,E,.inl E,E,.inl E,E,Y⟩,E,E⟩
 have hd:=hpl.1 rfl
 rw[Xw hd.2]at hq0
 subst hq0
 rw[if_neg y_]at hres
 subst hres
 (refine⟨fun h=>False.elim (absurd h j_),fun _=>?_⟩;refine rg ?_;conv=>whnf)
 refine⟨hd.1,hd.2,?_⟩
 conv=>whnf
 refine⟨E,hd.2,?_⟩
 conv=>whnf
 refine c0 hp F66 ?_
 refine oO ?_
 refine⟨hd.1,hd.2,?_⟩
 conv=>whnf
 refine⟨E,hd.2,l2,E,E,?_⟩
 conv=>whnf
 exact done E (.cons (.cell E E E E) (.cons .tmp .nil)) [] (C8 n (Am5 m dom l2) d) (fun _ h=>h) E E ⟨Y,⟨.inl E,E,.inl E,E,.inl E,E,.inl E,E,Y⟩,E,E⟩
theorem Aio (n:Net) (hn:n.Fin) (m:MacM) (d:Bool) (J D:Int) (hm0:MacOK n m J D) (hJ:J<1000000000000) (hD:D≤1000000000000) (port:Int) (b:List UInt8) (hb:b.length<100000) :
  Sy.Spec Tryz.prog 60 [.ptr 0 0,Aa port,.sl 1 Al b] (C8 n m d) (.tup []) (C8 n (injectT n m port b) d):=cT F60 Tryz.ntmps60 fun F hF=>by
 have hres:=injectT.eq_1 n m port b
 generalize injectT n m port b=res at *
 have hpl:=placeB_iff (d:=port) (k:=n.ports.length)
 have hinj:=hm0.inj
 have hok:MacOK n ⟨m.up,m.tables,m.queues,m.now,m.injected+1,m.drops⟩ (J+1) D:=⟨hm0.up,hm0.tabs,hm0.ques,hm0.tab,hm0.que,hm0.now,⟨by dsimp only;omega,by dsimp only;omega⟩,hm0.drp⟩
 have hdr:Qm ⟨m.up,m.tables,m.queues,m.now,m.injected+1,m.drops⟩:=fun i=>⟨(hm0.drp i).1,by have:=(hm0.drp i).2;dsimp only at *;omega⟩
 have he:=Zu n port b
 have hdom:=Zv (n:=n) (port:=port) (b:=b)
 have q1:=Ag8 n hn port b hb
 have hfr:=V8 n port b
 generalize enterT n port b=r at *
 have q2:=fun (hp:0≤port∧port.toNat<n.ports.length)=>Tl n ⟨m.up,m.tables,m.queues,m.now,m.injected+1,m.drops⟩ d r.1 ⟨port,0,m.injected+1,r.2.1⟩ r.2.2 ⟨he.1,by have:=he.2;omega⟩ (fun h=>by
  have:=hdom h
  exact⟨this.1,by show r.1.toNat<m.queues.length;rw[hm0.ques];exact this.2⟩) hdr (Ey hok _) (Hn hfr _ ⟨by omega,by have:=hn.ports;unfold Ak at this;omega⟩ j_)
 conv=>whnf
 refine⟨fun h=>?_,fun h=>?_⟩
 ·have h:=of_decide_eq_true h
  rw[if_pos (.inl (by cases hx:Ai port n.ports.length;rfl;exact absurd (hpl.1 hx) q_))]at hres
  subst hres
  (refine oT ?_;refine bT ?_)
  (skip)
  exact done E .nil [] (C8 n res d) (fun _ h=>h) E E ⟨Y,⟨.inl E,E,.inl E,E,.inl E,E,.inl E,E,Y⟩,E,E⟩
 have h0:=of_decide_eq_false h
 clear h
 refine oO ?_
 refine⟨fun h=>?_,fun h=>?_⟩
 ·have h:=of_decide_eq_true h
  rw[if_pos (.inl (by cases hx:Ai port n.ports.length;rfl;exact absurd (hpl.1 hx) q_))]at hres
  subst hres
  refine oT ?_
  (skip)
  exact done E .nil [] (C8 n res d) (fun _ h=>h) E E ⟨Y,⟨.inl E,E,.inl E,E,.inl E,E,.inl E,E,Y⟩,E,E⟩
 have h1:=of_decide_eq_false h
 clear h
 have hp:0≤port∧port.toNat<n.ports.length:=by omega
 rw[hpl.2 hp,Ae hp.2]at hres
 obtain ⟨p,hpp⟩:∃ p,n.ports[port.toNat]'hp.2=p:=⟨_,rfl⟩
 rw[hpp]at hres
 refine oO ?_
 refine⟨E,hp.1,hp.2,?_⟩
 rw[hpp]
 conv=>whnf
 refine⟨fun h=>?_,fun h=>?_⟩
 ·have h:=of_decide_eq_true h
  rw[if_pos (.inr h)]at hres
  subst hres
  refine oO ?_
  exact done E .nil [] (C8 n res d) (fun _ h=>h) E E ⟨Y,⟨.inl E,E,.inl E,E,.inl E,E,.inl E,E,Y⟩,E,E⟩
 have h2:=of_decide_eq_false h
 clear h
 rw[if_neg (by simp;omega)]at hres
 subst hres
 refine oO ?_
 refine iW ?_
 refine c0 q1 F105 ?_
 refine oO ?_
 refine Bm (Ad [] E F106 (q2 hp) E ⟨E,E,E,E,Y⟩ E ⟨.inl E,.inl E,.inl E,.inl E,Y⟩) z_ E ?_
 refine oD ?_
 refine kW ?_
 refine A1 E .nil [] (C8 n (comeM _ _ _ _) d) (fun _ h=>h) E E ⟨Y,⟨.inl E,E,.inl E,E,.inl E,E,.inl E,E,Y⟩,E,E⟩
theorem Yc (n:Net) (hn:n.Fin) (m:MacM) (d:Bool) (J D:Int) (hm0:MacOK n m J D) (hD:D≤1000000000000) (o:OutM) (ho:OutOK n o) (origin:Int) :
  Sy.Spec Tryz.prog 110 [.ptr 0 0,Eb o,Aa origin] (C8 n m d) (.sl 3 D6 (goesM n m o origin).2) (C8 n (goesM n m o origin).1 d):=cT F110 Tryz.ntmps110 fun F hF=>by
 have hres:=goesM.eq_1 n m o origin
 generalize goesM n m o origin=res at *
 have hdr:Qm m:=fun i=>⟨(hm0.drp i).1,by have:=(hm0.drp i).2;omega⟩
 have hbl:o.bytes.length<100000:=by have:=ho.bytes;omega
 have hin:∀ {x:Int},DomIn n x→0≤x∧x.toNat<m.queues.length:=fun h=>by rw[hm0.ques];exact h
 conv=>whnf
 refine⟨fun h=>?_,fun h=>?_⟩
 ·have h1:o.kind=1:=by simpa using h
  rw[if_pos h1]at hres
  subst hres
  refine oO ?_
  refine I5 34 D6 [⟨o.port,origin,o.bytes⟩] E E ?_
  refine Ah 34 E ?_
  exact done E (.cons .tmp .nil) [] (C8 n m d) (fun _ h=>h) E E ⟨Y,⟨.inl E,E,.inl E,E,.inl E,E,.inl E,E,Y⟩,E,E⟩
 have h1:¬ o.kind=1:=by simpa using h
 rw[if_neg h1]at hres
 clear h
 refine oO ?_
 refine⟨fun h=>?_,fun h=>?_⟩
 ·have h2:o.kind=2:=by simpa using h
  rw[if_pos h2]at hres
  have q1:=Ajk n hn o.port o.bytes hbl
  have he:=An5 n o.port o.bytes
  have hd:=fun h=>hin (An6 (n:=n) (port:=o.port) (b:=o.bytes) h)
  have hf:=Agl n o.port o.bytes
  have ht:=Agk hn o.port o.bytes
  generalize linkT n o.port o.bytes=r at *
  have q2:=Tl n m d r.2.1 ⟨r.1,0,origin,r.2.2.1⟩ r.2.2.2 he hd hdr (Ey hm0 _) (Hn hf _ q_ j_)
  subst hres
  refine oO ?_
  refine cD q1 F172 ?_
  refine oD ?_
  refine kW ?_
  refine kW ?_
  refine Af (Ad [] E F106 q2 E ⟨E,E,E,E,Y⟩ E ⟨.inl E,.inl E,.inl E,.inl E,Y⟩) E E ?_
  refine oO ?_
  refine Ao 6 3 D6 E ?_
  exact done E (.cons .tmp .nil) [] (C8 n (comeM _ _ _ _) d) (fun _ h=>h) E E ⟨Y,⟨.inl E,E,.inl E,E,.inl E,E,.inl E,E,Y⟩,E,E⟩
 have h2:¬ o.kind=2:=by simpa using h
 rw[if_neg h2]at hres
 clear h
 refine oO ?_
 refine⟨fun h=>?_,fun h=>?_⟩
 ·have h2:o.kind=3:=by simpa using h
  rw[if_pos h2]at hres
  have q1:=Ajl n hn o.bytes hbl
  have he:=Aov n o.bytes
  have hd:=fun h=>hin (Acp (n:=n) (b:=o.bytes) h).2
  have hf:=Ahi n o.bytes
  have ht:=Z5 hn o.bytes
  generalize comeT n o.bytes=r at *
  have q2:=Tl n m d r.2.1 ⟨-1,r.1,origin,r.2.2.1⟩ r.2.2.2 he hd hdr (Ey hm0 _) (Hn hf _ j_ ht)
  subst hres
  refine oO ?_
  refine cD q1 F173 ?_
  refine oD ?_
  refine kW ?_
  refine kW ?_
  refine Af (Ad [] E F106 q2 E ⟨E,E,E,E,Y⟩ E ⟨.inl E,.inl E,.inl E,.inl E,Y⟩) E E ?_
  refine oO ?_
  refine Ao 6 3 D6 E ?_
  exact done E (.cons .tmp .nil) [] (C8 n (comeM _ _ _ _) d) (fun _ h=>h) E E ⟨Y,⟨.inl E,E,.inl E,E,.inl E,E,.inl E,E,Y⟩,E,E⟩
 have h3:¬ o.kind=3:=by simpa using h
 rw[if_neg h3]at hres
 clear h
 refine oO ?_
 refine⟨fun h=>?_,fun h=>?_⟩
 ·have h4:o.kind=4:=by simpa using h
  rw[if_pos h4]at hres
  have hf:=ho.frame h4
  have q2:=Tl n m d o.domain ⟨-2,0,origin,o.frame⟩ 0 j_ (fun _=>hin hf.2) hdr (Ey hm0 _) (Hn hf.1 _ j_ j_)
  subst hres
  refine oO ?_
  refine Af (Ad [] E F106 q2 E ⟨E,E,E,E,Y⟩ E ⟨.inl E,.inl E,.inl E,.inl E,Y⟩) E E ?_
  refine oO ?_
  refine Ao 6 3 D6 E ?_
  exact done E (.cons .tmp .nil) [] (C8 n (comeM _ _ _ _) d) (fun _ h=>h) E E ⟨Y,⟨.inl E,E,.inl E,E,.inl E,E,.inl E,E,Y⟩,E,E⟩
 have h4:¬ o.kind=4:=by simpa using h
 rw[if_neg h4]at hres
 have h5:o.kind=5:=by have:=ho.kind;omega
 have he:=ho.err h5
 have q2:=Ahd n m d o.error he.1 he.2 (hdr _)
 subst hres
 clear h
 refine oO ?_
 refine Af (Ad [] E F109 q2 E ⟨E,E,E,E,Y⟩ E ⟨.inl E,.inl E,.inl E,.inl E,Y⟩) E E ?_
 refine oO ?_
 refine Ao 6 3 D6 E ?_
 exact done E (.cons .tmp .nil) [] (C8 n (Cg m o.error) d) (fun _ h=>h) E E ⟨Y,⟨.inl E,E,.inl E,E,.inl E,E,.inl E,E,Y⟩,E,E⟩
def Af7 (up:List Bool) (dn lk:Int) (fw:List Bool):List SV:=[.sl 1 Ab up,.val (.int .u32 dn),.val (.int .i32 lk),.val (.int .u32 0),.sl 1 Ab fw]
def Qs (n:Net) (up:List Bool) (dn lk:Int) (fw:List Bool):Obs:=[(1,.box (Af7 up dn lk fw)),(2,.box [.ptr 1 0]),(3,.box (Cn n))]
theorem Ant (n:Net) (hn:n.Fin) (up fw:List Bool) (dn lk:Int) :
  Sy.Spec Tryz.prog 170 [.ptr 3 0,.ptr 2 0] (Qs n up dn lk fw) (.tup []) (Qs n up dn lk (Li n up)):=cT F170 Tryz.ntmps170 fun F hF=>by
 have hf:∃ e,Sy.Spec Tryz.prog 58 [Aj n,.sl 1 Ab up] [] (.tup [.sl 1 Ab (Li n up),Aa e]) []:=by
  unfold Li
  split
  ·rename_i h;exact⟨0,Ach n up hn h⟩
  ·rename_i h;exact⟨2,Zo n up hn (by simpa using h)⟩
 obtain ⟨e,hf⟩:=hf
 generalize Li n up=r at *
 conv=>whnf
 refine cD hf F58 ?_
 refine oD ?_
 refine kW ?_
 exact A1 E .nil [] (Qs n up dn lk r) (fun _ h=>h) E E ⟨Y,⟨.inl E,E,.inl E,E,.inl E,E,Y⟩,E,E⟩
theorem Ara (a:Addr) (x:Int) (w:World) (hc:w.cell? a=some (.int .u32 x)):(callFunc 118 #[.pointer (some a)]).run Tryz.prog w=.ok (.value (.int .u32 x)) w :=
 run_call_load Tryz.func118 z_ z_ z_ .u32 z_ hc
theorem Abv (n:Net) (up fw:List Bool) (dn lk:Int):Sy.Spec Tryz.prog 73 [.ptr 1 1] (Qs n up dn lk fw) (Ab (dn != 0)) (Qs n up dn lk fw):=cT F73 Tryz.ntmps73 fun F hF=>by
 conv=>whnf
 refine Af (Sd Ara E E E E) E E ?_
 refine oO ?_
 exact done E (.cons .tmp .nil) [] (Qs n up dn lk fw) (fun _ h=>h) E E ⟨Y,⟨.inl E,E,.inl E,E,.inl E,E,Y⟩,E,E⟩
theorem Tv (w:World):(callFunc 242 #[]).run Tryz.prog w=.ok (.value (.tuple #[])) w:=run_call_mark0 Tryz.func242 z_ z_ z_ .disable z_ w
theorem Wm (w:World):(callFunc 244 #[]).run Tryz.prog w=.ok (.value (.tuple #[])) w:=run_call_mark0 Tryz.func244 z_ z_ z_ .enable z_ w
theorem Adf (a:Addr) (w:World):(callFunc 245 #[.pointer (some a)]).run Tryz.prog w=.ok (.value (.tuple #[])) w:=run_call_marked Tryz.func245 z_ z_ z_ .acquire z_ a w
theorem Ade (a:Addr) (w:World):(callFunc 247 #[.pointer (some a)]).run Tryz.prog w=.ok (.value (.tuple #[])) w:=run_call_marked Tryz.func247 z_ z_ z_ .releaseMerge z_ a w
theorem X9 (a:Addr) (x:Value) (u:FrameMode) (w:World) (hc:w.cell? a=some x) (hz:w.frozen? a=false) :
  CallsD Tryz.prog 121 #[.pointer (some a),.bool true] u w fun e u' w'=>u'=u∧(e=.returned (.tuple #[])∧w'=w.drew.setCell a (.int .u32 1)):=by
 have hc':w.drew.cell? a=some x:=by go_simp
 have hz':w.drew.frozen? a=false:=by go_simp
 have hst:=run_call_store (P:=Tryz.prog) Tryz.func182 z_ z_ z_ z_ (k:=.u32) (y:=1) hc' hz'
 go_enter_d Tryz.func121,Tryz.ntmps121
 go_wp2
 go_region_calls
 all_goals (go_end0;exact⟨rfl,rfl⟩)
theorem Xh (a:Addr) (u:FrameMode) (w:World) (hc:w.cell? a=some (.int .i32 1)) (hz:w.frozen? a=false) :
  CallsD Tryz.prog 120 #[.pointer (some a)] u w fun e u' w'=>u'=u∧(e=.returned (.tuple #[])∧w'=w.setCell a (.int .i32 0)):=by
 have hd:=Tv
 have he:=Wm
 have hr:=Ade
 have hadd:=run_call_add (P:=Tryz.prog) Tryz.func248 z_ z_ z_ .i32 z_ (y:=-1) (s:=0) hc hz (by simp[go_sem];rfl)
 have hcv:=run_convert_to_unsafe (P:=Tryz.prog) (src:=369) (dst:=373) Tryz.underlying369 Tryz.underlying373 z_ hc
 go_enter_d Tryz.func120,Tryz.ntmps120
 go_wp2
 go_end0
 go_wp2
 go_end0
 exact⟨E,E⟩
theorem An3 (a:Addr) (w:World) (hc:w.cell? a=some (.int .i32 0)) (hz:w.frozen? a=false) :
  Calls Tryz.prog 119 #[.pointer (some a)] w fun e w'=>e=.returned (.tuple #[])∧w'=w.setCell a (.int .i32 1):=by
 have hd:=Tv
 have he:=Wm
 have ha:=Adf
 have hcas:=run_call_cas_hit (P:=Tryz.prog) Tryz.func243 z_ z_ z_ .i32 z_ (y:=1) hc hz
 have hc':(w.setCell a (.int .i32 1)).cell? a=some (.int .i32 1):=World.cell?_setCell_same w a _ hc
 have hcv:=run_convert_to_unsafe (P:=Tryz.prog) (src:=369) (dst:=373) Tryz.underlying369 Tryz.underlying373 z_ hc'
 go_enter Tryz.func119,Tryz.ntmps119
 go_wp2
 first | go_end0 | (simp only[Exit.inBlock,Exit.then];refine bodyPost_ret (results_none rfl _ _ _) rfl ?_) | refine bodyPost_ret (results_none rfl _ _ _) rfl ?_
 go_wp2
 go_end0
 exact⟨E,E⟩
end Go.Sy.YtcflgpijohhfbaaGreat
namespace Go.Sy.YtcflgpijohhfbaaGreat
open Go.Proofs
set_option maxRecDepth 100000
set_option maxHeartbeats 4000000
theorem Ctx.behind {K:Nat→Prop} {κ κ2:Ka} {w w1 w2:World} (s:Step K κ w κ w1) (c:Ctx ⟨w1,κ,[]⟩ κ2 w2):Ctx ⟨w,κ,[]⟩ κ2 w2 where
 size:=Nat.le_trans s.size c.size
 os:=c.os.trans s.os
 tape:=c.tape.trans s.tape
 output:=c.output.trans s.output
 M:=c.M
 old:=fun b hb h=>by
  refine(c.old b (Nat.lt_of_lt_of_le hb s.size) h).trans ?_
  by_cases hm:κ.M b
  ·exact s.mkeep b hm
  ·exact s.blk b hb (fun ho=>by
    rcases ho with ⟨k,hk⟩ | ho
    ·exact h k hk
    ·exact hm ho)
 own:=fun k b hk=>by
  rcases c.own k b hk with h | h
  ·exact .inl (Nat.le_trans s.size h)
  ·exact .inr h
 nam:=c.nam
theorem Aor {κ:Ka} {w:World} (hi:Inv κ w):Step (fun _=>False) κ w κ w.drew∧Inv κ w.drew:=by
 have g:=Grew.drew w
 exact⟨⟨g.size,g.os,g.tape,g.output,E,fun b _=>rfl,fun b _ _=>rfl,fun _ _ _ _=>rfl,fun _ _=>rfl,fun _ h=>h.elim,fun _ h=>.inl h⟩,⟨hi.inj,hi.bnd,hi.apart,hi.mbnd⟩⟩
theorem Ans (n:Net) (hn:n.Fin) (up fw:List Bool) :
  Sy.Spec Tryz.prog 74 [.ptr 1 1,.clo (.func 170) [] [.ptr 3 0,.ptr 2 0]] (Qs n up 0 0 fw) (.tup []) (Qs n up 1 0 (Li n up)):=by
 intro κ w vs hi hnew hvs hok
 have o1:=hok (1,.box (Af7 up 0 0 fw)) (by simp[Qs])
 have o2:=hok (2,.box [.ptr 1 0]) (by simp[Qs])
 have o3:=hok (3,.box (Cn n)) (by simp[Qs])
 obtain ⟨b,e1,c1,c2,st1,inv1,ob1⟩:=Dr (off:=2) (x:=.val (.int .i32 1)) (v:=.int .i32 1) hi o1 rfl (fun _ _=>by simp only[Rd]) rfl
 obtain ⟨b2,_,_,_,e2,_⟩:=id o2
 obtain ⟨b3,_,_,_,e3,_⟩:=id o3
 simp only[RdL,Rd,e1,e2,e3]at hvs
 obtain ⟨v0,r0,rfl,rfl,v1,r1,rfl,⟨fs,cs,rfl,hfs,hcs⟩,rfl⟩:=hvs
 subst hfs
 obtain ⟨p3,q3,rfl,rfl,p2,q2,rfl,rfl,rfl⟩:=hcs
 have hcl:=Ant n hn up fw 0 1 κ (w.setCell ⟨b,2,none⟩ (.int .i32 1)) [.pointer (some ⟨b3,0,none⟩),.pointer (some ⟨b2,0,none⟩)] inv1 hnew (by simp only[RdL,Rd,e2,e3];exact⟨_,_,rfl,rfl,_,_,rfl,rfl,rfl⟩) (fun p hp=>by
  simp only[Qs,List.mem_cons,List.not_mem_nil,or_false]at hp
  rcases hp with rfl | rfl | rfl
  ·exact ob1
  ·exact ObOK.step st1 (show ¬ (2:Nat)=1 by decide) _ o2
  ·exact ObOK.step st1 (show ¬ (3:Nat)=1 by decide) _ o3)
 obtain ⟨u1,hu1,hr1⟩:=c1 1 (.val (.int .u32 0)) rfl
 obtain ⟨u2,hu2,hr2⟩:=c1 2 (.val (.int .i32 0)) rfl
 rw[hr1.val]at hu1
 rw[hr2.val]at hu2
 have f1:=c2 1 (show 1<5 by decide)
 have f2:=c2 2 (show 2<5 by decide)
 have hl:=Ara ⟨b,1,none⟩ 0 (w.setCell ⟨b,2,none⟩ (.int .i32 1)) ((World.cell?_setCell_other _ ⟨b,2,none⟩ ⟨b,1,none⟩ _ y_).trans hu1)
 have hnot:∀ (x:Bool) (w:World),(Op.unary .not (.bool x)).run Tryz.prog w=.ok (.bool (!x)) w:=fun _ _=>rfl
 go_enter_defers Tryz.func74,Tryz.ntmps74
 go_wp2_with (first | (go_at_call 119;refine(An3 ⟨b,2,none⟩ _ (by assumption) (by assumption)).mono ?_;rintro e w' ⟨rfl,rfl⟩) | (go_at_call 170;refine hcl.mono ?_;rintro e w' ⟨v,κ2,rfl,hc2,hi2,hv2,ok2⟩) | (go_at_call 73;go_in))
 have p1:=ok2 (1,.box (Af7 up 0 1 (Li n up))) (by simp[Qs])
 have k1:κ2 1=.blk b:=by
  obtain ⟨bb,_,_,_,q1,_⟩:=id p1
  rcases hc2.nam 1 (by rw[e1];intro h;cases h) with h | h
  ·rw[h];exact e1
  ·rw[h]at q1;cases q1
 obtain ⟨ba,a1,a2,a3,_,_,_⟩:=Dr (off:=1) (x:=.val (.int .u32 1)) (v:=.int .u32 1) hi2 p1 rfl (fun _ _=>by simp only[Rd]) rfl
 rw[k1]at a1
 cases a1
 obtain ⟨std,invd⟩:=Aor hi2
 have p2:=ObOK.step std (k:=1) (fun h=>h) _ p1
 obtain ⟨ba,a1,_,_,st3,inv3,ob3⟩:=Dr (off:=1) (x:=.val (.int .u32 1)) (v:=.int .u32 1) invd p2 rfl (fun _ _=>by simp only[Rd]) rfl
 rw[k1]at a1
 cases a1
 have ob3:ObOK κ2 (w'.drew.setCell ⟨b,1,none⟩ (.int .u32 1)) 1 (.box (Af7 up 1 1 (Li n up))):=ob3
 obtain ⟨ba,a1,a4,a5,st4,inv4,ob4⟩:=Dr (off:=2) (x:=.val (.int .i32 0)) (v:=.int .i32 0) inv3 ob3 rfl (fun _ _=>by simp only[Rd]) rfl
 rw[k1]at a1
 cases a1
 have ob4:ObOK κ2 ((w'.drew.setCell ⟨b,1,none⟩ (.int .u32 1)).setCell ⟨b,2,none⟩ (.int .i32 0)) 1 (.box (Af7 up 1 0 (Li n up))):=ob4
 obtain ⟨v1,hv1,hr1⟩:=a2 1 (.val (.int .u32 0)) rfl
 rw[hr1.val]at hv1
 obtain ⟨v2,hv2,hr2⟩:=a4 2 (.val (.int .i32 1)) rfl
 rw[hr2.val]at hv2
 refine leaves_cons (f:=121) (args:=#[.pointer (some ⟨b,1,none⟩),.bool true]) y_ (by simp[go_sem]) ?_
 refine(X9 ⟨b,1,none⟩ (.int .u32 0) .returning _ hv1 (a3 1 (show 1<5 by decide))).mono ?_
 rintro e u' w'' ⟨rfl,rfl,rfl⟩
 refine leaves_cons (f:=120) (args:=#[.pointer (some ⟨b,2,none⟩)]) (by simp[settle]) (by simp[go_sem]) ?_
 refine(Xh ⟨b,2,none⟩ _ _ hv2 (a5 2 (show 2<5 by decide))).mono ?_
 rintro e u' w'' ⟨rfl,rfl,rfl⟩
 have hst:Step (·=1) κ2 w' κ2 ((w'.drew.setCell ⟨b,1,none⟩ (.int .u32 1)).setCell ⟨b,2,none⟩ (.int .i32 0)):=(std.weaken (fun _ h=>h.elim)).trans (st3.trans st4)
 refine⟨.tuple #[],by simp[results,Tryz.results74],.tuple #[],κ2,E,Ctx.behind st1 (hc2.step inv4 hst),inv4,⟨[],E,E⟩,fun p hp=>?_⟩
 simp only[Qs,List.mem_cons,List.not_mem_nil,or_false]at hp
 rcases hp with rfl | rfl | rfl
 ·exact ob4
 ·exact ObOK.step hst (show ¬ (2:Nat)=1 by decide) _ (ok2 (2,.box [.ptr 1 0]) (by simp[Qs]))
 ·exact ObOK.step hst (show ¬ (3:Nat)=1 by decide) _ (ok2 (3,.box (Cn n)) (by simp[Qs]))
end Go.Sy.YtcflgpijohhfbaaGreat
namespace Go.Sy.YtcflgpijohhfbaaGreat
open Go.Proofs
attribute [local irreducible] Go.Sy.G Go.Sy.DR
set_option maxRecDepth 100000
set_option maxHeartbeats 4000000
def U4 (n:Net) (up:List Bool) (d:Bool):Obs:=[(1,.box (Is n up d)),(2,.box [.ptr 1 0]),(3,.box (Cn n))]
theorem Atu (n:Net) (hn:n.Fin) (up:List Bool) :
  Sy.Spec Tryz.prog 29 [.ptr 1 1,.clo (.func 170) [] [.ptr 3 0,.ptr 2 0]] (U4 n up false) (.tup []) (U4 n up true):=cT F29 Tryz.ntmps29 fun F hF=>by
 have q1:Sy.Spec Tryz.prog 73 [.ptr 1 1] (U4 n up false) (Ab false) (U4 n up false):=Abv n up [] 0 0
 have q2:Sy.Spec Tryz.prog 74 [.ptr 1 1,.clo (.func 170) [] [.ptr 3 0,.ptr 2 0]] (U4 n up false) (.tup []) (U4 n up true):=Ans n hn up []
 conv=>whnf
 refine Af (Ad [] E F73 q1 E ⟨E,E,E,Y⟩ E ⟨.inl E,.inl E,.inl E,Y⟩) E E ?_
 refine oT ?_
 refine Af (Ad [] E F74 q2 E ⟨E,E,E,Y⟩ E ⟨.inl E,.inl E,.inl E,Y⟩) E E ?_
 refine oO ?_
 exact A1 E .nil [] (U4 n up true) (fun _ h=>h) E E ⟨Y,⟨.inl E,E,.inl E,E,.inl E,E,Y⟩,E,E⟩
theorem Att (n:Net) (up:List Bool) :
  Sy.Spec Tryz.prog 29 [.ptr 1 1,.clo (.func 170) [] [.ptr 3 0,.ptr 2 0]] (U4 n up true) (.tup []) (U4 n up true):=cT F29 Tryz.ntmps29 fun F hF=>by
 have q1:Sy.Spec Tryz.prog 73 [.ptr 1 1] (U4 n up true) (Ab true) (U4 n up true):=Abv n up (Li n up) 1 0
 conv=>whnf
 refine Af (Ad [] E F73 q1 E ⟨E,E,E,Y⟩ E ⟨.inl E,.inl E,.inl E,Y⟩) E E ?_
 refine oF ?_
 exact A1 E .nil [] (U4 n up true) (fun _ h=>h) E E ⟨Y,⟨.inl E,E,.inl E,E,.inl E,E,Y⟩,E,E⟩
theorem Ats (n:Net) (hn:n.Fin) (up:List Bool) (d:Bool) :
  Sy.Spec Tryz.prog 29 [.ptr 1 1,.clo (.func 170) [] [.ptr 3 0,.ptr 2 0]] (U4 n up d) (.tup []) (U4 n up true):=by
 cases d
 ·exact Atu n hn up
 ·exact Att n up
theorem Am3 (n:Net) (hn:n.Fin) (up:List Bool) (d:Bool) :
  Sy.Spec Tryz.prog 108 [.ptr 1 0,Aj n] [(1,.box (Is n up d))] (.sl 1 Ab (Li n up)) [(1,.box (Is n up true))]:=cT F108 Tryz.ntmps108 fun F hF=>by
 conv=>whnf
 refine Af (Ad [] E F29 (Ats n hn up d) E ⟨E,E,E,Y⟩ E ⟨.inl E,.inl E,.inl E,Y⟩) E E ?_
 refine oO ?_
 exact done E (.cons .tmp .nil) [] [(1,.box (Is n up true))] (fun _ h=>h) E E ⟨Y,⟨.inl E,E,Y⟩,E,E⟩
end Go.Sy.YtcflgpijohhfbaaGreat
namespace Go.Sy.YtcflgpijohhfbaaGreat
open Go.Proofs
theorem W5 {n:Net} {fw:List Bool} {t:List EntryM} {dom:Int} {q:QueuedM} {now:Int} (ht:TabOK t) (hq:QueuedOK q):TabOK (bridgeT n fw t dom q now).1:=by
 unfold bridgeT
 split
 ·exact Vy
 split
 ·split
  ·exact Qf ht hq now
  ·exact Qf ht hq now
 ·exact Qf ht hq now
theorem W6 {n:Net} (_hn:n.Fin) (hm0:n.Num) {fw:List Bool} {t:List EntryM} {dom:Int} {q:QueuedM} {now:Int} (hq:QueuedOK q):∀ o∈(bridgeT n fw t dom q now).2.1,OutOK n o:=by
 intro o ho
 unfold bridgeT at ho
 split at ho
 ·cases ho
 rename_i h0
 have hb:Ac n=true:=by
  cases hx:Ac n
  ·exact absurd (.inl (by unfold Mo;rw[hx];simp)) h0
  ·rfl
 split at ho
 ·split at ho
  ·cases ho
  ·rename_i h1
   have h1:=Decidable.not_not.1 h1
   have hin:∀ (d:Int),(lookT n (routerT n dom q.frame.dst).1 d).2=true→0≤(lookT n (routerT n dom q.frame.dst).1 d).1∧(lookT n (routerT n dom q.frame.dst).1 d).1.toNat<n.irbs.length:=fun d h=>Oe h
   rw[List.mem_singleton.1 ho]
   exact⟨by dsimp only;omega,by simp,fun _=>⟨At9 n hm0 _ _ hin,Arn hin h1⟩,fun h=>by dsimp only at h;omega⟩
 ·rcases List.mem_append.1 ho with h | h
  ·obtain ⟨p,_,rfl⟩:=List.mem_map.1 h
   unfold Aax
   exact Agf (by dsimp only;split<;>omega) (Aa1 _ _ _ _ hq.frame) (Aji _ _ _ _)
  ·obtain ⟨p,_,rfl⟩:=List.mem_map.1 h
   unfold Adm
   exact Agf (by dsimp only;omega) (by have:=Ads n dom p q.frame;omega) (An0 _ _ _ _)
theorem W7 {n:Net} (hn:n.Fin) (fw:List Bool) (t:List EntryM) (dom:Int) (q:QueuedM) (now:Int):(bridgeT n fw t dom q now).2.1.length<4294967296:=by
 unfold bridgeT
 split
 ·show (0:Nat)<4294967296;decide
 split
 ·split
  ·show (0:Nat)<4294967296;decide
  ·show (1:Nat)<4294967296;decide
 ·have:=Z3 hn fw (learnQ t q now) dom q.from_ q.frame.dst
  simp only[List.length_append,List.length_map]
  omega
theorem Us (n:Net) (origin:Int):∀ (a b:List OutM) (m:MacM),Bz n m origin (a++b)=((Bz n (Bz n m origin a).1 origin b).1,(Bz n m origin a).2++(Bz n (Bz n m origin a).1 origin b).2)
 | [],b,m=>by simp[Bz]
 | o::a,b,m=>by
  rw[List.cons_append,Bz,Bz,Us n origin a b]
  simp
theorem Sz (n:Net) (m:MacM) (origin:Int) (l:List OutM) (j:Nat) (hj:j<l.length) :
  Bz n m origin (l.take (j+1))=((goesM n (Bz n m origin (l.take j)).1 l[j] origin).1,(Bz n m origin (l.take j)).2++(goesM n (Bz n m origin (l.take j)).1 l[j] origin).2):=by
 rw[List.take_succ_eq_append_getElem hj,Us]
 simp[Bz]
theorem Qh (n:Net) (m:MacM) (o:OutM) (origin:Int):(goesM n m o origin).2.length≤1:=by
 unfold goesM
 split
 ·simp
 split
 ·simp
 split
 ·simp
 split<;>simp
theorem Qi (n:Net) (origin:Int):∀ (l:List OutM) (m:MacM),(Bz n m origin l).2.length≤l.length
 | [],m=>by simp[Bz]
 | o::l,m=>by
  rw[Bz]
  have h1:=Qi n origin l (goesM n m o origin).1
  have h2:=Qh n m o origin
  simp only[List.length_append,List.length_cons]
  omega
end Go.Sy.YtcflgpijohhfbaaGreat
namespace Go.Sy.YtcflgpijohhfbaaGreat
open Go.Proofs
attribute [local irreducible] Go.Sy.G Go.Sy.DR
set_option maxRecDepth 100000
set_option maxHeartbeats 4000000
theorem Af1 {n:Net} {m:MacM} {J D:Int} (h:MacOK n m J D) (hD:0≤D) (dom:Int) {r:List EntryM × List OutM × Int} (hr:TabOK r.1):MacOK n (Tz m dom r) J (D+1):=by
 unfold Tz
 split
 ·exact Oz h hD 2
 split
 ·exact Oz (Ak9 h dom hr) hD _
 ·exact(Ak9 h dom hr).mono (Int.le_refl _) q_
def queL (q:QueuedM):List SV:=[Aa q.from_,Aa q.peer,Aa q.origin,A9 q.frame.dst,A9 q.frame.src,Aa q.frame.typ,.sl 1 Al q.frame.body]
def Aqk (n:Net) (m:MacM) (q:QueuedM) (l:List SeenM):Obs:=[(0,.box (M3 n 1 m.now m.injected m.drops)),(1,.box (Is n m.up true)),(2,.row 1 K4 m.tables),(3,.row 1 Mp m.queues),(7,.box (queL q)),(1000,.row 3 D6 l)]
theorem Ap3 (n:Net) (hn:n.Fin) (hm1:n.Num) (m:MacM) (d:Bool) (J D:Int) (hm0:MacOK n m J D) (hD0:0≤D) (hD:D≤900000000000) (dom at_:Int) :
  Sy.Spec Tryz.prog 61 [.ptr 0 0,Aa dom,Aa at_] (C8 n m d) (.sl 3 D6 (pickT n m dom at_).2) (C8 n (pickT n m dom at_).1 (if (takeM m dom at_).2.2 then true else d)):=cT F61 Tryz.ntmps61 fun F hF=>by
 have hres:=pickT.eq_1 n m dom at_
 generalize pickT n m dom at_=res at *
 have q1:=Afc n m d dom at_ (Ey hm0 dom)
 have hok:=X7 hm0 dom at_
 have hpl:(takeM m dom at_).2.2=true→0≤dom∧dom.toNat<m.queues.length:=fun h=>by
  unfold takeM at h
  split at h
  ·cases h
  ·rename_i h2
   exact placeB_iff.1 (by cases hx:Ai dom m.queues.length;exact absurd hx h2;rfl)
 have htl:(takeM m dom at_).1.tables=m.tables:=by unfold takeM;split<;>rfl
 generalize takeM m dom at_=r at *
 obtain ⟨m1,q,ok⟩:=r
 have htq:m.queues.length=m.tables.length:=by rw[hm0.ques,hm0.tabs]
 conv=>whnf
 refine Af (Ad [] E F62 q1 E ⟨E,E,E,E,Y⟩ E ⟨.inl E,.inl E,.inl E,.inl E,Y⟩) E E ?_
 refine oO ?_
 cases ok
 ·rw[if_pos rfl]at hres
  subst hres
  (refine⟨fun _=>?_,fun h=>False.elim (by simp at h)⟩;refine rg ?_;conv=>whnf)
  refine Ao 6 3 D6 E ?_
  exact done E (.cons .tmp .nil) [] (C8 n m1 d) (fun _ h=>h) E E ⟨Y,⟨.inl E,E,.inl E,E,.inl E,E,.inl E,E,Y⟩,E,E⟩
 rw[if_neg y_]at hres
 have hd:=hpl rfl
 have hd2:0≤dom∧dom.toNat<m1.tables.length:=by rw[htl,← htq];exact hd
 dsimp only at hres hok
 have q2:=Am3 n hn m1.up d
 have q3:=Ahn n hn hm1 (Li n m1.up) (tableL m1 dom) dom q m1.now (Vm hok.1 dom) hok.2
 have hb1:=W5 (n:=n) (fw:=Li n m1.up) (dom:=dom) (now:=m1.now) (Vm hok.1 dom) hok.2
 have hb2:=W6 (fw:=Li n m1.up) (t:=tableL m1 dom) (dom:=dom) (now:=m1.now) hn hm1 hok.2
 have hb3:=W7 hn (Li n m1.up) (tableL m1 dom) dom q m1.now
 have hb4:=Ahm n (Li n m1.up) (tableL m1 dom) dom q m1.now
 rw[Af2]at hres
 have hz:=Af1 hok.1 hD0 dom hb1
 generalize bridgeT n (Li n m1.up) (tableL m1 dom) dom q m1.now=b at *
 obtain ⟨t,out,e⟩:=b
 have hb2:∀ o∈out,OutOK n o:=hb2
 have hb3:out.length<4294967296:=hb3
 have hb4:Bu e:=hb4
 have ht0:=tableL.eq_1 m1 dom
 rw[Xw hd2.2]at ht0
 generalize tableL m1 dom=t0 at *
 subst ht0
 (refine⟨fun h=>False.elim (by simp at h),fun _=>?_⟩;refine rg ?_;conv=>whnf)
 refine Bm (Ad [] E F108 q2 E ⟨E,Y⟩ E ⟨.inl E,Y⟩) z_ E ?_
 refine oD ?_
 refine⟨hd2.1,hd2.2,?_⟩
 conv=>whnf
 refine⟨E,hd2.2,?_⟩
 conv=>whnf
 refine cD q3 F107 ?_
 refine oD ?_
 refine kW ?_
 refine⟨fun h=>?_,fun h=>?_⟩
 ·have h2:¬ e=2:=by simpa using h
  clear h
  refine oO ?_
  refine⟨hd2.1,hd2.2,?_⟩
  conv=>whnf
  refine⟨E,hd2.2,t,E,E,?_⟩
  conv=>whnf
  refine⟨fun h=>?_,fun h=>?_⟩
  ·have h3:¬ e=0:=by simpa using h
   clear h
   have hpd:Tz m1 dom (t,out,e)=Cg (E2 m1 dom t) e:=by
    unfold Tz
    rw[if_neg h2,if_pos h3]
   rw[hpd]at hres hz
   subst hres
   have q4:=Ahd n (E2 m1 dom t) true e hb4.1 hb4.2 ⟨(hok.1.drp _).1,by have:=(hok.1.drp e.toNat).2;show m1.drops e.toNat≤1000000000000;omega⟩
   refine oO ?_
   refine Af (Ad [] E F109 q4 E ⟨E,E,E,E,Y⟩ E ⟨.inl E,.inl E,.inl E,.inl E,Y⟩) E E ?_
   refine oO ?_
   have hdr:Qm (Cg (E2 m1 dom t) e):=fun i=>⟨(hz.drp i).1,by have:=(hz.drp i).2;omega⟩
   refine Cc 12 1000 3 D6 E E ?_
   refine A3 out.length (fun j=>[(0,.ptr 0 0),(7,.ptr 7 0),(12,.osl 1000),(69,.sl 9 Eb out),(70,Aa out.length),(71,Aa j)]) (fun j=>Aqk n (Bz n (Cg (E2 m1 dom t) e) q.origin (out.take j)).1 q (Bz n (Cg (E2 m1 dom t) e) q.origin (out.take j)).2) [] ⟨⟨E,E,E,E,E,E,E,E,E,E,E,E,Y⟩,⟨.inl E,E,.inl E,E,.inl E,E,.inl E,E,.inl E,E,.inl E,E,Y⟩,E,E⟩ ?_
   intro j hj
   refine oO ?_
   refine⟨fun h=>?_,fun h=>?_⟩
   ·have hlt:j<out.length:=qA h
    have hj0:((j:Nat):Int).toNat<out.length:=by simpa using hlt
    obtain ⟨o,hoo⟩:∃ o,out[j]=o:=⟨_,rfl⟩
    have e1:out[((j:Nat):Int).toNat]'hj0=o:=hoo
    have hs:=Sz n (Cg (E2 m1 dom t) e) q.origin out j hlt
    rw[hoo]at hs
    have hjo:=Ot hn q.origin (out.take j) hz q_ (fun x hx=>hb2 x (List.mem_of_mem_take hx))
    have hlen:(out.take j).length=j:=by rw[List.length_take];omega
    rw[hlen]at hjo
    have hsl:=Qi n q.origin (out.take j) (Cg (E2 m1 dom t) e)
    rw[hlen]at hsl
    have q5:=Yc n hn (Bz n (Cg (E2 m1 dom t) e) q.origin (out.take j)).1 true J _ hjo q_ o (hb2 o (by rw[← hoo];exact List.getElem_mem hlt)) q.origin
    have hfw:=Qh n (Bz n (Cg (E2 m1 dom t) e) q.origin (out.take j)).1 o q.origin
    clear h
    refine oO ?_
    refine⟨E,by omega,hj0,?_⟩
    rw[e1]
    conv=>whnf
    refine Af (Ad [] E F110 q5 E ⟨E,E,E,E,Y⟩ E ⟨.inl E,.inl E,.inl E,.inl E,Y⟩) E E ?_
    refine oO ?_
    refine Af (Ag Γ.toTy 81 E E E E E (.row E) .sl y_ q_ q_) E E ?_
    refine oO ?_
    refine iW ?_
    have g1:(Bz n (Cg (E2 m1 dom t) e) q.origin (out.take (j+1))).1=(goesM n (Bz n (Cg (E2 m1 dom t) e) q.origin (out.take j)).1 o q.origin).1:=by rw[hs]
    have g2:(Bz n (Cg (E2 m1 dom t) e) q.origin (out.take (j+1))).2=(Bz n (Cg (E2 m1 dom t) e) q.origin (out.take j)).2++(goesM n (Bz n (Cg (E2 m1 dom t) e) q.origin (out.take j)).1 o q.origin).2:=by rw[hs]
    refine Av [(1000,81)] hlt ⟨⟨E,E,E,E,E,E,E,E,E,E,E,E,Y⟩,?_,E,E⟩
    dsimp only
    rw[g1,g2]
    exact⟨.inl E,E,.inl E,E,.inl E,E,.inl E,E,.inl E,E,.inl E,E,Y⟩
   ·have hjj:j=out.length:=qB h
    subst hjj
    rw[List.take_length]
    clear h
    refine oO ?_
    refine Ah 1000 E ?_
    exact done E (.cons .tmp .nil) [] (C8 n (Bz n (Cg (E2 m1 dom t) e) q.origin out).1 true) (fun _ h=>h) E E ⟨Y,⟨.inl E,E,.inl E,E,.inl E,E,.inl E,E,Y⟩,E,E⟩
  ·have h3:e=0:=by simpa using h
   clear h
   have hpd:Tz m1 dom (t,out,e)=E2 m1 dom t:=by
    unfold Tz
    rw[if_neg h2,if_neg (fun h=>h h3)]
   rw[hpd]at hres hz
   subst hres
   refine oO ?_
   have hdr:Qm (E2 m1 dom t):=fun i=>⟨(hz.drp i).1,by have:=(hz.drp i).2;omega⟩
   refine Cc 12 1000 3 D6 E E ?_
   refine A3 out.length (fun j=>[(0,.ptr 0 0),(7,.ptr 7 0),(12,.osl 1000),(69,.sl 9 Eb out),(70,Aa out.length),(71,Aa j)]) (fun j=>Aqk n (Bz n (E2 m1 dom t) q.origin (out.take j)).1 q (Bz n (E2 m1 dom t) q.origin (out.take j)).2) [] ⟨⟨E,E,E,E,E,E,E,E,E,E,E,E,Y⟩,⟨.inl E,E,.inl E,E,.inl E,E,.inl E,E,.inl E,E,.inl E,E,Y⟩,E,E⟩ ?_
   intro j hj
   refine oO ?_
   refine⟨fun h=>?_,fun h=>?_⟩
   ·have hlt:j<out.length:=qA h
    have hj0:((j:Nat):Int).toNat<out.length:=by simpa using hlt
    obtain ⟨o,hoo⟩:∃ o,out[j]=o:=⟨_,rfl⟩
    have e1:out[((j:Nat):Int).toNat]'hj0=o:=hoo
    have hs:=Sz n (E2 m1 dom t) q.origin out j hlt
    rw[hoo]at hs
    have hjo:=Ot hn q.origin (out.take j) hz q_ (fun x hx=>hb2 x (List.mem_of_mem_take hx))
    have hlen:(out.take j).length=j:=by rw[List.length_take];omega
    rw[hlen]at hjo
    have hsl:=Qi n q.origin (out.take j) (E2 m1 dom t)
    rw[hlen]at hsl
    have q5:=Yc n hn (Bz n (E2 m1 dom t) q.origin (out.take j)).1 true J _ hjo q_ o (hb2 o (by rw[← hoo];exact List.getElem_mem hlt)) q.origin
    have hfw:=Qh n (Bz n (E2 m1 dom t) q.origin (out.take j)).1 o q.origin
    clear h
    refine oO ?_
    refine⟨E,by omega,hj0,?_⟩
    rw[e1]
    conv=>whnf
    refine Af (Ad [] E F110 q5 E ⟨E,E,E,E,Y⟩ E ⟨.inl E,.inl E,.inl E,.inl E,Y⟩) E E ?_
    refine oO ?_
    refine Af (Ag Γ.toTy 81 E E E E E (.row E) .sl y_ q_ q_) E E ?_
    refine oO ?_
    refine iW ?_
    have g1:(Bz n (E2 m1 dom t) q.origin (out.take (j+1))).1=(goesM n (Bz n (E2 m1 dom t) q.origin (out.take j)).1 o q.origin).1:=by rw[hs]
    have g2:(Bz n (E2 m1 dom t) q.origin (out.take (j+1))).2=(Bz n (E2 m1 dom t) q.origin (out.take j)).2++(goesM n (Bz n (E2 m1 dom t) q.origin (out.take j)).1 o q.origin).2:=by rw[hs]
    refine Av [(1000,81)] hlt ⟨⟨E,E,E,E,E,E,E,E,E,E,E,E,Y⟩,?_,E,E⟩
    dsimp only
    rw[g1,g2]
    exact⟨.inl E,E,.inl E,E,.inl E,E,.inl E,E,.inl E,E,.inl E,E,Y⟩
   ·have hjj:j=out.length:=qB h
    subst hjj
    rw[List.take_length]
    clear h
    refine oO ?_
    refine Ah 1000 E ?_
    exact done E (.cons .tmp .nil) [] (C8 n (Bz n (E2 m1 dom t) q.origin out).1 true) (fun _ h=>h) E E ⟨Y,⟨.inl E,E,.inl E,E,.inl E,E,.inl E,E,Y⟩,E,E⟩
 ·have h2:e=2:=by simpa using h
  clear h
  subst h2
  have hpd:Tz m1 dom (t,out,2)=Cg m1 2:=by
   unfold Tz
   rw[if_pos rfl]
  rw[hpd]at hres hz
  subst hres
  have q4:=Ahd n m1 true 2 j_ j_ ⟨(hok.1.drp _).1,by have:=(hok.1.drp (Int.toNat 2)).2;omega⟩
  refine oT ?_
  refine Af (Ad [] E F109 q4 E ⟨E,E,E,E,Y⟩ E ⟨.inl E,.inl E,.inl E,.inl E,Y⟩) E E ?_
  refine oO ?_
  have hdr:Qm (Cg m1 2):=fun i=>⟨(hz.drp i).1,by have:=(hz.drp i).2;omega⟩
  refine Cc 12 1000 3 D6 E E ?_
  refine A3 out.length (fun j=>[(0,.ptr 0 0),(7,.ptr 7 0),(12,.osl 1000),(69,.sl 9 Eb out),(70,Aa out.length),(71,Aa j)]) (fun j=>Aqk n (Bz n (Cg m1 2) q.origin (out.take j)).1 q (Bz n (Cg m1 2) q.origin (out.take j)).2) [] ⟨⟨E,E,E,E,E,E,E,E,E,E,E,E,Y⟩,⟨.inl E,E,.inl E,E,.inl E,E,.inl E,E,.inl E,E,.inl E,E,Y⟩,E,E⟩ ?_
  intro j hj
  refine oO ?_
  refine⟨fun h=>?_,fun h=>?_⟩
  ·have hlt:j<out.length:=qA h
   have hj0:((j:Nat):Int).toNat<out.length:=by simpa using hlt
   obtain ⟨o,hoo⟩:∃ o,out[j]=o:=⟨_,rfl⟩
   have e1:out[((j:Nat):Int).toNat]'hj0=o:=hoo
   have hs:=Sz n (Cg m1 2) q.origin out j hlt
   rw[hoo]at hs
   have hjo:=Ot hn q.origin (out.take j) hz q_ (fun x hx=>hb2 x (List.mem_of_mem_take hx))
   have hlen:(out.take j).length=j:=by rw[List.length_take];omega
   rw[hlen]at hjo
   have hsl:=Qi n q.origin (out.take j) (Cg m1 2)
   rw[hlen]at hsl
   have q5:=Yc n hn (Bz n (Cg m1 2) q.origin (out.take j)).1 true J _ hjo q_ o (hb2 o (by rw[← hoo];exact List.getElem_mem hlt)) q.origin
   have hfw:=Qh n (Bz n (Cg m1 2) q.origin (out.take j)).1 o q.origin
   clear h
   refine oO ?_
   refine⟨E,by omega,hj0,?_⟩
   rw[e1]
   conv=>whnf
   refine Af (Ad [] E F110 q5 E ⟨E,E,E,E,Y⟩ E ⟨.inl E,.inl E,.inl E,.inl E,Y⟩) E E ?_
   refine oO ?_
   refine Af (Ag Γ.toTy 81 E E E E E (.row E) .sl y_ q_ q_) E E ?_
   refine oO ?_
   refine iW ?_
   have g1:(Bz n (Cg m1 2) q.origin (out.take (j+1))).1=(goesM n (Bz n (Cg m1 2) q.origin (out.take j)).1 o q.origin).1:=by rw[hs]
   have g2:(Bz n (Cg m1 2) q.origin (out.take (j+1))).2=(Bz n (Cg m1 2) q.origin (out.take j)).2++(goesM n (Bz n (Cg m1 2) q.origin (out.take j)).1 o q.origin).2:=by rw[hs]
   refine Av [(1000,81)] hlt ⟨⟨E,E,E,E,E,E,E,E,E,E,E,E,Y⟩,?_,E,E⟩
   dsimp only
   rw[g1,g2]
   exact⟨.inl E,E,.inl E,E,.inl E,E,.inl E,E,.inl E,E,.inl E,E,Y⟩
  ·have hjj:j=out.length:=qB h
   subst hjj
   rw[List.take_length]
   clear h
   refine oO ?_
   refine Ah 1000 E ?_
   exact done E (.cons .tmp .nil) [] (C8 n (Bz n (Cg m1 2) q.origin out).1 true) (fun _ h=>h) E E ⟨Y,⟨.inl E,E,.inl E,E,.inl E,E,.inl E,E,Y⟩,E,E⟩
theorem Amn (l:List (List EntryM)) (now:Int) (j:Nat) (hj:j<l.length) :
  ((l.take j).map (fun t=>ageT t now)++l.drop j).set j (ageT l[j] now)=(l.take (j+1)).map (fun t=>ageT t now)++l.drop (j+1):=by
 apply List.ext_getElem
 ·simp only[List.length_set,List.length_append,List.length_map,List.length_take,List.length_drop];omega
 intro i h1 h2
 simp only[List.length_set,List.length_append,List.length_map,List.length_take,List.length_drop]at h1
 rw[List.getElem_set]
 by_cases hi:j=i
 ·subst hi
  rw[if_pos rfl,List.getElem_append_left (by simp;omega)]
  simp
 ·rw[if_neg hi]
  by_cases hlt:i<j
  ·rw[List.getElem_append_left (by simp;omega),List.getElem_append_left (by simp;omega)]
   simp
  ·rw[List.getElem_append_right (by simp;omega),List.getElem_append_right (by simp;omega)]
   simp only[List.getElem_drop,List.length_map,List.length_take]
   congr 1
   omega
theorem Aoh {P:Program} {o:Oper} {s:SS} {x y:Operand} {at_:Array TypeId} {k k':IntKind} {m n r:Int} (hr:(if n<m then n else m)=r) (h:o.op=.call ⟨.builtin .min,#[x,y],at_⟩)
  (hx:ev s x=.val (.int k m)) (hy:ev s y=.val (.int k' n)):Good P o s ⟨.val (.int k r),[],[]⟩:=by
 have:=Um (P:=P) h hx hy
 rwa [hr]at this
def Xs (l:List (List EntryM)) (now:Int) (j:Nat):List (List EntryM):=(l.take j).map (fun t=>ageT t now)++l.drop j
theorem Ast (l:List (List EntryM)) (now:Int) (j:Nat) (hj:j<l.length) (h2:j<(Xs l now j).length):(Xs l now j)[j]=l[j]:=by
 have h:(Xs l now j)[j]? = l[j]?:=by
  unfold Xs
  have hm:min j l.length=j:=by omega
  rw[List.getElem?_append_right (by simp;omega),List.getElem?_drop,List.length_map,List.length_take,hm,Nat.sub_self,Nat.add_zero]
 rw[List.getElem?_eq_getElem hj,List.getElem?_eq_getElem h2]at h
 exact Option.some.inj h
theorem Ahx (l:List (List EntryM)) (now:Int) (j:Nat):(Xs l now j).length=l.length:=by
 unfold Xs
 simp only[List.length_append,List.length_map,List.length_take,List.length_drop]
 omega
def tickO (n:Net) (m:MacM) (d:Bool) (now:Int) (j:Nat):Obs:=[(0,.box (M3 n 1 now m.injected m.drops)),(1,.box (Is n m.up d)),(2,.row 1 K4 (Xs m.tables now j)),(3,.row 1 Mp m.queues)]
theorem Ap2 (n:Net) (m:MacM) (d:Bool) (J D:Int) (hm0:MacOK n m J D) (hs:Ak n.domains) :
  Sy.Spec Tryz.prog 63 [.ptr 0 0] (C8 n m d) (.tup []) (C8 n (Qv m) d):=cT F63 Tryz.ntmps63 fun F hF=>by
 unfold Ak at hs
 have hnow:=hm0.now
 have htl:m.tables.length<2147483648:=by rw[hm0.tabs];exact hs
 have hto:=hm0.tab
 obtain ⟨nw,hnw⟩:∃ nw,(if 1099511627776<m.now+1 then 1099511627776 else m.now+1)=nw:=⟨_,rfl⟩
 have hti:Qv m=⟨m.up,Xs m.tables nw m.tables.length,m.queues,nw,m.injected,m.drops⟩:=by
  have:min (m.now+1) 1099511627776=nw:=by rw[← hnw];split<;>omega
  unfold Qv Xs
  rw[this,List.take_length,List.drop_length,List.append_nil]
 rw[hti]
 conv=>whnf
 refine iW ?_
 refine Af (Aoh hnw E E E) E E ?_
 refine oO ?_
 refine A3 m.tables.length (fun j=>[(0,.ptr 0 0),(16,.osl 2),(17,Aa m.tables.length),(18,Aa j)]) (fun j=>tickO n m d nw j) [] ⟨⟨E,E,E,E,E,E,E,E,Y⟩,⟨.inl E,E,.inl E,E,.inl E,E,.inl E,E,Y⟩,E,E⟩ ?_
 intro j hj
 refine oO ?_
 refine⟨fun h=>?_,fun h=>?_⟩
 ·have hlt:j<m.tables.length:=qA h
  have hal:=Ahx m.tables nw j
  have hj0:((j:Nat):Int).toNat<(Xs m.tables nw j).length:=by rw[hal];simpa using hlt
  obtain ⟨t,hoo⟩:∃ t,m.tables[j]=t:=⟨_,rfl⟩
  have e1:(Xs m.tables nw j)[((j:Nat):Int).toNat]'hj0=t:=(Ast m.tables nw j hlt (by rw[hal];exact hlt)).trans hoo
  have hs:=Amn m.tables nw j hlt
  rw[hoo]at hs
  have ht:=hto t (by rw[← hoo];exact List.getElem_mem hlt)
  clear h
  refine oO ?_
  refine⟨by omega,hj0,?_⟩
  conv=>whnf
  refine⟨E,hj0,?_⟩
  rw[e1]
  conv=>whnf
  refine cD (Ate t nw ht.short ht.mac) F111 ?_
  refine oD ?_
  refine⟨by omega,hj0,?_⟩
  conv=>whnf
  refine⟨E,hj0,ageT t nw,E,E,?_⟩
  conv=>whnf
  refine kW ?_
  refine iW ?_
  exact Av [] hlt ⟨⟨E,E,E,E,E,E,E,E,Y⟩,⟨.inl E,E,.inl E,E,.inl (congrArg (Ob.row 1 K4) hs.symm),E,.inl E,E,Y⟩,E,E⟩
 ·have hjj:j=m.tables.length:=qB h
  subst hjj
  clear h
  refine oO ?_
  exact A1 E .nil [] (C8 n ⟨m.up,Xs m.tables nw m.tables.length,m.queues,nw,m.injected,m.drops⟩ d) (fun _ h=>h) E E ⟨Y,⟨.inl E,E,.inl E,E,.inl E,E,.inl E,E,Y⟩,E,E⟩
def Afd (n:Net) (m:MacM) (d:Bool):Obs:=[(0,.box (M3 n 4 m.now m.injected m.drops)),(1,.non),(2,.row 1 K4 m.tables),(3,.row 1 Mp m.queues),(4,.box (Is n m.up d))]
def upT (m:MacM) (up:List Bool):MacM:=⟨up,m.tables,m.queues,m.now,m.injected,m.drops⟩
def doD (n:Net) (m:MacM) (d:Bool) (x:StepM):Bool :=
 if x.kind=1 then d else if x.kind=2 then (if (takeM m x.domain x.at_).2.2 then true else d) else if x.kind=3 then d else if x.kind=4 then d else if x.kind=5 then (if x.up.length=n.links.length then false else d) else d
theorem Ap6 (n:Net) (hn:n.Fin) (hm1:n.Num) (m:MacM) (d:Bool) (J D:Int) (hm0:MacOK n m J D) (hJ:J<900000000000) (hD0:0≤D) (hD:D≤900000000000) (x:StepM) (hb:x.bytes.length<100000) :
  Sy.Spec Tryz.prog 20 [.ptr 0 0,Eh x] (C8 n m d) (.tup [.sl 3 D6 (doT n m x).2,Aa 0]) (Afd n (doT n m x).1 (doD n m d x)):=cT F20 Tryz.ntmps20 fun F hF=>by
 have hres:=doT.eq_1 n m x
 generalize doT n m x=res at *
 have hdd:=doD.eq_1 n m d x
 generalize doD n m d x=dd at *
 conv=>whnf
 refine Af (Ur (d:=900) E E E) E E ?_
 refine oF ?_
 refine⟨fun h=>?_,fun h=>?_⟩
 ·have h1:x.kind=1:=by simpa using h
  rw[if_pos h1]at hres hdd
  subst hres
  subst hdd
  have q1:=Aio n hn m dd J D hm0 q_ q_ x.port x.bytes hb
  refine oO ?_
  refine Af (Ad [] E F60 q1 E ⟨E,E,E,E,Y⟩ E ⟨.inl E,.inl E,.inl E,.inl E,Y⟩) E E ?_
  refine oO ?_
  refine Ao 4 3 D6 E ?_
  refine Jm 1 4 E E j_ ?_
  exact done E (.cons .tmp (.cons .tmp .nil)) [] (Afd n (injectT n m x.port x.bytes) dd) (fun _ h=>h) E E ⟨Y,⟨.inl E,E,.inl E,E,.inl E,E,.inl E,E,.inl E,E,Y⟩,E,E⟩
 have h1:¬ x.kind=1:=by simpa using h
 rw[if_neg h1]at hres hdd
 clear h
 refine oO ?_
 refine⟨fun h=>?_,fun h=>?_⟩
 ·have h1:x.kind=2:=by simpa using h
  rw[if_pos h1]at hres hdd
  subst hres
  have q1:=Ap3 n hn hm1 m d J D hm0 hD0 hD x.domain x.at_
  rw[← hdd]at q1
  refine oO ?_
  refine Af (Ad [] E F61 q1 E ⟨E,E,E,E,Y⟩ E ⟨.inl E,.inl E,.inl E,.inl E,Y⟩) E E ?_
  refine oO ?_
  refine Jm 1 4 E E j_ ?_
  exact done E (.cons .tmp (.cons .tmp .nil)) [] (Afd n (pickT n m x.domain x.at_).1 dd) (fun _ h=>h) E E ⟨Y,⟨.inl E,E,.inl E,E,.inl E,E,.inl E,E,.inl E,E,Y⟩,E,E⟩
 have h1:¬ x.kind=2:=by simpa using h
 rw[if_neg h1]at hres hdd
 clear h
 refine oO ?_
 refine⟨fun h=>?_,fun h=>?_⟩
 ·have h1:x.kind=3:=by simpa using h
  rw[if_pos h1]at hres hdd
  subst hres
  subst hdd
  have q1:=Afc n m dd x.domain x.at_ (Ey hm0 _)
  refine oO ?_
  refine Af (Ad [] E F62 q1 E ⟨E,E,E,E,Y⟩ E ⟨.inl E,.inl E,.inl E,.inl E,Y⟩) E E ?_
  refine oO ?_
  refine Ao 4 3 D6 E ?_
  refine Jm 1 4 E E j_ ?_
  exact done E (.cons .tmp (.cons .tmp .nil)) [] (Afd n (takeM m x.domain x.at_).1 dd) (fun _ h=>h) E E ⟨Y,⟨.inl E,E,.inl E,E,.inl E,E,.inl E,E,.inl E,E,Y⟩,E,E⟩
 have h1:¬ x.kind=3:=by simpa using h
 rw[if_neg h1]at hres hdd
 clear h
 refine oO ?_
 refine⟨fun h=>?_,fun h=>?_⟩
 ·have h1:x.kind=4:=by simpa using h
  rw[if_pos h1]at hres hdd
  subst hres
  subst hdd
  have q1:=Ap2 n m dd J D hm0 hn.domains
  refine oO ?_
  refine Af (Ad [] E F63 q1 E ⟨E,E,E,E,Y⟩ E ⟨.inl E,.inl E,.inl E,.inl E,Y⟩) E E ?_
  refine oO ?_
  refine Ao 4 3 D6 E ?_
  refine Jm 1 4 E E j_ ?_
  exact done E (.cons .tmp (.cons .tmp .nil)) [] (Afd n (Qv m) dd) (fun _ h=>h) E E ⟨Y,⟨.inl E,E,.inl E,E,.inl E,E,.inl E,E,.inl E,E,Y⟩,E,E⟩
 have h1:¬ x.kind=4:=by simpa using h
 rw[if_neg h1]at hres hdd
 clear h
 refine oO ?_
 refine⟨fun h=>?_,fun h=>?_⟩
 ·have h1:x.kind=5:=by simpa using h
  rw[if_pos h1]at hres hdd
  clear h
  refine oO ?_
  refine kW ?_
  refine⟨fun h=>?_,fun h=>?_⟩
  ·have h2:x.up.length=n.links.length:=qA h
   rw[if_pos h2]at hres hdd
   subst hres
   subst hdd
   clear h
   have hls:=hn.links
   unfold Ak at hls
   refine oO ?_
   refine c0 (Akl x.up q_) F64 ?_
   refine oO ?_
   refine Ao 4 3 D6 E ?_
   refine Am 55 (Is n x.up false) E vL ?_
   exact done E (.cons .tmp (.cons .tmp .nil)) [(4,55)] (Afd n (upT m x.up) false) (fun _ h=>h) E E ⟨Y,⟨.inl E,E,.inr E,E,.inl E,E,.inl E,E,.inl E,E,Y⟩,E,E⟩
  ·have h2:¬ x.up.length=n.links.length:=qB h
   rw[if_neg h2]at hres hdd
   subst hres
   subst hdd
   clear h
   refine oO ?_
   refine Ao 4 3 D6 E ?_
   refine Jm 1 4 E E j_ ?_
   exact done E (.cons .tmp (.cons .tmp .nil)) [] (Afd n m dd) (fun _ h=>h) E E ⟨Y,⟨.inl E,E,.inl E,E,.inl E,E,.inl E,E,.inl E,E,Y⟩,E,E⟩
 have h1:¬ x.kind=5:=by simpa using h
 rw[if_neg h1]at hres hdd
 subst hres
 subst hdd
 clear h
 refine oO ?_
 refine Ao 4 3 D6 E ?_
 refine Jm 1 4 E E j_ ?_
 exact done E (.cons .tmp (.cons .tmp .nil)) [] (Afd n m dd) (fun _ h=>h) E E ⟨Y,⟨.inl E,E,.inl E,E,.inl E,E,.inl E,E,.inl E,E,Y⟩,E,E⟩
theorem Ain (n:Net) (hn:n.Fin) (hb:okB n (List.replicate n.links.length true)=false) :
  Sy.Spec Tryz.prog 18 [Aj n] [] (.tup [.val (.pointer none),Aa 2]) []:=cT F18 Tryz.ntmps18 fun F hF=>by
 have hls:=hn.links
 unfold Ak at hls
 have q1:=Alf n.links.length q_
 have q2:=Zo n (List.replicate n.links.length true) hn hb
 generalize List.replicate n.links.length true=up at *
 conv=>whnf
 refine I5 7 Ab [true] E E ?_
 refine Ah 7 E ?_
 refine oO ?_
 refine c0 q1 F57 ?_
 refine oO ?_
 refine c0 q2 F58 ?_
 refine oT ?_
 exact dN
theorem Ati (n:Net) (hn:n.Fin) (hb:okB n (List.replicate n.links.length true)=true) :
  Sy.Spec Tryz.prog 18 [Aj n] [] (.tup [.ptr 0 0,Aa 0]) (C8 n (newT n) false):=cT F18 Tryz.ntmps18 fun F hF=>by
 have hls:=hn.links
 have hds:=hn.domains
 unfold Ak at hls hds
 have q1:=Alf n.links.length q_
 have q2:=Ach n (List.replicate n.links.length true) hn hb
 have hnt:=newT.eq_1 n
 generalize newT n=m at *
 generalize List.replicate n.links.length true=up at *
 conv=>whnf
 refine I5 7 Ab [true] E E ?_
 refine Ah 7 E ?_
 refine oO ?_
 refine c0 q1 F57 ?_
 refine oO ?_
 refine c0 q2 F58 ?_
 refine oF ?_
 refine cD (copyS n hn) F59 ?_
 refine oD ?_
 refine Bm (Bp Γ.toTy (d:=28) (n:=n.domains.length) (fun _:Unit=>.val (.slice none 0 0)) () E E E E E E E E q_ q_ E E E) z_ E ?_
 refine oD ?_
 refine Bm (Bp Γ.toTy (d:=32) (n:=n.domains.length) (fun _:Unit=>.val (.slice none 0 0)) () E E E E E E E E q_ q_ E E E) z_ E ?_
 refine oD ?_
 refine⟨z_,?_⟩
 refine Ah0 28 (e':=K4) (l':=List.replicate n.domains.length []) E y_ (fun M w i h1 h2 v hv=>?_) ?_
 ·rw[List.getElem_replicate]
  simp only[RdD]at hv
  exact Aam hv
 refine Ah0 32 (e':=Mp) (l':=List.replicate n.domains.length []) E y_ (fun M w i h1 h2 v hv=>?_) ?_
 ·rw[List.getElem_replicate]
  simp only[RdD]at hv
  exact Aam hv
 refine Am 24 (Is n up false) E vL ?_
 refine oO ?_
 subst hnt
 exact done E (.cons .tmp (.cons .tmp .nil)) [(0,34),(1,24),(2,28),(3,32)] (C8 n ⟨up,List.replicate n.domains.length [],List.replicate n.domains.length [],0,0,fun _=>0⟩ false) (fun _ h=>h) E E ⟨Y,⟨.inl E,E,.inl E,E,.inl E,E,.inl E,E,Y⟩,E,E⟩
end Go.Sy.YtcflgpijohhfbaaGreat
namespace Go.Sy.YtcflgpijohhfbaaGreat
open Go.Proofs
def runF (n:Net) (s:MacM × Bool) (l:List StepM):MacM × Bool:=l.foldl (fun s x=>((doT n s.1 x).1,doD n s.1 s.2 x)) s
def runD (n:Net) (m:MacM) (d:Bool) (l:List StepM):Bool:=(runF n (m,d) l).2
theorem doT_ok {n:Net} (hn:n.Fin) (hm1:n.Num) {m:MacM} {J D:Int} (h:MacOK n m J D) (hJ:0≤J) (hD:0≤D) (x:StepM):MacOK n (doT n m x).1 (J+1) (D+4294967298):=by
 unfold doT
 split
 ·exact(Aju hn h hJ hD _ _).mono q_ q_
 split
 ·have hok:=X7 h x.domain x.at_
  unfold pickT
  split
  ·exact hok.1.mono q_ q_
  ·have hb:=W7 hn (Li n (takeM m x.domain x.at_).1.up) (tableL (takeM m x.domain x.at_).1 x.domain) x.domain (takeM m x.domain x.at_).2.1 (takeM m x.domain x.at_).1.now
   have h1:=Af1 hok.1 hD x.domain (W5 (n:=n) (fw:=Li n (takeM m x.domain x.at_).1.up) (dom:=x.domain) (now:=(takeM m x.domain x.at_).1.now) (Vm hok.1 x.domain) hok.2)
   have h2:=Ot hn (takeM m x.domain x.at_).2.1.origin (Af2 n (takeM m x.domain x.at_).1 x.domain (takeM m x.domain x.at_).2.1).2.1 h1 q_ (W6 hn hm1 hok.2)
   refine h2.mono q_ ?_
   unfold Af2
   omega
 split
 ·exact(X7 h x.domain x.at_).1.mono q_ q_
 split
 ·have h1:=h.now
  refine⟨h.up,by unfold Qv;simp only[List.length_map];exact h.tabs,h.ques,fun t ht=>?_,h.que,?_,?_,fun i=>?_⟩
  ·unfold Qv at ht
   obtain ⟨t0,ht0,rfl⟩:=List.mem_map.1 ht
   exact Auw (h.tab t0 ht0) _
  ·unfold Qv
   dsimp only
   omega
  ·have:=h.inj
   unfold Qv
   dsimp only
   omega
  ·have:=h.drp i
   unfold Qv
   dsimp only
   omega
 split
 ·split
  ·rename_i h2
   exact MacOK.mono (n:=n) (m:=⟨x.up,m.tables,m.queues,m.now,m.injected,m.drops⟩) ⟨h2,h.tabs,h.ques,h.tab,h.que,h.now,h.inj,h.drp⟩ q_ q_
  ·exact h.mono q_ q_
 ·exact h.mono q_ q_
theorem Aln (n:Net):MacOK n (newT n) 0 0:=by
 refine⟨by simp[newT],by simp[newT],by simp[newT],fun t ht=>?_,fun l hl=>?_,by simp[newT],by simp[newT],fun i=>by simp[newT]⟩
 ·have:t=[]:=(List.mem_replicate.1 ht).2
  rw[this];exact Vy
 ·have:l=[]:=(List.mem_replicate.1 hl).2
  rw[this];exact Wr
def upsT (n:Net):List Bool:=List.replicate n.links.length true
attribute [local irreducible] Go.Sy.G Go.Sy.DR
set_option maxRecDepth 100000
set_option maxHeartbeats 4000000
end Go.Sy.YtcflgpijohhfbaaGreat
namespace Go.Sy.YtcflgpijohhfbaaGreat
open Go.Proofs
theorem Aag {P:Hop→Prop} {S:Srch} (h:∀ f∈S.list,P f.hop) (d k:Int) {x:Hop} (hx:P x) (a:Int):∀ f∈(meetT S d k x a).list,P f.hop:=by
 rw[meetT]
 split
 ·exact h
 ·rw[Jx]
  split<;>(intro f hf;rcases List.mem_append.1 hf with hf | hf;exact h f hf;rw[List.mem_singleton]at hf;subst hf;exact hx)
theorem Aah {P:Hop→Prop} {k i:Int}:∀ {l:List Hop} {S:Srch},(∀ f∈S.list,P f.hop)→(∀ h∈l,P h)→∀ f∈(ext1 S k i l).list,P f.hop
 | [],S,h,_=>h
 | x::l,S,h,hl=>Aah (l:=l) (Aag h x.domain k (hl x y_) i) (fun y hy=>hl y (by simp[hy]))
theorem Ahu {P:Hop→Prop} {i:Int}:∀ {l:List Lead} {S:Srch},(∀ f∈S.list,P f.hop)→(∀ q∈l,P ⟨3,0,q.domain,q.addr⟩)→∀ f∈(ext2 S i l).list,P f.hop
 | [],S,h,_=>h
 | x::l,S,h,hl=>Ahu (l:=l) (Aag h x.domain 1 (hl x y_) i) (fun y hy=>hl y (by simp[hy]))
theorem Aus {P:Hop→Prop} {n:Net} (h1:∀ d,∀ x∈Do n d,P x) (h2:∀ d,∀ q∈routesT n d,P ⟨3,0,q.domain,q.addr⟩) {S:Srch} (h:∀ f∈S.list,P f.hop) (i:Int):∀ f∈(extT n S i).list,P f.hop:=by
 rw[extT]
 split
 ·exact Ahu (Aah h (h1 _)) (h2 _)
 ·exact Aah h (h1 _)
theorem Ao2 {P:Hop→Prop} {n:Net} {dev:Int} (h:∀ d,P ⟨0,0,d,0⟩) (l:List Int):∀ f∈(Kb n dev l).list,P f.hop:=by
 suffices hs:∀ (l:List Int) (S:Srch),(∀ f∈S.list,P f.hop)→∀ f∈(l.foldl (Hj n dev) S).list,P f.hop from hs l _ (fun f hf=>by simp[Hv]at hf)
 intro l
 induction l with
 | nil=>exact fun S h=>h
 | cons x l ih =>
  intro S hS
  refine ih _ ?_
  rw[Hj]
  split
  ·exact hS
  ·exact Aag hS _ _ (h _) _
theorem Aaf {P:Hop→Prop} {n:Net} (h1:∀ d,∀ x∈Do n d,P x) (h2:∀ d,∀ q∈routesT n d,P ⟨3,0,q.domain,q.addr⟩) {to:Int}:∀ (k:Nat) (S:Srch) (i:Nat),S.OK n→Backs S.list→(∀ f∈S.list,P f.hop)→i≤S.list.length→(Db n to k S i).2=true →
  ∀ h∈(Db n to k S i).1,P h
 | 0,S,i,_,_,_,_,h=>by cases h
 | k+1,S,i,ok,bk,hk,hi,h=>by
  rw[Db]at h ⊢
  split at h
  ·rename_i hlt
   rw[if_pos hlt]
   split at h
   ·rename_i hm2
    rw[if_pos hm2]
    exact(W8 bk hk hlt).1
   ·rename_i hm2
    rw[if_neg hm2]
    have bk':=bk.ext (n:=n) (i:=i) ⟨by omega,by omega⟩
    exact Aaf h1 h2 k _ _ (ok.ext i) bk'.1 (Aus h1 h2 hk i) q_ h
  ·cases h
theorem Aur {P:Hop→Prop} {n:Net} (h1:∀ d,∀ x∈Do n d,P x) (h2:∀ d,∀ q∈routesT n d,P ⟨3,0,q.domain,q.addr⟩) (h3:∀ d,P ⟨0,0,d,0⟩) {from_ to:Int} (h:(wayT n from_ to).2=true):∀ x∈(wayT n from_ to).1,P x:=by
 rw[wayT]at h ⊢
 split at h
 ·rename_i hc
  rw[if_pos hc]
  have hp:=J4 hc.1
  have ok0:(beginT n from_).OK n:=by
   rw[beginT,Ae hp.2]
   exact Ql fun v hv h0=>Hr hc.2.2.2 hp.2 hv h0
  have bk0:Backs (beginT n from_).list:=by rw[beginT];exact Mg _ _ _
  exact Aaf h1 h2 _ _ _ ok0 bk0 (by rw[beginT];exact Ao2 h3 _) (Nat.zero_le _) h
 ·cases h
def LinkOK (n:Net) (h:Hop):Prop:=h.kind=1→(0≤h.port∧h.port.toNat<n.ports.length)∧0≤(nth n.ports h.port).link∧(nth n.ports h.port).link.toNat<n.links.length
theorem Af6 {n:Net} {i:Int} (h:0≤B3 n i):(0≤i∧i.toNat<n.ports.length)∧0≤(nth n.ports i).link∧(nth n.ports i).link.toNat<n.links.length:=by
 have ht:=D7 h
 unfold B3 at h
 split at h
 ·rename_i hc
  have e1:nth n.ports i=n.ports[i.toNat]:=Ae ht.1.2
  rw[e1]at hc ⊢
  exact⟨ht.1,hc.2.1,(Ew hc.2.2 ht.1.2 hc.2.1).1⟩
 ·omega
theorem way_links {n:Net} {from_ to:Int} (h:(wayT n from_ to).2=true):∀ x∈(wayT n from_ to).1,LinkOK n x:=by
 refine Aur (fun d x hx=>?_) (fun d q _ e=>?_) (fun d e=>?_) h
 ·rw[Do]at hx
  split at hx
  ·rcases List.mem_append.1 hx with hx | hx
   ·obtain ⟨p,_,hp⟩:=List.mem_filterMap.1 hx
    rw[linkHop]at hp
    split at hp
    ·rename_i hc
     simp only[Option.some.injEq]at hp
     subst hp
     intro _
     refine Af6 ?_
     rw[linkDomT]at hc
     split at hc
     ·rename_i hd
      rw[crossT]at hd
      split at hd
      ·rename_i hc2;exact hc2.1
      ·cases hd
     ·cases hc
    ·cases hp
   ·obtain ⟨p,hp,rfl⟩:=List.mem_map.1 hx
    intro e
    simp[Jh]at e
  ·cases hx
 ·simp at e
 ·simp at e
def Xu:Nat:=2203318222849
def stepB (n:Net) (l:List Hop) (i:Nat) (h:Hop):Bool:=Ai h.domain n.domains.length && !(decide (h.kind=3) && (decide (i=0) || decide ((nth n.domains (nth l ((i:Int)-1)).domain).irb<0)))
def Vs (l:List Hop):Int:=B9 (fun h=>decide (h.kind=3)) l
def Xf (a:Nat):PacketM:=⟨0,0,64,17,1,a,[]⟩
def irbOf (n:Net) (l:List Hop):Irb:=nth n.irbs (nth n.domains (nth l (Vs l-1)).domain).irb
def frameW (n:Net) (l:List Hop):FrameM:=if 0<Vs l then ⟨Iv (irbOf n l).addr,Xu,2048,(ipPutT (Xf (nth l (Vs l)).addr.toNat)).1⟩ else ⟨281474976710655,Xu,34997,[]⟩
def wayBytes (n:Net) (l:List Hop):List UInt8 × Int:=if Ac n=true∧l≠[]∧Er (stepB n l) l=true then (Sp (frameW n l),0) else ([],2)
def injectW (n:Net) (from_:Int) (l:List Hop):StepM :=
 ⟨1,from_,0,0,if (nth n.domains (nth l 0).domain).vlan≠(nth n.ports from_).native then Sp (tagT (takeF (wayBytes n l).1).1 (nth n.domains (nth l 0).domain).vlan).1 else (wayBytes n l).1,[]⟩
structure GoM where
 m:MacM
 d:Bool
 out:List StepM
def doW (n:Net) (s:GoM) (x:StepM):GoM:=⟨(doT n s.m x).1,doD n s.m s.d x,s.out++[x]⟩
def pickX (m:MacM) (d:Int):StepM:=⟨2,0,d,if (((if Ai d m.queues.length then queueL m d else []).length:Int)-1)<0 then 0 else ((if Ai d m.queues.length then queueL m d else []).length:Int)-1,[],[]⟩
def Yu (n:Net) (s:GoM) (d:Int):GoM:=doW n s (pickX s.m d)
def upW (n:Net) (h:Hop):List Bool:=(List.replicate n.links.length false).set (nth n.ports h.port).link.toNat true
def linkW (n:Net) (s:GoM) (h:Hop):GoM:=if h.kind=1 then doW n s ⟨5,0,0,0,[],upW n h⟩ else s
def goW (n:Net) (from_:Int) (l:List Hop):Nat→GoM
 | 0=>doW n ⟨newT n,false,[]⟩ (injectW n from_ l)
 | k+1=>Yu n (linkW n (goW n from_ l k) (nth l ((k+1:Nat):Int))) (nth l ((k:Nat):Int)).domain
def Auh (n:Net) (from_:Int) (l:List Hop):GoM:=Yu n (goW n from_ l (l.length-1)) (nth l ((l.length:Int)-1)).domain
def wscriptT (n:Net) (from_ to:Int):List StepM × Int :=
 if H9 n from_=true∧H9 n to=true∧from_≠to∧okB n (upsT n)=true then
  (if (wayT n from_ to).2=true then ((Auh n from_ (wayT n from_ to).1).out,0) else ([],31))
 else ([],2)
end Go.Sy.YtcflgpijohhfbaaGreat
