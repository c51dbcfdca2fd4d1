/-
  Z3 Z4 Z5 Z6 Z7 Z8 Z9 Z10 Z11 Z12 Z13 Z14 Z15 Z16 H1 T18 T20 T22 T23 T24: parts of a proof, joined by program.
-/
import Derived.Test.YtljngfegfclkpaaGreatYA15
import Derived.Test.YtljngfegfclkpaaGreatYA8
import Derived.Tactics
import Derived.Tactics2
import Derived.Defers
import Derived.Laws.Pointers
import Derived.Laws.LoneSync
import Derived.RegionTactic
import Derived.RegionCalls
import Derived.ChangeAlike
import Derived.Laws.NewBlocks
import Derived.Test.YtljngfegfclkpaaGreatYA13
import Derived.Test.YtljngfegfclkpaaGreatYA14
import Derived.Test.YtljngfegfclkpaaGreatYA5
import Derived.Test.YtljngfegfclkpaaGreatYA12
set_option linter.all false
set_option linter.unusedVariables false
set_option linter.unusedSimpArgs false
set_option linter.deprecated false
namespace Go.Sy.YtljngfegfclkpaaGreat
open Go.Proofs
attribute [local irreducible] Go.Sy.G Go.Sy.DR
set_option maxRecDepth 100000
set_option maxHeartbeats 4000000
theorem Adw (m:Nat) (h:m<4294967296):bits .and .u64 (m:Int) 4294967295=(m:Int):=by
 have:=bits_and_u64_nat m 4294967295 q_ j_
 rw[show ((4294967295:Nat):Int)=4294967295 from rfl]at this
 rw[this]
 have h2:=vQ m 32
 rw[show 2 ^ 32-1=4294967295 from rfl,show 2 ^ 32=4294967296 from rfl]at h2
 rw[h2,yW h]
theorem Anr (m:Nat) (h:m<4294967296):(m:Int).fdiv (2 ^ (min (Int.toNat 32) IntKind.u64.bits))=0:=by
 show (m:Int).fdiv 4294967296=0
 rw[xY _ j_]
 omega
theorem mul64S (m:Nat) (h:m<4294967296):Sp 141 [Bb 1,Bb m] (.tup [Bb 0,Bb m]):=cT F141 Tryz.ntmps141 λ F hF=>by
 have e0:bits .and .u64 1 4294967295=1:=Adw 1 j_
 have e1:(1:Int).fdiv (2 ^ (min (Int.toNat 32) IntKind.u64.bits))=0:=Anr 1 j_
 have e2:=Adw m h
 have e3:=Anr m h
 have w1:IntKind.u64.wrap (1 * (m:Int))=m:=by rw[IntKind.wrap_u64];omega
 have w0:IntKind.u64.wrap (0 * (m:Int))=0:=by rw[IntKind.wrap_u64];omega
 have z0:IntKind.u64.wrap (0+0)=0:=rfl
 have a0:bits .and .u64 0 4294967295=0:=Adw 0 j_
 have s0:(0:Int).fdiv (2 ^ (min (Int.toNat 32) IntKind.u64.bits))=0:=Anr 0 j_
 conv=>whnf
 rw[e0]
 refine⟨by decide,?_⟩
 rw[e1]
 conv=>whnf
 rw[e2]
 refine⟨by decide,?_⟩
 rw[e3]
 conv=>whnf
 rw[w1,w0]
 refine⟨by decide,?_⟩
 rw[e3]
 conv=>whnf
 rw[z0,a0]
 refine⟨by decide,?_⟩
 rw[s0]
 conv=>whnf
 refine⟨by decide,?_⟩
 conv=>whnf
 refine Ap E (.cons .tmp (.cons .tmp .nil)) ?_ E
 refine zD (λ z:Int=>SV.tup [Bb 0,Bb z]) ?_
 exact w1.symm
theorem mulS (m:Nat) (h:m<4294967296):Sp 79 [Bb 1,Bb m] (.tup [Bb 0,Bb m]):=cT F79 Tryz.ntmps79 λ F hF=>by
 ((conv=>whnf);refine aF ?_;refine rg ?_;conv=>whnf)
 refine c0 (mul64S m h) F141 ?_
 refine oO ?_
 exact dN
def Lk (m k:Nat):List Bool:=List.replicate k true++List.replicate (m-k) false
theorem Q9 (m k:Nat) (h:k≤m):(Lk m k).length=m:=by simp[Lk];omega
theorem Awi (m:Nat):Lk m m=List.replicate m true:=by simp[Lk]
theorem As6 (m k c:Nat) (_h:k≤m) (hc:c=min k (m-k)):(Lk m k).take k++(Lk m k).take c++(Lk m k).drop (k+c)=Lk m (k+c):=by
 have e1:(Lk m k).take k=List.replicate k true:=by
  rw[Lk,uN y_];simp
 have e2:(Lk m k).take c=List.replicate c true:=by
  rw[Lk,uN (by simp;omega)];simp;omega
 have e3:(Lk m k).drop (k+c)=List.replicate (m-(k+c)) false:=by
  rw[Lk,List.drop_append,uT y_,tL]
  simp
  omega
 rw[e1,e2,e3,Lk,List.replicate_append_replicate]
theorem Aqw (m:Nat) (h:m<2147483648):Sp 32 [.sl 1 Ac [true],Aa m] (.sl 1 Ac (List.replicate m true)):=cT F32 Tryz.ntmps32 λ F hF=>by
 have hw:IntKind.u64.wrap (m:Int)=m:=by rw[IntKind.wrap_u64];omega
 have hw2:IntKind.i64.wrap (m:Int)=m:=by rw[IntKind.wrap_i64];omega
 have q:=mulS m q_
 rw[← hw]at q
 ((conv=>whnf);refine aF ?_;refine rg ?_;conv=>whnf)
 refine c0 q F79 ?_
 rw[hw]
 refine oF ?_
 refine⟨λ h1=>zW (zK h1) q_,λ _=>?_⟩
 refine oO ?_
 rw[hw2]
 refine Ag (Bw Γ.toTy (d:=30) (n:=m) Ac false E E E E E E E E q_ q_ E E E) E E ?_
 refine oO ?_
 refine Ag (Y2 Γ.toTy (l:=List.replicate m false) (m:=[true]) E E E E E .sl) E E ?_
 have e0:[true].take (List.replicate m false).length++(List.replicate m false).drop [true].length=Lk m (min 1 m):=by
  cases m with
  | zero=>rfl
  | succ m=>simp[Lk,Nat.min_eq_left,tH]
 have e1:min [true].length (List.replicate m false).length=min 1 m:=by simp
 rw[e0,e1]
 refine oO ?_
 refine Db (λ k:Nat=>min 1 m≤k∧k≤m) (λ k=>[(7,.osl 30),(8,Aa k)]) (λ k=>[(30,.row 1 Ac (Lk m k))]) (λ k=>m-k) (min 1 m) [] q_ ⟨⟨E,E,E,E,Y⟩,⟨.inl E,E,Y⟩,E,E⟩ ?_
 intro k hk
 have hl:=Q9 m k hk.2
 refine oO ?_
 constructor<;>intro h1
 ·have hlt:k<m:=by have:=zK h1;rw[hl]at this;omega
  clear h1
  have hk1:1≤k:=by omega
  have hne:Lk m k≠[]:=λ e=>by rw[e]at hl;simp at hl;omega
  refine Ar1 30 [7] E hne (λ i hi=>by simp at hi;subst hi;rfl) ?_
  intro b cap hc
  rw[hl]at hc ⊢
  have hcl:¬ cap=k:=by omega
  have hcp:=As6 m k (min k (m-k)) hk.2 rfl
  refine oO ?_
  refine Bs (Dy (lo:=k) (hi:=m) Γ.toTy E E E E (.inr ⟨_,_,E,E⟩) (.inl ⟨E,E⟩) q_ q_) z_ E ?_
  refine oD ?_
  refine Bs (Dy (lo:=0) (hi:=k) Γ.toTy E E E E (.inl ⟨E,E⟩) (.inr ⟨_,_,E,E⟩) q_ q_) z_ E ?_
  refine oD ?_
  refine Bs (Aet Γ.toTy 30 (lo:=k) (k:=k) E E E E (by rw[zA hcl,Nat.mul_one]) E (by rw[zA q_,Nat.zero_mul]) E hl q_ q_) z_ E ?_
  refine oD ?_
  refine iW ?_
  refine kW ?_
  refine Aa5 30 31 [7] m E E (by rw[hcp,Q9 m _ q_];exact zZ _) (λ i hi=>by simp at hi;subst hi;rfl) ?_
  have hfin:((Lk m k).take k++(Lk m k).take (min k (m-k))++(Lk m k).drop (k+min k (m-k))).take m=Lk m (k+min k (m-k)):=by
   rw[hcp,yX (by rw[Q9 m _ q_];exact zZ _)]
  exact Bd (k+min k (m-k)) [(30,31)] q_ q_ ⟨⟨E,E,E,E,Y⟩,⟨.inl (zD (Ob.row 1 Ac) hfin.symm),E,Y⟩,E,E⟩
 ·have hkm:k=m:=by have:=zN h1;rw[hl]at this;omega
  subst hkm
  rw[Awi]
  refine oO ?_
  refine Ai 30 E ?_
  exact dN
def Ma (t:List EntryM):SV:=.sl 3 A1 t
def M4 (l:List QueuedM):SV:=.sl 7 Bv l
def Qv (n:Net) (k:Nat) (now inj:Int) (d:Nat→Int):List SV :=
 [.sl 5 Aq n.devices,.sl 7 Aw n.ports,.sl 3 Br n.links,.sl 6 An n.domains,.sl 4 As n.statics,.sl 4 A3 n.floods,.sl 5 B5 n.vrfs,.sl 5 By n.irbs,.ptr k 0,.osl 2,.osl 3,.val (.int .i64 now),.val (.int .i64 inj),
 .val (.int .i64 (d 0)),.val (.int .i64 (d 1)),.val (.int .i64 (d 2)),.val (.int .i64 (d 3)),.val (.int .i64 (d 4)),.val (.int .i64 (d 5)),.val (.int .i64 (d 6)),.val (.int .i64 (d 7)),.val (.int .i64 (d 8)),.val (.int .i64 (d 9)),.val (.int .i64 (d 10)),.val (.int .i64 (d 11)),.val (.int .i64 (d 12)),.val (.int .i64 (d 13)),.val (.int .i64 (d 14)),.val (.int .i64 (d 15)),.val (.int .i64 (d 16)),.val (.int .i64 (d 17)),.val (.int .i64 (d 18)),.val (.int .i64 (d 19)),.val (.int .i64 (d 20)),.val (.int .i64 (d 21)),.val (.int .i64 (d 22)),.val (.int .i64 (d 23)),.val (.int .i64 (d 24)),.val (.int .i64 (d 25)),.val (.int .i64 (d 26)),.val (.int .i64 (d 27)),.val (.int .i64 (d 28)),.val (.int .i64 (d 29)),.val (.int .i64 (d 30)),.val (.int .i64 (d 31)),.val (.int .i64 (d 32)),.val (.int .i64 (d 33)),.val (.int .i64 (d 34)),.val (.int .i64 (d 35)),.val (.int .i64 (d 36)),.val (.int .i64 (d 37)),.val (.int .i64 (d 38)),.val (.int .i64 (d 39)),.val (.int .i64 (d 40)),.val (.int .i64 (d 41)),.val (.int .i64 (d 42)),.val (.int .i64 (d 43)),.val (.int .i64 (d 44)),.val (.int .i64 (d 45)),.val (.int .i64 (d 46)),.val (.int .i64 (d 47)),.val (.int .i64 (d 48)),.val (.int .i64 (d 49)),.val (.int .i64 (d 50)),.val (.int .i64 (d 51)),.val (.int .i64 (d 52)),.val (.int .i64 (d 53)),.val (.int .i64 (d 54)),.val (.int .i64 (d 55)),.val (.int .i64 (d 56)),.val (.int .i64 (d 57)),.val (.int .i64 (d 58)),.val (.int .i64 (d 59)),.val (.int .i64 (d 60)),.val (.int .i64 (d 61)),.val (.int .i64 (d 62)),.val (.int .i64 (d 63))]
def onceL (up:List Bool) (done:Int) (fw:List Bool):List SV:=[.sl 1 Ac up,.val (.int .u32 done),.val (.int .i32 0),.val (.int .u32 0),.sl 1 Ac fw]
def Jr (n:Net) (up:List Bool) (d:Bool):List SV:=onceL up (if d then 1 else 0) (if d then I4 n up else [])
def D0 (n:Net) (m:MacM) (d:Bool):Obs:=[(0,.box (Qv n 1 m.now m.injected m.drops)),(1,.box (Jr n m.up d)),(2,.row 1 Ma m.tables),(3,.row 1 M4 m.queues)]
theorem getI_map (f:Nat→SV):∀ (k a n:Nat),k<n→Hg ((List.range' a n).map f) k=some (f (a+k))
 | 0,a,n+1,_=>rfl
 | k+1,a,n+1,h=>by
  show Hg ((List.range' (a+1) n).map f) k=_
  rw[getI_map f k (a+1) n q_]
  congr 2;omega
theorem Aqp (f:Nat→SV) (x:SV):∀ (k a n:Nat),((List.range' a n).map f).set k x=(List.range' a n).map (λ i=>if i=a+k then x else f i)
 | _,_,0=>rfl
 | 0,a,n+1=>by
  show x::(List.range' (a+1) n).map f=(if a=a+0 then x else f a)::(List.range' (a+1) n).map _
  rw[zC q_]
  congr 1
  apply tG
  intro i hi
  have:=(List.mem_range'_1.1 hi).1
  rw[zA q_]
 | k+1,a,n+1=>by
  show f a::((List.range' (a+1) n).map f).set k x=(if a=a+(k+1) then x else f a)::(List.range' (a+1) n).map _
  rw[zA q_,Aqp f x k (a+1) n]
  congr 1
  apply tG
  intro i _
  rw[show a+1+k=a+(k+1) by omega]
theorem Vc (n:Net) (k:Nat) (now inj:Int) (d:Nat→Int):Qv n k now inj d =
  .sl 5 Aq n.devices::.sl 7 Aw n.ports::.sl 3 Br n.links::.sl 6 An n.domains::.sl 4 As n.statics::.sl 4 A3 n.floods::.sl 5 B5 n.vrfs::.sl 5 By n.irbs::.ptr k 0::.osl 2::.osl 3::.val (.int .i64 now)::.val (.int .i64 inj) ::
   (List.range' 0 64).map (λ i=>.val (.int .i64 (d i))):=rfl
theorem Awb (n:Net) (k:Nat) (now inj:Int) (d:Nat→Int) (e:Nat) (he:e<64):Hg (Qv n k now inj d) (13+e)=some (.val (.int .i64 (d e))):=by
 rw[Vc,tB]
 show Hg ((List.range' 0 64).map (λ i=>SV.val (.int .i64 (d i)))) e=_
 rw[getI_map _ e 0 64 he,xQ]
theorem Awa (n:Net) (k:Nat) (now inj:Int) (d:Nat→Int) (e:Nat) (v:Int):(Qv n k now inj d).set (13+e) (.val (.int .i64 v))=Qv n k now inj (λ i=>if i=e then v else d i):=by
 rw[Vc,Vc,tB]
 have h:=Aqp (λ i=>SV.val (.int .i64 (d i))) (.val (.int .i64 v)) e 0 64
 have h2:(λ i=>if i=0+e then SV.val (.int .i64 v) else SV.val (.int .i64 (d i)))=(λ i=>SV.val (.int .i64 (if i=e then v else d i))):=by
  funext i
  rw[xQ]
  split<;>rfl
 rw[h2]at h
 rw[← h]
 rfl
theorem add64 (a:Addr) (x y:Int) (w:World) (hc:w.cell? a=some (.int .i64 x)) (hz:w.frozen? a=false):(callFunc 233 #[.pointer (some a),.int .i64 y]).run Tryz.prog w=.ok (.value (.int .i64 (IntKind.i64.wrap (x+y)))) (w.setCell a (.int .i64 (IntKind.i64.wrap (x+y)))) :=
 run_call_add Tryz.func233 z_ z_ z_ .i64 z_ hc hz rfl
theorem Asr (n:Net) (k:Nat) (m:MacM) (e:Int):Qv n k m.now m.injected (Cv m e).drops=(Qv n k m.now m.injected m.drops).set (13+e.toNat) (.val (.int .i64 (m.drops e.toNat+1))):=by
 rw[Awa]
 congr 1
 funext i
 show (if i=e.toNat then m.drops i+1 else m.drops i)=_
 split
 ·rename_i h;rw[h]
 ·rfl
theorem Apq {x:Int} (h:0≤x∧x≤1000000000000):IntKind.i64.wrap (x+1)=x+1:=by
 rw[IntKind.wrap_i64];omega
theorem Ap7 (n:Net) (m:MacM) (d:Bool) (e:Int) (h0:0≤e) (h1:e<64) (hb:IntKind.i64.wrap (m.drops e.toNat+1)=m.drops e.toNat+1) :
  Sq 162 [.ptr 0 (13+e.toNat),Aa 1] (D0 n m d) (Aa (m.drops e.toNat+1)) (D0 n (Cv m e) d):=cT F162 Tryz.ntmps162 λ F hF=>by
 have hg:=Awb n 1 m.now m.injected m.drops e.toNat q_
 have hs:=Asr n 1 m e
 have hlt:=Aa1 hg
 refine fW ?_
 refine Ag (Ah6 add64 E E E E hg hb) E E ?_
 refine fU ?_
 exact done E (.cons .tmp .nil) [] (D0 n (Cv m e) d) (λ _ h=>h) E E ⟨Y,⟨.inl (zD Ob.box hs),E,.inl E,E,.inl E,E,.inl E,E,Y⟩,E,E⟩
theorem Al3 (n:Net) (m:MacM) (d:Bool) (e:Int) (h0:0≤e) (h1:e<64) (hb:0≤m.drops e.toNat∧m.drops e.toNat≤1000000000000) :
  Sq 96 [.ptr 0 0,Aa e] (D0 n m d) (.tup []) (D0 n (Cv m e) d):=cT F96 Tryz.ntmps96 λ F hF=>by
 refine fW ?_
 refine⟨h0,by omega,?_⟩
 refine fU ?_
 refine Ag (Ad [] E F162 (Ap7 n m d e h0 h1 (Apq hb)) (zD (λ z=>[SV.ptr 0 z,Aa 1]) (show 13+e.toNat=0+13+e.toNat * 1 by omega)) ⟨E,E,E,E,Y⟩ E ⟨.inl E,.inl E,.inl E,.inl E,Y⟩) E E ?_
 refine fU ?_
 exact A4 E .nil [] (D0 n (Cv m e) d) (λ _ h=>h) E E ⟨Y,⟨.inl E,E,.inl E,E,.inl E,E,.inl E,E,Y⟩,E,E⟩
theorem Aqn (n:Net) (m:MacM) (d:Bool) (dom:Int) :
  Sq 40 [.ptr 0 0,Aa dom] (D0 n m d) (Ac (Af dom m.queues.length)) (D0 n m d):=cT F40 Tryz.ntmps40 λ F hF=>by
 have hres:Af dom m.queues.length=(decide (0≤dom) && decide (dom<m.queues.length)):=rfl
 generalize Af dom m.queues.length=res at *
 refine fW ?_
 constructor<;>intro h
 ·refine fU ?_
  (repeat (first | (refine⟨λ h=>False.elim (by first | (exact zW h j_) | (simp at h;done) | (simp at h;omega)),λ _=>?_⟩;(refine fU ?_)) | (refine⟨λ _=>?_,λ h=>False.elim (by first | (exact zW h j_) | (simp at h;done) | (simp at h;omega))⟩;(refine fU ?_))))
  refine done E (.cons .tmp .nil) [] (D0 n m d) (λ _ h=>h) ?_ E ⟨Y,⟨.inl E,E,.inl E,E,.inl E,E,.inl E,E,Y⟩,E,E⟩
  rw[hres,h]
  rfl
 ·refine fU ?_
  (repeat (first | (refine⟨λ h=>False.elim (by first | (exact zW h j_) | (simp at h;done) | (simp at h;omega)),λ _=>?_⟩;(refine fU ?_)) | (refine⟨λ _=>?_,λ h=>False.elim (by first | (exact zW h j_) | (simp at h;done) | (simp at h;omega))⟩;(refine fU ?_))))
  refine done E (.cons .tmp .nil) [] (D0 n m d) (λ _ h=>h) ?_ E ⟨Y,⟨.inl E,E,.inl E,E,.inl E,E,.inl E,E,Y⟩,E,E⟩
  rw[hres,h]
  rfl
theorem Ox {l:List QueuedM} (h:Ij l):l.length<1000000∧Tl l:=⟨by have:=h.1;omega,λ q hq=>by have:=(h.2 q hq).frame.body;omega⟩
theorem Aa2 {α:Type} {l:List α} {i:Nat} (h:i<l.length) (d:α):(l[i]?).getD d=l[i]:=by
 rw[zH h];rfl
theorem placeB_iff {d:Int} {k:Nat}:Af d k=true↔0≤d∧d.toNat<k:=by
 simp only[Af,zB,zG];omega
theorem Asp (n:Net) (m:MacM) (d:Bool) (dom:Int) (hl:Ij (queueL m dom)) :
  Sq 17 [.ptr 0 0,Aa dom] (D0 n m d) (.sl 7 Bv (if Af dom m.queues.length then queueL m dom else [])) (D0 n m d):=cT F17 Tryz.ntmps17 λ F hF=>by
 have h1:=Aqn n m d dom
 have hpl:=placeB_iff (d:=dom) (k:=m.queues.length)
 generalize Af dom m.queues.length=b at *
 have hb:=Ox hl
 have h2:=Ab1 _ (-1) hb.1 hb.2
 have h3:takeT (queueL m dom) (-1)=(noQ,queueL m dom,false):=by rw[takeT];exact zC (.inl j_)
 rw[h3]at h2
 clear h3 hb hl
 have hres:=queueL.eq_1 m dom
 generalize queueL m dom=res at *
 conv=>whnf
 refine Ag (Ad [] E F40 h1 E ⟨E,E,E,E,Y⟩ E ⟨.inl E,.inl E,.inl E,.inl E,Y⟩) E E ?_
 refine oO ?_
 cases b
 ·(refine⟨λ _=>?_,λ h=>False.elim (zW h j_)⟩;refine rg ?_;conv=>whnf)
  refine Ao 4 7 Bv E ?_
  exact done E (.cons .tmp .nil) [] (D0 n m d) (λ _ h=>h) E E ⟨Y,⟨.inl E,E,.inl E,E,.inl E,E,.inl E,E,Y⟩,E,E⟩
 have hd:=hpl.1 rfl
 have hlt:dom.toNat<m.queues.length:=hd.2
 rw[Aa2 hlt]at hres
 subst hres
 (refine⟨λ h=>False.elim (zW h j_),λ _=>?_⟩;refine rg ?_;conv=>whnf)
 refine⟨hd.1,by omega,?_⟩
 conv=>whnf
 refine⟨E,hlt,?_⟩
 conv=>whnf
 refine c0 h2 F41 ?_
 refine oO ?_
 exact done E (.cons .tmp .nil) [] (D0 n m d) (λ _ h=>h) E E ⟨Y,⟨.inl E,E,.inl E,E,.inl E,E,.inl E,E,Y⟩,E,E⟩
def T4 (m:MacM):Prop:=∀ i,0≤m.drops i∧m.drops i≤1000000000000
theorem V8 (n:Net) (m:MacM) (d:Bool) (dom:Int) (q:QueuedM) (e:Int) (he:0≤e∧e<64) (hd:e=0→0≤dom∧dom.toNat<m.queues.length) (hb:T4 m) (hl:Ij (queueL m dom)) (hq:QueuedOK q) :
  Sq 93 [.ptr 0 0,Aa dom,Bv q,Aa e] (D0 n m d) (.tup []) (D0 n (comeM m dom q e) d):=cT F93 Tryz.ntmps93 λ F hF=>by
 have hqb:=Ox hl
 have hp:=Aj8 _ q hqb.1 hqb.2 (by have:=hq.frame.body;omega)
 have h1:=Al3 n m d e he.1 he.2 (hb _)
 have h3:=Al3 n m d 3 j_ j_ (hb _)
 have hres:=comeM.eq_1 m dom q e
 generalize comeM m dom q e=res at *
 conv=>whnf
 constructor<;>intro h
 ·rw[zC (by simpa using h)]at hres
  subst hres
  refine oO ?_
  refine Ag (Ad [] E F96 h1 E ⟨E,E,E,E,Y⟩ E ⟨.inl E,.inl E,.inl E,.inl E,Y⟩) E E ?_
  refine oO ?_
  exact done E .nil [] (D0 n (Cv m e) d) (λ _ h=>h) E E ⟨Y,⟨.inl E,E,.inl E,E,.inl E,E,.inl E,E,Y⟩,E,E⟩
 have h0:e=0:=by simpa using h
 have hd:=hd h0
 rw[zA (by rw[h0];decide)]at hres
 clear h hqb h1 hl he
 have hq0:=queueL.eq_1 m dom
 rw[Aa2 hd.2]at hq0
 generalize queueL m dom=l at *
 generalize pushT l q=r at *
 obtain ⟨l2,ok⟩:=r
 subst hq0
 refine oO ?_
 refine⟨hd.1,hd.2,?_⟩
 conv=>whnf
 refine⟨E,hd.2,?_⟩
 conv=>whnf
 refine cD hp F151 ?_
 refine oD ?_
 refine kW ?_
 cases ok
 ·rw[zA y_]at hres
  subst hres
  (refine⟨λ _=>?_,λ h=>False.elim (by simp at h)⟩;refine rg ?_;conv=>whnf)
  refine Ag (Ad [] E F96 h3 E ⟨E,E,E,E,Y⟩ E ⟨.inl E,.inl E,.inl E,.inl E,Y⟩) E E ?_
  refine oO ?_
  exact done E .nil [] (D0 n (Cv m 3) d) (λ _ h=>h) E E ⟨Y,⟨.inl E,E,.inl E,E,.inl E,E,.inl E,E,Y⟩,E,E⟩
 ·rw[zC rfl]at hres
  subst hres
  (refine⟨λ h=>False.elim (by simp at h),λ _=>?_⟩;refine rg ?_;conv=>whnf)
  refine⟨hd.1,hd.2,?_⟩
  conv=>whnf
  refine⟨E,hd.2,l2,E,E,?_⟩
  conv=>whnf
  exact A4 E .nil [] (D0 n (Mz m dom l2) d) (λ _ h=>h) E E ⟨Y,⟨.inl E,E,.inl E,E,.inl E,E,.inl E,E,Y⟩,E,E⟩
theorem Ajr (n:Net) (m:MacM) (d:Bool) (dom at_:Int) (hl:Ij (queueL m dom)) :
  Sq 37 [.ptr 0 0,Aa dom,Aa at_] (D0 n m d) (.tup [Bv (takeM m dom at_).2.1,Ac (takeM m dom at_).2.2]) (D0 n (takeM m dom at_).1 d):=cT F37 Tryz.ntmps37 λ F hF=>by
 have hqb:=Ox hl
 have hp:=Ab1 _ at_ hqb.1 hqb.2
 have h1:=Aqn n m d dom
 have hpl:=placeB_iff (d:=dom) (k:=m.queues.length)
 have hres:=takeM.eq_1 m dom at_
 generalize takeM m dom at_=res at *
 generalize Af dom m.queues.length=b at *
 have hq0:=queueL.eq_1 m dom
 clear hl hqb
 generalize queueL m dom=l at *
 generalize takeT l at_=r at *
 obtain ⟨q,l2,ok⟩:=r
 conv=>whnf
 refine Ag (Ad [] E F40 h1 E ⟨E,E,E,E,Y⟩ E ⟨.inl E,.inl E,.inl E,.inl E,Y⟩) E E ?_
 refine oO ?_
 cases b
 ·rw[zC rfl]at hres
  subst hres
  (refine⟨λ _=>?_,λ h=>False.elim (zW h j_)⟩;refine rg ?_;conv=>whnf)
  refine Am 6 [Aa 0,Aa 0,Aa 0,Bb 0,Bb 0,Aa 0,.sl 1 Al []] E vL ?_
  exact done E (.cons (.cell E E E E) (.cons .tmp .nil)) [] (D0 n m d) (λ _ h=>h) E E ⟨Y,⟨.inl E,E,.inl E,E,.inl E,E,.inl E,E,Y⟩,E,E⟩
 have hd:=hpl.1 rfl
 rw[Aa2 hd.2]at hq0
 subst hq0
 rw[zA y_]at hres
 subst hres
 (refine⟨λ h=>False.elim (zW h j_),λ _=>?_⟩;refine rg ?_;conv=>whnf)
 refine⟨hd.1,hd.2,?_⟩
 conv=>whnf
 refine⟨E,hd.2,?_⟩
 conv=>whnf
 refine c0 hp F41 ?_
 refine oO ?_
 refine⟨hd.1,hd.2,?_⟩
 conv=>whnf
 refine⟨E,hd.2,l2,E,E,?_⟩
 conv=>whnf
 exact done E (.cons (.cell E E E E) (.cons .tmp .nil)) [] (D0 n (Mz m dom l2) d) (λ _ h=>h) E E ⟨Y,⟨.inl E,E,.inl E,E,.inl E,E,.inl E,E,Y⟩,E,E⟩
theorem Anp (n:Net) (hn:n.Fin) (m:MacM) (d:Bool) (J D:Int) (hm0:MacOK n m J D) (hJ:J<1000000000000) (hD:D≤1000000000000) (port:Int) (b:List UInt8) (hb:b.length<100000) :
  Sq 35 [.ptr 0 0,Aa port,.sl 1 Al b] (D0 n m d) (.tup []) (D0 n (injectT n m port b) d):=cT F35 Tryz.ntmps35 λ F hF=>by
 have hres:=injectT.eq_1 n m port b
 generalize injectT n m port b=res at *
 have hpl:=placeB_iff (d:=port) (k:=n.ports.length)
 have hinj:=hm0.inj
 have hok:MacOK n ⟨m.up,m.tables,m.queues,m.now,m.injected+1,m.drops⟩ (J+1) D:=⟨hm0.up,hm0.tabs,hm0.ques,hm0.tab,hm0.que,hm0.now,⟨by dsimp only;omega,by dsimp only;omega⟩,hm0.drp⟩
 have hdr:T4 ⟨m.up,m.tables,m.queues,m.now,m.injected+1,m.drops⟩:=λ i=>⟨(hm0.drp i).1,by have:=(hm0.drp i).2;dsimp only at *;omega⟩
 have he:=Adc n port b
 have hdom:=Ade (n:=n) (port:=port) (b:=b)
 have q1:=Alz n hn port b hb
 have hfr:=Y6 n port b
 generalize enterT n port b=r at *
 have q2:=λ (hp:0≤port∧port.toNat<n.ports.length)=>V8 n ⟨m.up,m.tables,m.queues,m.now,m.injected+1,m.drops⟩ d r.1 ⟨port,0,m.injected+1,r.2.1⟩ r.2.2 ⟨he.1,by have:=he.2;omega⟩ (λ h=>by
  have:=hdom h
  exact⟨this.1,by show r.1.toNat<m.queues.length;rw[hm0.ques];exact this.2⟩) hdr (Hx hok _) (Iv hfr _ ⟨by omega,by have:=hn.ports;unfold Ak at this;omega⟩ j_)
 conv=>whnf
 constructor<;>intro h
 ·have h:=zK h
  rw[zC (.inl (by cases hx:Af port n.ports.length;rfl;exact zW (hpl.1 hx) q_))]at hres
  subst hres
  (refine oT ?_;refine bT ?_)
  (skip)
  exact done E .nil [] (D0 n res d) (λ _ h=>h) E E ⟨Y,⟨.inl E,E,.inl E,E,.inl E,E,.inl E,E,Y⟩,E,E⟩
 have h0:=zN h
 clear h
 refine oO ?_
 constructor<;>intro h
 ·have h:=zK h
  rw[zC (.inl (by cases hx:Af port n.ports.length;rfl;exact zW (hpl.1 hx) q_))]at hres
  subst hres
  refine oT ?_
  (skip)
  exact done E .nil [] (D0 n res d) (λ _ h=>h) E E ⟨Y,⟨.inl E,E,.inl E,E,.inl E,E,.inl E,E,Y⟩,E,E⟩
 have h1:=zN h
 clear h
 have hp:0≤port∧port.toNat<n.ports.length:=by omega
 rw[hpl.2 hp,Ae hp.2]at hres
 obtain ⟨p,hpp⟩:∃ p,n.ports[port.toNat]'hp.2=p:=⟨_,rfl⟩
 rw[hpp]at hres
 refine oO ?_
 refine⟨E,hp.1,hp.2,?_⟩
 rw[hpp]
 conv=>whnf
 constructor<;>intro h
 ·have h:=zK h
  rw[zC (.inr h)]at hres
  subst hres
  refine oO ?_
  exact done E .nil [] (D0 n res d) (λ _ h=>h) E E ⟨Y,⟨.inl E,E,.inl E,E,.inl E,E,.inl E,E,Y⟩,E,E⟩
 have h2:=zN h
 clear h
 rw[zA (by simp;omega)]at hres
 subst hres
 refine oO ?_
 refine iW ?_
 refine c0 q1 F92 ?_
 refine oO ?_
 refine Bs (Ad [] E F93 (q2 hp) E ⟨E,E,E,E,Y⟩ E ⟨.inl E,.inl E,.inl E,.inl E,Y⟩) z_ E ?_
 refine oD ?_
 refine kW ?_
 refine A4 E .nil [] (D0 n (comeM _ _ _ _) d) (λ _ h=>h) E E ⟨Y,⟨.inl E,E,.inl E,E,.inl E,E,.inl E,E,Y⟩,E,E⟩
theorem Abk (n:Net) (hn:n.Fin) (m:MacM) (d:Bool) (J D:Int) (hm0:MacOK n m J D) (hD:D≤1000000000000) (o:OutM) (ho:OutOK n o) (origin:Int) :
  Sq 97 [.ptr 0 0,E5 o,Aa origin] (D0 n m d) (.sl 3 Dw (goesM n m o origin).2) (D0 n (goesM n m o origin).1 d):=cT F97 Tryz.ntmps97 λ F hF=>by
 have hres:=goesM.eq_1 n m o origin
 generalize goesM n m o origin=res at *
 have hdr:T4 m:=λ i=>⟨(hm0.drp i).1,by have:=(hm0.drp i).2;omega⟩
 have hbl:o.bytes.length<100000:=by have:=ho.bytes;omega
 have hin:∀ {x:Int},DomIn n x→0≤x∧x.toNat<m.queues.length:=λ h=>by rw[hm0.ques];exact h
 conv=>whnf
 constructor<;>intro h
 ·have h1:o.kind=1:=by simpa using h
  rw[zC h1]at hres
  subst hres
  refine oO ?_
  refine Ku 34 Dw [⟨o.port,origin,o.bytes⟩] E E ?_
  refine Ai 34 E ?_
  exact done E (.cons .tmp .nil) [] (D0 n m d) (λ _ h=>h) E E ⟨Y,⟨.inl E,E,.inl E,E,.inl E,E,.inl E,E,Y⟩,E,E⟩
 have h1:¬ o.kind=1:=by simpa using h
 rw[zA h1]at hres
 clear h
 refine oO ?_
 constructor<;>intro h
 ·have h2:o.kind=2:=by simpa using h
  rw[zC h2]at hres
  have q1:=Aov n hn o.port o.bytes hbl
  have he:=At3 n o.port o.bytes
  have hd:=λ h=>hin (At4 (n:=n) (port:=o.port) (b:=o.bytes) h)
  have hf:=Ak1 n o.port o.bytes
  have ht:=Ak0 hn o.port o.bytes
  generalize linkT n o.port o.bytes=r at *
  have q2:=V8 n m d r.2.1 ⟨r.1,0,origin,r.2.2.1⟩ r.2.2.2 he hd hdr (Hx hm0 _) (Iv hf _ q_ j_)
  subst hres
  refine oO ?_
  refine cD q1 F163 ?_
  refine oD ?_
  refine kW ?_
  refine kW ?_
  refine Ag (Ad [] E F93 q2 E ⟨E,E,E,E,Y⟩ E ⟨.inl E,.inl E,.inl E,.inl E,Y⟩) E E ?_
  refine oO ?_
  refine Ao 6 3 Dw E ?_
  exact done E (.cons .tmp .nil) [] (D0 n (comeM _ _ _ _) d) (λ _ h=>h) E E ⟨Y,⟨.inl E,E,.inl E,E,.inl E,E,.inl E,E,Y⟩,E,E⟩
 have h2:¬ o.kind=2:=by simpa using h
 rw[zA h2]at hres
 clear h
 refine oO ?_
 constructor<;>intro h
 ·have h2:o.kind=3:=by simpa using h
  rw[zC h2]at hres
  have q1:=Aow n hn o.bytes hbl
  have he:=Auz n o.bytes
  have hd:=λ h=>hin (Agl (n:=n) (b:=o.bytes) h).2
  have hf:=Al9 n o.bytes
  have ht:=Ado hn o.bytes
  generalize comeT n o.bytes=r at *
  have q2:=V8 n m d r.2.1 ⟨-1,r.1,origin,r.2.2.1⟩ r.2.2.2 he hd hdr (Hx hm0 _) (Iv hf _ j_ ht)
  subst hres
  refine oO ?_
  refine cD q1 F164 ?_
  refine oD ?_
  refine kW ?_
  refine kW ?_
  refine Ag (Ad [] E F93 q2 E ⟨E,E,E,E,Y⟩ E ⟨.inl E,.inl E,.inl E,.inl E,Y⟩) E E ?_
  refine oO ?_
  refine Ao 6 3 Dw E ?_
  exact done E (.cons .tmp .nil) [] (D0 n (comeM _ _ _ _) d) (λ _ h=>h) E E ⟨Y,⟨.inl E,E,.inl E,E,.inl E,E,.inl E,E,Y⟩,E,E⟩
 have h3:¬ o.kind=3:=by simpa using h
 rw[zA h3]at hres
 clear h
 refine oO ?_
 constructor<;>intro h
 ·have h4:o.kind=4:=by simpa using h
  rw[zC h4]at hres
  have hf:=ho.frame h4
  have q2:=V8 n m d o.domain ⟨-2,0,origin,o.frame⟩ 0 j_ (λ _=>hin hf.2) hdr (Hx hm0 _) (Iv hf.1 _ j_ j_)
  subst hres
  refine oO ?_
  refine Ag (Ad [] E F93 q2 E ⟨E,E,E,E,Y⟩ E ⟨.inl E,.inl E,.inl E,.inl E,Y⟩) E E ?_
  refine oO ?_
  refine Ao 6 3 Dw E ?_
  exact done E (.cons .tmp .nil) [] (D0 n (comeM _ _ _ _) d) (λ _ h=>h) E E ⟨Y,⟨.inl E,E,.inl E,E,.inl E,E,.inl E,E,Y⟩,E,E⟩
 have h4:¬ o.kind=4:=by simpa using h
 rw[zA h4]at hres
 have h5:o.kind=5:=by have:=ho.kind;omega
 have he:=ho.err h5
 have q2:=Al3 n m d o.error he.1 he.2 (hdr _)
 subst hres
 clear h
 refine oO ?_
 refine Ag (Ad [] E F96 q2 E ⟨E,E,E,E,Y⟩ E ⟨.inl E,.inl E,.inl E,.inl E,Y⟩) E E ?_
 refine oO ?_
 refine Ao 6 3 Dw E ?_
 exact done E (.cons .tmp .nil) [] (D0 n (Cv m o.error) d) (λ _ h=>h) E E ⟨Y,⟨.inl E,E,.inl E,E,.inl E,E,.inl E,E,Y⟩,E,E⟩
def Akk (up:List Bool) (dn lk:Int) (fw:List Bool):List SV:=[.sl 1 Ac up,.val (.int .u32 dn),.val (.int .i32 lk),.val (.int .u32 0),.sl 1 Ac fw]
def T9 (n:Net) (up:List Bool) (dn lk:Int) (fw:List Bool):Obs:=[(1,.box (Akk up dn lk fw)),(2,.box [.ptr 1 0]),(3,.box (C7 n))]
theorem Atl (n:Net) (hn:n.Fin) (up fw:List Bool) (dn lk:Int) :
  Sq 161 [.ptr 3 0,.ptr 2 0] (T9 n up dn lk fw) (.tup []) (T9 n up dn lk (I4 n up)):=cT F161 Tryz.ntmps161 λ F hF=>by
 have hf:∃ e,Sp 33 [Aj n,.sl 1 Ac up] (.tup [.sl 1 Ac (I4 n up),Aa e]):=by
  unfold I4
  split
  ·rename_i h;exact⟨0,Agb n up hn h⟩
  ·rename_i h;exact⟨2,Ac4 n up hn (by simpa using h)⟩
 obtain ⟨e,hf⟩:=hf
 generalize I4 n up=r at *
 conv=>whnf
 refine cD hf F33 ?_
 refine oD ?_
 refine kW ?_
 exact A4 E .nil [] (T9 n up dn lk r) (λ _ h=>h) E E ⟨Y,⟨.inl E,E,.inl E,E,.inl E,E,Y⟩,E,E⟩
theorem Axm (a:Addr) (x:Int) (w:World) (hc:w.cell? a=some (.int .u32 x)):(callFunc 119 #[.pointer (some a)]).run Tryz.prog w=.ok (.value (.int .u32 x)) w :=
 run_call_load Tryz.func119 z_ z_ z_ .u32 z_ hc
theorem Afl (n:Net) (up fw:List Bool) (dn lk:Int):Sq 74 [.ptr 1 1] (T9 n up dn lk fw) (Ac (dn != 0)) (T9 n up dn lk fw):=cT F74 Tryz.ntmps74 λ F hF=>by
 conv=>whnf
 refine Ag (Ux Axm E E E E) E E ?_
 refine oO ?_
 exact done E (.cons .tmp .nil) [] (T9 n up dn lk fw) (λ _ h=>h) E E ⟨Y,⟨.inl E,E,.inl E,E,.inl E,E,Y⟩,E,E⟩
theorem Wi (w:World):(callFunc 243 #[]).run Tryz.prog w=.ok (.value (.tuple #[])) w:=run_call_mark0 Tryz.func243 z_ z_ z_ .disable z_ w
theorem Zq (w:World):(callFunc 245 #[]).run Tryz.prog w=.ok (.value (.tuple #[])) w:=run_call_mark0 Tryz.func245 z_ z_ z_ .enable z_ w
theorem Ahg (a:Addr) (w:World):(callFunc 246 #[.pointer (some a)]).run Tryz.prog w=.ok (.value (.tuple #[])) w:=run_call_marked Tryz.func246 z_ z_ z_ .acquire z_ a w
theorem Ahf (a:Addr) (w:World):(callFunc 248 #[.pointer (some a)]).run Tryz.prog w=.ok (.value (.tuple #[])) w:=run_call_marked Tryz.func248 z_ z_ z_ .releaseMerge z_ a w
theorem Abg (a:Addr) (x:Value) (u:FrameMode) (w:World) (hc:w.cell? a=some x) (hz:w.frozen? a=false) :
  CallsD Tryz.prog 122 #[.pointer (some a),.bool true] u w λ e u' w'=>u'=u∧(e=.returned (.tuple #[])∧w'=w.drew.setCell a (.int .u32 1)):=by
 have hc':w.drew.cell? a=some x:=by go_simp
 have hz':w.drew.frozen? a=false:=by go_simp
 have hst:=run_call_store (P:=Tryz.prog) Tryz.func183 z_ z_ z_ z_ (k:=.u32) (y:=1) hc' hz'
 go_enter_d Tryz.func122,Tryz.ntmps122
 go_wp2
 go_region_calls
 all_goals (go_end0;exact⟨rfl,rfl⟩)
theorem Aam (a:Addr) (u:FrameMode) (w:World) (hc:w.cell? a=some (.int .i32 1)) (hz:w.frozen? a=false) :
  CallsD Tryz.prog 121 #[.pointer (some a)] u w λ e u' w'=>u'=u∧(e=.returned (.tuple #[])∧w'=w.setCell a (.int .i32 0)):=by
 have hd:=Wi
 have he:=Zq
 have hr:=Ahf
 have hadd:=run_call_add (P:=Tryz.prog) Tryz.func249 z_ z_ z_ .i32 z_ (y:=-1) (s:=0) hc hz (by simp[go_sem];rfl)
 have hcv:=run_convert_to_unsafe (P:=Tryz.prog) (src:=370) (dst:=374) Tryz.underlying370 Tryz.underlying374 z_ hc
 go_enter_d Tryz.func121,Tryz.ntmps121
 go_wp2
 go_end0
 go_wp2
 go_end0
 exact⟨E,E⟩
theorem At0 (a:Addr) (w:World) (hc:w.cell? a=some (.int .i32 0)) (hz:w.frozen? a=false) :
  Calls Tryz.prog 120 #[.pointer (some a)] w λ e w'=>e=.returned (.tuple #[])∧w'=w.setCell a (.int .i32 1):=by
 have hd:=Wi
 have he:=Zq
 have ha:=Ahg
 have hcas:=run_call_cas_hit (P:=Tryz.prog) Tryz.func244 z_ z_ z_ .i32 z_ (y:=1) hc hz
 have hc':(w.setCell a (.int .i32 1)).cell? a=some (.int .i32 1):=World.cell?_setCell_same w a _ hc
 have hcv:=run_convert_to_unsafe (P:=Tryz.prog) (src:=370) (dst:=374) Tryz.underlying370 Tryz.underlying374 z_ hc'
 go_enter Tryz.func120,Tryz.ntmps120
 go_wp2
 first | go_end0 | (simp only[Exit.inBlock,Exit.then];refine bodyPost_ret (results_none rfl _ _ _) rfl ?_) | refine bodyPost_ret (results_none rfl _ _ _) rfl ?_
 go_wp2
 go_end0
 exact⟨E,E⟩
end Go.Sy.YtljngfegfclkpaaGreat
namespace Go.Sy.YtljngfegfclkpaaGreat
open Go.Proofs
set_option maxRecDepth 100000
set_option maxHeartbeats 4000000
theorem Ctx.behind {K:Nat→Prop} {κ κ2:Ka} {w w1 w2:World} (s:Step K κ w κ w1) (c:Ctx ⟨w1,κ,[]⟩ κ2 w2):Ctx ⟨w,κ,[]⟩ κ2 w2 where
 size:=wH s.size c.size
 os:=c.os.trans s.os
 tape:=c.tape.trans s.tape
 output:=c.output.trans s.output
 M:=c.M
 old:=λ b hb h=>by
  refine(c.old b (yO hb s.size) h).trans ?_
  by_cases hm:κ.M b
  ·exact s.mkeep b hm
  ·exact s.blk b hb (λ ho=>by
    rcases ho with ⟨k,hk⟩ | ho
    ·exact h k hk
    ·exact hm ho)
 own:=λ k b hk=>by
  rcases c.own k b hk with h | h
  ·exact .inl (wH s.size h)
  ·exact .inr h
 nam:=c.nam
theorem Auv {κ:Ka} {w:World} (hi:Inv κ w):Step (λ _=>False) κ w κ w.drew∧Inv κ w.drew:=by
 have g:=Grew.drew w
 exact⟨⟨g.size,g.os,g.tape,g.output,E,λ b _=>rfl,λ b _ _=>rfl,λ _ _ _ _=>rfl,λ _ _=>rfl,λ _ h=>h.elim,λ _ h=>.inl h⟩,⟨hi.inj,hi.bnd,hi.apart,hi.mbnd⟩⟩
theorem Atk (n:Net) (hn:n.Fin) (up fw:List Bool) :
  Sq 75 [.ptr 1 1,.clo (.func 161) [] [.ptr 3 0,.ptr 2 0]] (T9 n up 0 0 fw) (.tup []) (T9 n up 1 0 (I4 n up)):=by
 intro κ w vs hi hnew hvs hok
 have o1:=hok (1,.box (Akk up 0 0 fw)) (by simp[T9])
 have o2:=hok (2,.box [.ptr 1 0]) (by simp[T9])
 have o3:=hok (3,.box (C7 n)) (by simp[T9])
 obtain ⟨b,e1,c1,c2,st1,inv1,ob1⟩:=Eh (off:=2) (x:=.val (.int .i32 1)) (v:=.int .i32 1) hi o1 rfl (λ _ _=>by simp only[Rd]) rfl
 obtain ⟨b2,_,_,_,e2,_⟩:=id o2
 obtain ⟨b3,_,_,_,e3,_⟩:=id o3
 simp only[RdL,Rd,e1,e2,e3]at hvs
 obtain ⟨v0,r0,rfl,rfl,v1,r1,rfl,⟨fs,cs,rfl,hfs,hcs⟩,rfl⟩:=hvs
 subst hfs
 obtain ⟨p3,q3,rfl,rfl,p2,q2,rfl,rfl,rfl⟩:=hcs
 have hcl:=Atl n hn up fw 0 1 κ (w.setCell ⟨b,2,none⟩ (.int .i32 1)) [.pointer (some ⟨b3,0,none⟩),.pointer (some ⟨b2,0,none⟩)] inv1 hnew (by simp only[RdL,Rd,e2,e3];exact⟨_,_,rfl,rfl,_,_,rfl,rfl,rfl⟩) (λ p hp=>by
  simp only[T9,yB,wO,tI]at hp
  rcases hp with rfl | rfl | rfl
  ·exact ob1
  ·exact ObOK.step st1 (show ¬ (2:Nat)=1 by decide) _ o2
  ·exact ObOK.step st1 (show ¬ (3:Nat)=1 by decide) _ o3)
 obtain ⟨u1,hu1,hr1⟩:=c1 1 (.val (.int .u32 0)) rfl
 obtain ⟨u2,hu2,hr2⟩:=c1 2 (.val (.int .i32 0)) rfl
 rw[hr1.val]at hu1
 rw[hr2.val]at hu2
 have f1:=c2 1 (show 1<5 by decide)
 have f2:=c2 2 (show 2<5 by decide)
 have hl:=Axm ⟨b,1,none⟩ 0 (w.setCell ⟨b,2,none⟩ (.int .i32 1)) ((World.cell?_setCell_other _ ⟨b,2,none⟩ ⟨b,1,none⟩ _ y_).trans hu1)
 have hnot:∀ (x:Bool) (w:World),(Op.unary .not (.bool x)).run Tryz.prog w=.ok (.bool (!x)) w:=λ _ _=>rfl
 go_enter_defers Tryz.func75,Tryz.ntmps75
 go_wp2_with (first | (go_at_call 120;refine(At0 ⟨b,2,none⟩ _ (by assumption) (by assumption)).mono ?_;rintro e w' ⟨rfl,rfl⟩) | (go_at_call 161;refine hcl.mono ?_;rintro e w' ⟨v,κ2,rfl,hc2,hi2,hv2,ok2⟩) | (go_at_call 74;go_in))
 have p1:=ok2 (1,.box (Akk up 0 1 (I4 n up))) (by simp[T9])
 have k1:κ2 1=.blk b:=by
  obtain ⟨bb,_,_,_,q1,_⟩:=id p1
  rcases hc2.nam 1 (by rw[e1];intro h;cases h) with h | h
  ·rw[h];exact e1
  ·rw[h]at q1;cases q1
 obtain ⟨ba,a1,a2,a3,_,_,_⟩:=Eh (off:=1) (x:=.val (.int .u32 1)) (v:=.int .u32 1) hi2 p1 rfl (λ _ _=>by simp only[Rd]) rfl
 rw[k1]at a1
 cases a1
 obtain ⟨std,invd⟩:=Auv hi2
 have p2:=ObOK.step std (k:=1) (λ h=>h) _ p1
 obtain ⟨ba,a1,_,_,st3,inv3,ob3⟩:=Eh (off:=1) (x:=.val (.int .u32 1)) (v:=.int .u32 1) invd p2 rfl (λ _ _=>by simp only[Rd]) rfl
 rw[k1]at a1
 cases a1
 have ob3:ObOK κ2 (w'.drew.setCell ⟨b,1,none⟩ (.int .u32 1)) 1 (.box (Akk up 1 1 (I4 n up))):=ob3
 obtain ⟨ba,a1,a4,a5,st4,inv4,ob4⟩:=Eh (off:=2) (x:=.val (.int .i32 0)) (v:=.int .i32 0) inv3 ob3 rfl (λ _ _=>by simp only[Rd]) rfl
 rw[k1]at a1
 cases a1
 have ob4:ObOK κ2 ((w'.drew.setCell ⟨b,1,none⟩ (.int .u32 1)).setCell ⟨b,2,none⟩ (.int .i32 0)) 1 (.box (Akk up 1 0 (I4 n up))):=ob4
 obtain ⟨v1,hv1,hr1⟩:=a2 1 (.val (.int .u32 0)) rfl
 rw[hr1.val]at hv1
 obtain ⟨v2,hv2,hr2⟩:=a4 2 (.val (.int .i32 1)) rfl
 rw[hr2.val]at hv2
 refine leaves_cons (f:=122) (args:=#[.pointer (some ⟨b,1,none⟩),.bool true]) y_ (by simp[go_sem]) ?_
 refine(Abg ⟨b,1,none⟩ (.int .u32 0) .returning _ hv1 (a3 1 (show 1<5 by decide))).mono ?_
 rintro e u' w'' ⟨rfl,rfl,rfl⟩
 refine leaves_cons (f:=121) (args:=#[.pointer (some ⟨b,2,none⟩)]) (by simp[settle]) (by simp[go_sem]) ?_
 refine(Aam ⟨b,2,none⟩ _ _ hv2 (a5 2 (show 2<5 by decide))).mono ?_
 rintro e u' w'' ⟨rfl,rfl,rfl⟩
 have hst:Step (·=1) κ2 w' κ2 ((w'.drew.setCell ⟨b,1,none⟩ (.int .u32 1)).setCell ⟨b,2,none⟩ (.int .i32 0)):=(std.weaken (λ _ h=>h.elim)).trans (st3.trans st4)
 refine⟨.tuple #[],by simp[results,Tryz.results75],.tuple #[],κ2,E,Ctx.behind st1 (hc2.step inv4 hst),inv4,⟨[],E,E⟩,λ p hp=>?_⟩
 simp only[T9,yB,wO,tI]at hp
 rcases hp with rfl | rfl | rfl
 ·exact ob4
 ·exact ObOK.step hst (show ¬ (2:Nat)=1 by decide) _ (ok2 (2,.box [.ptr 1 0]) (by simp[T9]))
 ·exact ObOK.step hst (show ¬ (3:Nat)=1 by decide) _ (ok2 (3,.box (C7 n)) (by simp[T9]))
end Go.Sy.YtljngfegfclkpaaGreat
namespace Go.Sy.YtljngfegfclkpaaGreat
open Go.Proofs
attribute [local irreducible] Go.Sy.G Go.Sy.DR
set_option maxRecDepth 100000
set_option maxHeartbeats 4000000
def Xu (n:Net) (up:List Bool) (d:Bool):Obs:=[(1,.box (Jr n up d)),(2,.box [.ptr 1 0]),(3,.box (C7 n))]
theorem A0c (n:Net) (hn:n.Fin) (up:List Bool) :
  Sq 30 [.ptr 1 1,.clo (.func 161) [] [.ptr 3 0,.ptr 2 0]] (Xu n up false) (.tup []) (Xu n up true):=cT F30 Tryz.ntmps30 λ F hF=>by
 have q1:Sq 74 [.ptr 1 1] (Xu n up false) (Ac false) (Xu n up false):=Afl n up [] 0 0
 have q2:Sq 75 [.ptr 1 1,.clo (.func 161) [] [.ptr 3 0,.ptr 2 0]] (Xu n up false) (.tup []) (Xu n up true):=Atk n hn up []
 conv=>whnf
 refine Ag (Ad [] E F74 q1 E ⟨E,E,E,Y⟩ E ⟨.inl E,.inl E,.inl E,Y⟩) E E ?_
 refine oT ?_
 refine Ag (Ad [] E F75 q2 E ⟨E,E,E,Y⟩ E ⟨.inl E,.inl E,.inl E,Y⟩) E E ?_
 refine oO ?_
 exact A4 E .nil [] (Xu n up true) (λ _ h=>h) E E ⟨Y,⟨.inl E,E,.inl E,E,.inl E,E,Y⟩,E,E⟩
theorem A0b (n:Net) (up:List Bool) :
  Sq 30 [.ptr 1 1,.clo (.func 161) [] [.ptr 3 0,.ptr 2 0]] (Xu n up true) (.tup []) (Xu n up true):=cT F30 Tryz.ntmps30 λ F hF=>by
 have q1:Sq 74 [.ptr 1 1] (Xu n up true) (Ac true) (Xu n up true):=Afl n up (I4 n up) 1 0
 conv=>whnf
 refine Ag (Ad [] E F74 q1 E ⟨E,E,E,Y⟩ E ⟨.inl E,.inl E,.inl E,Y⟩) E E ?_
 refine oF ?_
 exact A4 E .nil [] (Xu n up true) (λ _ h=>h) E E ⟨Y,⟨.inl E,E,.inl E,E,.inl E,E,Y⟩,E,E⟩
theorem A0a (n:Net) (hn:n.Fin) (up:List Bool) (d:Bool) :
  Sq 30 [.ptr 1 1,.clo (.func 161) [] [.ptr 3 0,.ptr 2 0]] (Xu n up d) (.tup []) (Xu n up true):=by
 cases d
 ·exact A0c n hn up
 ·exact A0b n up
theorem Asq (n:Net) (hn:n.Fin) (up:List Bool) (d:Bool) :
  Sq 95 [.ptr 1 0,Aj n] [(1,.box (Jr n up d))] (.sl 1 Ac (I4 n up)) [(1,.box (Jr n up true))]:=cT F95 Tryz.ntmps95 λ F hF=>by
 conv=>whnf
 refine Ag (Ad [] E F30 (A0a n hn up d) E ⟨E,E,E,Y⟩ E ⟨.inl E,.inl E,.inl E,Y⟩) E E ?_
 refine oO ?_
 exact done E (.cons .tmp .nil) [] [(1,.box (Jr n up true))] (λ _ h=>h) E E ⟨Y,⟨.inl E,E,Y⟩,E,E⟩
end Go.Sy.YtljngfegfclkpaaGreat
namespace Go.Sy.YtljngfegfclkpaaGreat
open Go.Proofs
theorem Aad {n:Net} {fw:List Bool} {t:List EntryM} {dom:Int} {q:QueuedM} {now:Int} (ht:TabOK t) (hq:QueuedOK q):TabOK (bridgeT n fw t dom q now).1:=by
 unfold bridgeT
 split
 ·exact Yv
 split
 ·split
  ·exact Tu ht hq now
  ·exact Tu ht hq now
 ·exact Tu ht hq now
theorem Aae {n:Net} (_hn:n.Fin) (hm0:n.Num) {fw:List Bool} {t:List EntryM} {dom:Int} {q:QueuedM} {now:Int} (hq:QueuedOK q):∀ o∈(bridgeT n fw t dom q now).2.1,OutOK n o:=by
 intro o ho
 unfold bridgeT at ho
 split at ho
 ·cases ho
 rename_i h0
 have hb:Ab n=true:=by
  cases hx:Ab n
  ·exact zW (.inl (by unfold Jq;rw[hx];simp)) h0
  ·rfl
 split at ho
 ·split at ho
  ·cases ho
  ·rename_i h1
   have h1:=Decidable.not_not.1 h1
   have hin:∀ (d:Int),(lookT n (routerT n dom q.frame.dst).1 d).2=true→0≤(lookT n (routerT n dom q.frame.dst).1 d).1∧(lookT n (routerT n dom q.frame.dst).1 d).1.toNat<n.irbs.length:=λ d h=>Sn h
   rw[zX.1 ho]
   exact⟨by dsimp only;omega,by simp,λ _=>⟨A0q n hm0 _ _ hin,Ax2 hin h1⟩,λ h=>by dsimp only at h;omega⟩
 ·rcases yF.1 ho with h | h
  ·obtain ⟨p,_,rfl⟩:=yH.1 h
   unfold Qw
   exact Aku (by dsimp only;split<;>omega) (Ael _ _ _ _ hq.frame) (Aot _ _ _ _)
  ·obtain ⟨p,_,rfl⟩:=yH.1 h
   unfold T7
   exact Aku (by dsimp only;omega) (by have:=Ahv n dom p q.frame;omega) (Ats _ _ _ _)
theorem Td {n:Net} (hn:n.Fin) (fw:List Bool) (t:List EntryM) (dom:Int) (q:QueuedM) (now:Int):(bridgeT n fw t dom q now).2.1.length<4294967296:=by
 unfold bridgeT
 split
 ·show (0:Nat)<4294967296;decide
 split
 ·split
  ·show (0:Nat)<4294967296;decide
  ·show (1:Nat)<4294967296;decide
 ·have:=Adn hn fw (learnQ t q now) dom q.from_ q.frame.dst
  simp only[zI,yP]
  omega
theorem Xf (n:Net) (origin:Int):∀ (a b:List OutM) (m:MacM),Bl n m origin (a++b)=((Bl n (Bl n m origin a).1 origin b).1,(Bl n m origin a).2++(Bl n (Bl n m origin a).1 origin b).2)
 | [],b,m=>by simp[Bl]
 | o::a,b,m=>by
  rw[wN,Bl,Bl,Xf n origin a b]
  simp
theorem Vq (n:Net) (m:MacM) (origin:Int) (l:List OutM) (j:Nat) (hj:j<l.length) :
  Bl n m origin (l.take (j+1))=((goesM n (Bl n m origin (l.take j)).1 l[j] origin).1,(Bl n m origin (l.take j)).2++(goesM n (Bl n m origin (l.take j)).1 l[j] origin).2):=by
 rw[zY hj,Xf]
 simp[Bl]
theorem Tw (n:Net) (m:MacM) (o:OutM) (origin:Int):(goesM n m o origin).2.length≤1:=by
 unfold goesM
 split
 ·simp
 split
 ·simp
 split
 ·simp
 split<;>simp
theorem Oe (n:Net) (origin:Int):∀ (l:List OutM) (m:MacM),(Bl n m origin l).2.length≤l.length
 | [],m=>by simp[Bl]
 | o::l,m=>by
  rw[Bl]
  have h1:=Oe n origin l (goesM n m o origin).1
  have h2:=Tw n m o origin
  simp only[zI,yJ]
  omega
end Go.Sy.YtljngfegfclkpaaGreat
namespace Go.Sy.YtljngfegfclkpaaGreat
open Go.Proofs
attribute [local irreducible] Go.Sy.G Go.Sy.DR
set_option maxRecDepth 100000
set_option maxHeartbeats 4000000
theorem Akf {n:Net} {m:MacM} {J D:Int} (h:MacOK n m J D) (hD:0≤D) (dom:Int) {r:List EntryM × List OutM × Int} (hr:TabOK r.1):MacOK n (Sf m dom r) J (D+1):=by
 unfold Sf
 split
 ·exact Ta h hD 2
 split
 ·exact Ta (Aqq h dom hr) hD _
 ·exact(Aqq h dom hr).mono (wG _) q_
def queL (q:QueuedM):List SV:=[Aa q.from_,Aa q.peer,Aa q.origin,Bb q.frame.dst,Bb q.frame.src,Aa q.frame.typ,.sl 1 Al q.frame.body]
def Awr (n:Net) (m:MacM) (q:QueuedM) (l:List SeenM):Obs:=[(0,.box (Qv n 1 m.now m.injected m.drops)),(1,.box (Jr n m.up true)),(2,.row 1 Ma m.tables),(3,.row 1 M4 m.queues),(7,.box (queL q)),(1000,.row 3 Dw l)]
theorem Av9 (n:Net) (hn:n.Fin) (hm1:n.Num) (m:MacM) (d:Bool) (J D:Int) (hm0:MacOK n m J D) (hD0:0≤D) (hD:D≤900000000000) (dom at_:Int) :
  Sq 36 [.ptr 0 0,Aa dom,Aa at_] (D0 n m d) (.sl 3 Dw (pickT n m dom at_).2) (D0 n (pickT n m dom at_).1 (if (takeM m dom at_).2.2 then true else d)):=cT F36 Tryz.ntmps36 λ F hF=>by
 have hres:=pickT.eq_1 n m dom at_
 generalize pickT n m dom at_=res at *
 have q1:=Ajr n m d dom at_ (Hx hm0 dom)
 have hok:=Abd hm0 dom at_
 have hpl:(takeM m dom at_).2.2=true→0≤dom∧dom.toNat<m.queues.length:=λ h=>by
  unfold takeM at h
  split at h
  ·cases h
  ·rename_i h2
   exact placeB_iff.1 (by cases hx:Af dom m.queues.length;exact zW hx h2;rfl)
 have htl:(takeM m dom at_).1.tables=m.tables:=by unfold takeM;split<;>rfl
 generalize takeM m dom at_=r at *
 obtain ⟨m1,q,ok⟩:=r
 have htq:m.queues.length=m.tables.length:=by rw[hm0.ques,hm0.tabs]
 conv=>whnf
 refine Ag (Ad [] E F37 q1 E ⟨E,E,E,E,Y⟩ E ⟨.inl E,.inl E,.inl E,.inl E,Y⟩) E E ?_
 refine oO ?_
 cases ok
 ·rw[zC rfl]at hres
  subst hres
  (refine⟨λ _=>?_,λ h=>False.elim (by simp at h)⟩;refine rg ?_;conv=>whnf)
  refine Ao 6 3 Dw E ?_
  exact done E (.cons .tmp .nil) [] (D0 n m1 d) (λ _ h=>h) E E ⟨Y,⟨.inl E,E,.inl E,E,.inl E,E,.inl E,E,Y⟩,E,E⟩
 rw[zA y_]at hres
 have hd:=hpl rfl
 have hd2:0≤dom∧dom.toNat<m1.tables.length:=by rw[htl,← htq];exact hd
 dsimp only at hres hok
 have q2:=Asq n hn m1.up d
 have q3:=Amf n hn hm1 (I4 n m1.up) (tableL m1 dom) dom q m1.now (Yh hok.1 dom) hok.2
 have hb1:=Aad (n:=n) (fw:=I4 n m1.up) (dom:=dom) (now:=m1.now) (Yh hok.1 dom) hok.2
 have hb2:=Aae (fw:=I4 n m1.up) (t:=tableL m1 dom) (dom:=dom) (now:=m1.now) hn hm1 hok.2
 have hb3:=Td hn (I4 n m1.up) (tableL m1 dom) dom q m1.now
 have hb4:=Ame n (I4 n m1.up) (tableL m1 dom) dom q m1.now
 rw[Wl]at hres
 have hz:=Akf hok.1 hD0 dom hb1
 generalize bridgeT n (I4 n m1.up) (tableL m1 dom) dom q m1.now=b at *
 obtain ⟨t,out,e⟩:=b
 have hb2:∀ o∈out,OutOK n o:=hb2
 have hb3:out.length<4294967296:=hb3
 have hb4:B4 e:=hb4
 have ht0:=tableL.eq_1 m1 dom
 rw[Aa2 hd2.2]at ht0
 generalize tableL m1 dom=t0 at *
 subst ht0
 (refine⟨λ h=>False.elim (by simp at h),λ _=>?_⟩;refine rg ?_;conv=>whnf)
 refine Bs (Ad [] E F95 q2 E ⟨E,Y⟩ E ⟨.inl E,Y⟩) z_ E ?_
 refine oD ?_
 refine⟨hd2.1,hd2.2,?_⟩
 conv=>whnf
 refine⟨E,hd2.2,?_⟩
 conv=>whnf
 refine cD q3 F94 ?_
 refine oD ?_
 refine kW ?_
 constructor<;>intro h
 ·have h2:¬ e=2:=by simpa using h
  clear h
  refine oO ?_
  refine⟨hd2.1,hd2.2,?_⟩
  conv=>whnf
  refine⟨E,hd2.2,t,E,E,?_⟩
  conv=>whnf
  constructor<;>intro h
  ·have h3:¬ e=0:=by simpa using h
   clear h
   have hpd:Sf m1 dom (t,out,e)=Cv (D9 m1 dom t) e:=by
    unfold Sf
    rw[zA h2,zC h3]
   rw[hpd]at hres hz
   subst hres
   have q4:=Al3 n (D9 m1 dom t) true e hb4.1 hb4.2 ⟨(hok.1.drp _).1,by have:=(hok.1.drp e.toNat).2;show m1.drops e.toNat≤1000000000000;omega⟩
   refine oO ?_
   refine Ag (Ad [] E F96 q4 E ⟨E,E,E,E,Y⟩ E ⟨.inl E,.inl E,.inl E,.inl E,Y⟩) E E ?_
   refine oO ?_
   have hdr:T4 (Cv (D9 m1 dom t) e):=λ i=>⟨(hz.drp i).1,by have:=(hz.drp i).2;omega⟩
   refine Co 12 1000 3 Dw E E ?_
   refine A5 out.length (λ j=>[(0,.ptr 0 0),(7,.ptr 7 0),(12,.osl 1000),(69,.sl 9 E5 out),(70,Aa out.length),(71,Aa j)]) (λ j=>Awr n (Bl n (Cv (D9 m1 dom t) e) q.origin (out.take j)).1 q (Bl n (Cv (D9 m1 dom t) e) q.origin (out.take j)).2) [] ⟨⟨E,E,E,E,E,E,E,E,E,E,E,E,Y⟩,⟨.inl E,E,.inl E,E,.inl E,E,.inl E,E,.inl E,E,.inl E,E,Y⟩,E,E⟩ ?_
   intro j hj
   refine oO ?_
   constructor<;>intro h
   ·have hlt:j<out.length:=qA h
    have hj0:((j:Nat):Int).toNat<out.length:=by simpa using hlt
    obtain ⟨o,hoo⟩:∃ o,out[j]=o:=⟨_,rfl⟩
    have e1:out[((j:Nat):Int).toNat]'hj0=o:=hoo
    have hs:=Vq n (Cv (D9 m1 dom t) e) q.origin out j hlt
    rw[hoo]at hs
    have hjo:=S3 hn q.origin (out.take j) hz q_ (λ x hx=>hb2 x (wB hx))
    have hlen:(out.take j).length=j:=by rw[zU];omega
    rw[hlen]at hjo
    have hsl:=Oe n q.origin (out.take j) (Cv (D9 m1 dom t) e)
    rw[hlen]at hsl
    have q5:=Abk n hn (Bl n (Cv (D9 m1 dom t) e) q.origin (out.take j)).1 true J _ hjo q_ o (hb2 o (by rw[← hoo];exact zE hlt)) q.origin
    have hfw:=Tw n (Bl n (Cv (D9 m1 dom t) e) q.origin (out.take j)).1 o q.origin
    clear h
    refine oO ?_
    refine⟨E,by omega,hj0,?_⟩
    rw[e1]
    conv=>whnf
    refine Ag (Ad [] E F97 q5 E ⟨E,E,E,E,Y⟩ E ⟨.inl E,.inl E,.inl E,.inl E,Y⟩) E E ?_
    refine oO ?_
    refine Ag (Ah Γ.toTy 81 E E E E E (.row E) .sl y_ q_ q_) E E ?_
    refine oO ?_
    refine iW ?_
    have g1:(Bl n (Cv (D9 m1 dom t) e) q.origin (out.take (j+1))).1=(goesM n (Bl n (Cv (D9 m1 dom t) e) q.origin (out.take j)).1 o q.origin).1:=by rw[hs]
    have g2:(Bl n (Cv (D9 m1 dom t) e) q.origin (out.take (j+1))).2=(Bl n (Cv (D9 m1 dom t) e) q.origin (out.take j)).2++(goesM n (Bl n (Cv (D9 m1 dom t) e) q.origin (out.take j)).1 o q.origin).2:=by rw[hs]
    refine Ax [(1000,81)] hlt ⟨⟨E,E,E,E,E,E,E,E,E,E,E,E,Y⟩,?_,E,E⟩
    dsimp only
    rw[g1,g2]
    exact⟨.inl E,E,.inl E,E,.inl E,E,.inl E,E,.inl E,E,.inl E,E,Y⟩
   ·have hjj:j=out.length:=qB h
    subst hjj
    rw[yG]
    clear h
    refine oO ?_
    refine Ai 1000 E ?_
    exact done E (.cons .tmp .nil) [] (D0 n (Bl n (Cv (D9 m1 dom t) e) q.origin out).1 true) (λ _ h=>h) E E ⟨Y,⟨.inl E,E,.inl E,E,.inl E,E,.inl E,E,Y⟩,E,E⟩
  ·have h3:e=0:=by simpa using h
   clear h
   have hpd:Sf m1 dom (t,out,e)=D9 m1 dom t:=by
    unfold Sf
    rw[zA h2,zA (λ h=>h h3)]
   rw[hpd]at hres hz
   subst hres
   refine oO ?_
   have hdr:T4 (D9 m1 dom t):=λ i=>⟨(hz.drp i).1,by have:=(hz.drp i).2;omega⟩
   refine Co 12 1000 3 Dw E E ?_
   refine A5 out.length (λ j=>[(0,.ptr 0 0),(7,.ptr 7 0),(12,.osl 1000),(69,.sl 9 E5 out),(70,Aa out.length),(71,Aa j)]) (λ j=>Awr n (Bl n (D9 m1 dom t) q.origin (out.take j)).1 q (Bl n (D9 m1 dom t) q.origin (out.take j)).2) [] ⟨⟨E,E,E,E,E,E,E,E,E,E,E,E,Y⟩,⟨.inl E,E,.inl E,E,.inl E,E,.inl E,E,.inl E,E,.inl E,E,Y⟩,E,E⟩ ?_
   intro j hj
   refine oO ?_
   constructor<;>intro h
   ·have hlt:j<out.length:=qA h
    have hj0:((j:Nat):Int).toNat<out.length:=by simpa using hlt
    obtain ⟨o,hoo⟩:∃ o,out[j]=o:=⟨_,rfl⟩
    have e1:out[((j:Nat):Int).toNat]'hj0=o:=hoo
    have hs:=Vq n (D9 m1 dom t) q.origin out j hlt
    rw[hoo]at hs
    have hjo:=S3 hn q.origin (out.take j) hz q_ (λ x hx=>hb2 x (wB hx))
    have hlen:(out.take j).length=j:=by rw[zU];omega
    rw[hlen]at hjo
    have hsl:=Oe n q.origin (out.take j) (D9 m1 dom t)
    rw[hlen]at hsl
    have q5:=Abk n hn (Bl n (D9 m1 dom t) q.origin (out.take j)).1 true J _ hjo q_ o (hb2 o (by rw[← hoo];exact zE hlt)) q.origin
    have hfw:=Tw n (Bl n (D9 m1 dom t) q.origin (out.take j)).1 o q.origin
    clear h
    refine oO ?_
    refine⟨E,by omega,hj0,?_⟩
    rw[e1]
    conv=>whnf
    refine Ag (Ad [] E F97 q5 E ⟨E,E,E,E,Y⟩ E ⟨.inl E,.inl E,.inl E,.inl E,Y⟩) E E ?_
    refine oO ?_
    refine Ag (Ah Γ.toTy 81 E E E E E (.row E) .sl y_ q_ q_) E E ?_
    refine oO ?_
    refine iW ?_
    have g1:(Bl n (D9 m1 dom t) q.origin (out.take (j+1))).1=(goesM n (Bl n (D9 m1 dom t) q.origin (out.take j)).1 o q.origin).1:=by rw[hs]
    have g2:(Bl n (D9 m1 dom t) q.origin (out.take (j+1))).2=(Bl n (D9 m1 dom t) q.origin (out.take j)).2++(goesM n (Bl n (D9 m1 dom t) q.origin (out.take j)).1 o q.origin).2:=by rw[hs]
    refine Ax [(1000,81)] hlt ⟨⟨E,E,E,E,E,E,E,E,E,E,E,E,Y⟩,?_,E,E⟩
    dsimp only
    rw[g1,g2]
    exact⟨.inl E,E,.inl E,E,.inl E,E,.inl E,E,.inl E,E,.inl E,E,Y⟩
   ·have hjj:j=out.length:=qB h
    subst hjj
    rw[yG]
    clear h
    refine oO ?_
    refine Ai 1000 E ?_
    exact done E (.cons .tmp .nil) [] (D0 n (Bl n (D9 m1 dom t) q.origin out).1 true) (λ _ h=>h) E E ⟨Y,⟨.inl E,E,.inl E,E,.inl E,E,.inl E,E,Y⟩,E,E⟩
 ·have h2:e=2:=by simpa using h
  clear h
  subst h2
  have hpd:Sf m1 dom (t,out,2)=Cv m1 2:=by
   unfold Sf
   rw[zC rfl]
  rw[hpd]at hres hz
  subst hres
  have q4:=Al3 n m1 true 2 j_ j_ ⟨(hok.1.drp _).1,by have:=(hok.1.drp (Int.toNat 2)).2;omega⟩
  refine oT ?_
  refine Ag (Ad [] E F96 q4 E ⟨E,E,E,E,Y⟩ E ⟨.inl E,.inl E,.inl E,.inl E,Y⟩) E E ?_
  refine oO ?_
  have hdr:T4 (Cv m1 2):=λ i=>⟨(hz.drp i).1,by have:=(hz.drp i).2;omega⟩
  refine Co 12 1000 3 Dw E E ?_
  refine A5 out.length (λ j=>[(0,.ptr 0 0),(7,.ptr 7 0),(12,.osl 1000),(69,.sl 9 E5 out),(70,Aa out.length),(71,Aa j)]) (λ j=>Awr n (Bl n (Cv m1 2) q.origin (out.take j)).1 q (Bl n (Cv m1 2) q.origin (out.take j)).2) [] ⟨⟨E,E,E,E,E,E,E,E,E,E,E,E,Y⟩,⟨.inl E,E,.inl E,E,.inl E,E,.inl E,E,.inl E,E,.inl E,E,Y⟩,E,E⟩ ?_
  intro j hj
  refine oO ?_
  constructor<;>intro h
  ·have hlt:j<out.length:=qA h
   have hj0:((j:Nat):Int).toNat<out.length:=by simpa using hlt
   obtain ⟨o,hoo⟩:∃ o,out[j]=o:=⟨_,rfl⟩
   have e1:out[((j:Nat):Int).toNat]'hj0=o:=hoo
   have hs:=Vq n (Cv m1 2) q.origin out j hlt
   rw[hoo]at hs
   have hjo:=S3 hn q.origin (out.take j) hz q_ (λ x hx=>hb2 x (wB hx))
   have hlen:(out.take j).length=j:=by rw[zU];omega
   rw[hlen]at hjo
   have hsl:=Oe n q.origin (out.take j) (Cv m1 2)
   rw[hlen]at hsl
   have q5:=Abk n hn (Bl n (Cv m1 2) q.origin (out.take j)).1 true J _ hjo q_ o (hb2 o (by rw[← hoo];exact zE hlt)) q.origin
   have hfw:=Tw n (Bl n (Cv m1 2) q.origin (out.take j)).1 o q.origin
   clear h
   refine oO ?_
   refine⟨E,by omega,hj0,?_⟩
   rw[e1]
   conv=>whnf
   refine Ag (Ad [] E F97 q5 E ⟨E,E,E,E,Y⟩ E ⟨.inl E,.inl E,.inl E,.inl E,Y⟩) E E ?_
   refine oO ?_
   refine Ag (Ah Γ.toTy 81 E E E E E (.row E) .sl y_ q_ q_) E E ?_
   refine oO ?_
   refine iW ?_
   have g1:(Bl n (Cv m1 2) q.origin (out.take (j+1))).1=(goesM n (Bl n (Cv m1 2) q.origin (out.take j)).1 o q.origin).1:=by rw[hs]
   have g2:(Bl n (Cv m1 2) q.origin (out.take (j+1))).2=(Bl n (Cv m1 2) q.origin (out.take j)).2++(goesM n (Bl n (Cv m1 2) q.origin (out.take j)).1 o q.origin).2:=by rw[hs]
   refine Ax [(1000,81)] hlt ⟨⟨E,E,E,E,E,E,E,E,E,E,E,E,Y⟩,?_,E,E⟩
   dsimp only
   rw[g1,g2]
   exact⟨.inl E,E,.inl E,E,.inl E,E,.inl E,E,.inl E,E,.inl E,E,Y⟩
  ·have hjj:j=out.length:=qB h
   subst hjj
   rw[yG]
   clear h
   refine oO ?_
   refine Ai 1000 E ?_
   exact done E (.cons .tmp .nil) [] (D0 n (Bl n (Cv m1 2) q.origin out).1 true) (λ _ h=>h) E E ⟨Y,⟨.inl E,E,.inl E,E,.inl E,E,.inl E,E,Y⟩,E,E⟩
theorem Asa (l:List (List EntryM)) (now:Int) (j:Nat) (hj:j<l.length) :
  ((l.take j).map (λ t=>ageT t now)++l.drop j).set j (ageT l[j] now)=(l.take (j+1)).map (λ t=>ageT t now)++l.drop (j+1):=by
 apply uL
 ·simp only[yE,zI,yP,zU,yN];omega
 intro i h1 h2
 simp only[yE,zI,yP,zU,yN]at h1
 rw[wU]
 by_cases hi:j=i
 ·subst hi
  rw[zC rfl,yL (by simp;omega)]
  simp
 ·rw[zA hi]
  by_cases hlt:i<j
  ·rw[yL (by simp;omega),yL (by simp;omega)]
   simp
  ·rw[yY (by simp;omega),yY (by simp;omega)]
   simp only[wZ,yP,zU]
   congr 1
   omega
theorem Auh {P:Program} {o:Oper} {s:SS} {x y:Operand} {at_:Array TypeId} {k k':IntKind} {m n r:Int} (hr:(if n<m then n else m)=r) (h:o.op=.call ⟨.builtin .min,#[x,y],at_⟩)
  (hx:ev s x=.val (.int k m)) (hy:ev s y=.val (.int k' n)):Good P o s ⟨.val (.int k r),[],[]⟩:=by
 have:=W8 (P:=P) h hx hy
 rwa [hr]at this
def Aax (l:List (List EntryM)) (now:Int) (j:Nat):List (List EntryM):=(l.take j).map (λ t=>ageT t now)++l.drop j
theorem Ay8 (l:List (List EntryM)) (now:Int) (j:Nat) (hj:j<l.length) (h2:j<(Aax l now j).length):(Aax l now j)[j]=l[j]:=by
 have h:(Aax l now j)[j]? = l[j]?:=by
  unfold Aax
  have hm:min j l.length=j:=by omega
  rw[xW (by simp;omega),tM,yP,zU,hm,uU,tS]
 rw[zH hj,zH h2]at h
 exact Option.some.inj h
theorem Amq (l:List (List EntryM)) (now:Int) (j:Nat):(Aax l now j).length=l.length:=by
 unfold Aax
 simp only[zI,yP,zU,yN]
 omega
def tickO (n:Net) (m:MacM) (d:Bool) (now:Int) (j:Nat):Obs:=[(0,.box (Qv n 1 now m.injected m.drops)),(1,.box (Jr n m.up d)),(2,.row 1 Ma (Aax m.tables now j)),(3,.row 1 M4 m.queues)]
theorem Av8 (n:Net) (m:MacM) (d:Bool) (J D:Int) (hm0:MacOK n m J D) (hs:Ak n.domains) :
  Sq 38 [.ptr 0 0] (D0 n m d) (.tup []) (D0 n (Uc m) d):=cT F38 Tryz.ntmps38 λ F hF=>by
 unfold Ak at hs
 have hnow:=hm0.now
 have htl:m.tables.length<2147483648:=by rw[hm0.tabs];exact hs
 have hto:=hm0.tab
 obtain ⟨nw,hnw⟩:∃ nw,(if 1099511627776<m.now+1 then 1099511627776 else m.now+1)=nw:=⟨_,rfl⟩
 have hti:Uc m=⟨m.up,Aax m.tables nw m.tables.length,m.queues,nw,m.injected,m.drops⟩:=by
  have:min (m.now+1) 1099511627776=nw:=by rw[← hnw];split<;>omega
  unfold Uc Aax
  rw[this,yG,tC,xJ]
 rw[hti]
 conv=>whnf
 refine iW ?_
 refine Ag (Auh hnw E E E) E E ?_
 refine oO ?_
 refine A5 m.tables.length (λ j=>[(0,.ptr 0 0),(16,.osl 2),(17,Aa m.tables.length),(18,Aa j)]) (λ j=>tickO n m d nw j) [] ⟨⟨E,E,E,E,E,E,E,E,Y⟩,⟨.inl E,E,.inl E,E,.inl E,E,.inl E,E,Y⟩,E,E⟩ ?_
 intro j hj
 refine oO ?_
 constructor<;>intro h
 ·have hlt:j<m.tables.length:=qA h
  have hal:=Amq m.tables nw j
  have hj0:((j:Nat):Int).toNat<(Aax m.tables nw j).length:=by rw[hal];simpa using hlt
  obtain ⟨t,hoo⟩:∃ t,m.tables[j]=t:=⟨_,rfl⟩
  have e1:(Aax m.tables nw j)[((j:Nat):Int).toNat]'hj0=t:=(Ay8 m.tables nw j hlt (by rw[hal];exact hlt)).trans hoo
  have hs:=Asa m.tables nw j hlt
  rw[hoo]at hs
  have ht:=hto t (by rw[← hoo];exact zE hlt)
  clear h
  refine oO ?_
  refine⟨by omega,hj0,?_⟩
  conv=>whnf
  refine⟨E,hj0,?_⟩
  rw[e1]
  conv=>whnf
  refine cD (Azq t nw ht.short ht.mac) F98 ?_
  refine oD ?_
  refine⟨by omega,hj0,?_⟩
  conv=>whnf
  refine⟨E,hj0,ageT t nw,E,E,?_⟩
  conv=>whnf
  refine kW ?_
  refine iW ?_
  exact Ax [] hlt ⟨⟨E,E,E,E,E,E,E,E,Y⟩,⟨.inl E,E,.inl E,E,.inl (zD (Ob.row 1 Ma) hs.symm),E,.inl E,E,Y⟩,E,E⟩
 ·have hjj:j=m.tables.length:=qB h
  subst hjj
  clear h
  refine oO ?_
  exact A4 E .nil [] (D0 n ⟨m.up,Aax m.tables nw m.tables.length,m.queues,nw,m.injected,m.drops⟩ d) (λ _ h=>h) E E ⟨Y,⟨.inl E,E,.inl E,E,.inl E,E,.inl E,E,Y⟩,E,E⟩
def Ajs (n:Net) (m:MacM) (d:Bool):Obs:=[(0,.box (Qv n 4 m.now m.injected m.drops)),(1,.non),(2,.row 1 Ma m.tables),(3,.row 1 M4 m.queues),(4,.box (Jr n m.up d))]
def upT (m:MacM) (up:List Bool):MacM:=⟨up,m.tables,m.queues,m.now,m.injected,m.drops⟩
def doD (n:Net) (m:MacM) (d:Bool) (x:StepM):Bool :=
 if x.kind=1 then d else if x.kind=2 then (if (takeM m x.domain x.at_).2.2 then true else d) else if x.kind=3 then d else if x.kind=4 then d else if x.kind=5 then (if x.up.length=n.links.length then false else d) else d
theorem Anq (n:Net) (hn:n.Fin) (hm1:n.Num) (m:MacM) (d:Bool) (J D:Int) (hm0:MacOK n m J D) (hJ:J<900000000000) (hD0:0≤D) (hD:D≤900000000000) (x:StepM) (hb:x.bytes.length<100000) :
  Sq 15 [.ptr 0 0,D6 x] (D0 n m d) (.tup [.sl 3 Dw (doT n m x).2,Aa 0]) (Ajs n (doT n m x).1 (doD n m d x)):=cT F15 Tryz.ntmps15 λ F hF=>by
 have hres:=doT.eq_1 n m x
 generalize doT n m x=res at *
 have hdd:=doD.eq_1 n m d x
 generalize doD n m d x=dd at *
 conv=>whnf
 refine Ag (Xc (d:=900) E E E) E E ?_
 refine oF ?_
 constructor<;>intro h
 ·have h1:x.kind=1:=by simpa using h
  rw[zC h1]at hres hdd
  subst hres
  subst hdd
  have q1:=Anp n hn m dd J D hm0 q_ q_ x.port x.bytes hb
  refine oO ?_
  refine Ag (Ad [] E F35 q1 E ⟨E,E,E,E,Y⟩ E ⟨.inl E,.inl E,.inl E,.inl E,Y⟩) E E ?_
  refine oO ?_
  refine Ao 4 3 Dw E ?_
  refine Lf 1 4 E E j_ ?_
  exact done E (.cons .tmp (.cons .tmp .nil)) [] (Ajs n (injectT n m x.port x.bytes) dd) (λ _ h=>h) E E ⟨Y,⟨.inl E,E,.inl E,E,.inl E,E,.inl E,E,.inl E,E,Y⟩,E,E⟩
 have h1:¬ x.kind=1:=by simpa using h
 rw[zA h1]at hres hdd
 clear h
 refine oO ?_
 constructor<;>intro h
 ·have h1:x.kind=2:=by simpa using h
  rw[zC h1]at hres hdd
  subst hres
  have q1:=Av9 n hn hm1 m d J D hm0 hD0 hD x.domain x.at_
  rw[← hdd]at q1
  refine oO ?_
  refine Ag (Ad [] E F36 q1 E ⟨E,E,E,E,Y⟩ E ⟨.inl E,.inl E,.inl E,.inl E,Y⟩) E E ?_
  refine oO ?_
  refine Lf 1 4 E E j_ ?_
  exact done E (.cons .tmp (.cons .tmp .nil)) [] (Ajs n (pickT n m x.domain x.at_).1 dd) (λ _ h=>h) E E ⟨Y,⟨.inl E,E,.inl E,E,.inl E,E,.inl E,E,.inl E,E,Y⟩,E,E⟩
 have h1:¬ x.kind=2:=by simpa using h
 rw[zA h1]at hres hdd
 clear h
 refine oO ?_
 constructor<;>intro h
 ·have h1:x.kind=3:=by simpa using h
  rw[zC h1]at hres hdd
  subst hres
  subst hdd
  have q1:=Ajr n m dd x.domain x.at_ (Hx hm0 _)
  refine oO ?_
  refine Ag (Ad [] E F37 q1 E ⟨E,E,E,E,Y⟩ E ⟨.inl E,.inl E,.inl E,.inl E,Y⟩) E E ?_
  refine oO ?_
  refine Ao 4 3 Dw E ?_
  refine Lf 1 4 E E j_ ?_
  exact done E (.cons .tmp (.cons .tmp .nil)) [] (Ajs n (takeM m x.domain x.at_).1 dd) (λ _ h=>h) E E ⟨Y,⟨.inl E,E,.inl E,E,.inl E,E,.inl E,E,.inl E,E,Y⟩,E,E⟩
 have h1:¬ x.kind=3:=by simpa using h
 rw[zA h1]at hres hdd
 clear h
 refine oO ?_
 constructor<;>intro h
 ·have h1:x.kind=4:=by simpa using h
  rw[zC h1]at hres hdd
  subst hres
  subst hdd
  have q1:=Av8 n m dd J D hm0 hn.domains
  refine oO ?_
  refine Ag (Ad [] E F38 q1 E ⟨E,E,E,E,Y⟩ E ⟨.inl E,.inl E,.inl E,.inl E,Y⟩) E E ?_
  refine oO ?_
  refine Ao 4 3 Dw E ?_
  refine Lf 1 4 E E j_ ?_
  exact done E (.cons .tmp (.cons .tmp .nil)) [] (Ajs n (Uc m) dd) (λ _ h=>h) E E ⟨Y,⟨.inl E,E,.inl E,E,.inl E,E,.inl E,E,.inl E,E,Y⟩,E,E⟩
 have h1:¬ x.kind=4:=by simpa using h
 rw[zA h1]at hres hdd
 clear h
 refine oO ?_
 constructor<;>intro h
 ·have h1:x.kind=5:=by simpa using h
  rw[zC h1]at hres hdd
  clear h
  refine oO ?_
  refine kW ?_
  constructor<;>intro h
  ·have h2:x.up.length=n.links.length:=qA h
   rw[zC h2]at hres hdd
   subst hres
   subst hdd
   clear h
   have hls:=hn.links
   unfold Ak at hls
   refine oO ?_
   refine c0 (Ap0 x.up q_) F39 ?_
   refine oO ?_
   refine Ao 4 3 Dw E ?_
   refine Am 55 (Jr n x.up false) E vL ?_
   exact done E (.cons .tmp (.cons .tmp .nil)) [(4,55)] (Ajs n (upT m x.up) false) (λ _ h=>h) E E ⟨Y,⟨.inl E,E,.inr E,E,.inl E,E,.inl E,E,.inl E,E,Y⟩,E,E⟩
  ·have h2:¬ x.up.length=n.links.length:=qB h
   rw[zA h2]at hres hdd
   subst hres
   subst hdd
   clear h
   refine oO ?_
   refine Ao 4 3 Dw E ?_
   refine Lf 1 4 E E j_ ?_
   exact done E (.cons .tmp (.cons .tmp .nil)) [] (Ajs n m dd) (λ _ h=>h) E E ⟨Y,⟨.inl E,E,.inl E,E,.inl E,E,.inl E,E,.inl E,E,Y⟩,E,E⟩
 have h1:¬ x.kind=5:=by simpa using h
 rw[zA h1]at hres hdd
 subst hres
 subst hdd
 clear h
 refine oO ?_
 refine Ao 4 3 Dw E ?_
 refine Lf 1 4 E E j_ ?_
 exact done E (.cons .tmp (.cons .tmp .nil)) [] (Ajs n m dd) (λ _ h=>h) E E ⟨Y,⟨.inl E,E,.inl E,E,.inl E,E,.inl E,E,.inl E,E,Y⟩,E,E⟩
theorem Abj (n:Net) (hn:n.Fin) (hb:okB n (List.replicate n.links.length true)=false) :
  Sp 13 [Aj n] (.tup [.val (.pointer none),Aa 2]):=cT F13 Tryz.ntmps13 λ F hF=>by
 have hls:=hn.links
 unfold Ak at hls
 have q1:=Aqw n.links.length q_
 have q2:=Ac4 n (List.replicate n.links.length true) hn hb
 generalize List.replicate n.links.length true=up at *
 conv=>whnf
 refine Ku 7 Ac [true] E E ?_
 refine Ai 7 E ?_
 refine oO ?_
 refine c0 q1 F32 ?_
 refine oO ?_
 refine c0 q2 F33 ?_
 refine oT ?_
 exact dN
theorem Aqm (n:Net) (hn:n.Fin) (hb:okB n (List.replicate n.links.length true)=true) :
  Sq 13 [Aj n] [] (.tup [.ptr 0 0,Aa 0]) (D0 n (newT n) false):=cT F13 Tryz.ntmps13 λ F hF=>by
 have hls:=hn.links
 have hds:=hn.domains
 unfold Ak at hls hds
 have q1:=Aqw n.links.length q_
 have q2:=Agb n (List.replicate n.links.length true) hn hb
 have hnt:=newT.eq_1 n
 generalize newT n=m at *
 generalize List.replicate n.links.length true=up at *
 conv=>whnf
 refine Ku 7 Ac [true] E E ?_
 refine Ai 7 E ?_
 refine oO ?_
 refine c0 q1 F32 ?_
 refine oO ?_
 refine c0 q2 F33 ?_
 refine oF ?_
 refine cD (copyS n hn) F34 ?_
 refine oD ?_
 refine Bs (Bw Γ.toTy (d:=28) (n:=n.domains.length) (λ _:Unit=>.val (.slice none 0 0)) () E E E E E E E E q_ q_ E E E) z_ E ?_
 refine oD ?_
 refine Bs (Bw Γ.toTy (d:=32) (n:=n.domains.length) (λ _:Unit=>.val (.slice none 0 0)) () E E E E E E E E q_ q_ E E E) z_ E ?_
 refine oD ?_
 refine⟨z_,?_⟩
 refine Amv 28 (e':=Ma) (l':=List.replicate n.domains.length []) E y_ (λ M w i h1 h2 v hv=>?_) ?_
 ·rw[uO]
  simp only[RdD]at hv
  exact Ad5 hv
 refine Amv 32 (e':=M4) (l':=List.replicate n.domains.length []) E y_ (λ M w i h1 h2 v hv=>?_) ?_
 ·rw[uO]
  simp only[RdD]at hv
  exact Ad5 hv
 refine Am 24 (Jr n up false) E vL ?_
 refine oO ?_
 subst hnt
 exact done E (.cons .tmp (.cons .tmp .nil)) [(0,34),(1,24),(2,28),(3,32)] (D0 n ⟨up,List.replicate n.domains.length [],List.replicate n.domains.length [],0,0,λ _=>0⟩ false) (λ _ h=>h) E E ⟨Y,⟨.inl E,E,.inl E,E,.inl E,E,.inl E,E,Y⟩,E,E⟩
end Go.Sy.YtljngfegfclkpaaGreat
namespace Go.Sy.YtljngfegfclkpaaGreat
open Go.Proofs
theorem Zl (n:Net):∀ (a b:List StepM) (m:MacM),Ds n m (a++b)=((Ds n (Ds n m a).1 b).1,(Ds n m a).2++(Ds n (Ds n m a).1 b).2)
 | [],b,m=>by simp[Ds]
 | o::a,b,m=>by
  rw[wN,Ds,Ds,Zl n a b]
  simp
theorem Asy (n:Net) (m:MacM) (l:List StepM) (j:Nat) (hj:j<l.length) :
  Ds n m (l.take (j+1))=((doT n (Ds n m (l.take j)).1 l[j]).1,(Ds n m (l.take j)).2++(doT n (Ds n m (l.take j)).1 l[j]).2):=by
 rw[zY hj,Zl]
 simp[Ds]
def runF (n:Net) (s:MacM × Bool) (l:List StepM):MacM × Bool:=l.foldl (λ s x=>((doT n s.1 x).1,doD n s.1 s.2 x)) s
theorem Ajw (n:Net):∀ (l:List StepM) (s:MacM × Bool),(runF n s l).1=(Ds n s.1 l).1
 | [],s=>rfl
 | x::l,s=>by
  have:=Ajw n l ((doT n s.1 x).1,doD n s.1 s.2 x)
  rw[Ds]
  exact this
def runD (n:Net) (m:MacM) (d:Bool) (l:List StepM):Bool:=(runF n (m,d) l).2
theorem Asz (n:Net) (m:MacM) (d:Bool) (l:List StepM) (j:Nat) (hj:j<l.length) :
  runD n m d (l.take (j+1))=doD n (Ds n m (l.take j)).1 (runD n m d (l.take j)) l[j]:=by
 unfold runD
 rw[zY hj]
 have:=Ajw n (l.take j) (m,d)
 unfold runF at this ⊢
 rw[xB]
 show doD n (List.foldl _ (m,d) (l.take j)).1 _ l[j]=_
 rw[this]
theorem Ayn {n:Net} (hn:n.Fin) (hm1:n.Num) {m:MacM} {J D:Int} (h:MacOK n m J D) (hJ:0≤J) (hD:0≤D) (x:StepM):MacOK n (doT n m x).1 (J+1) (D+4294967298):=by
 unfold doT
 split
 ·exact(Ao6 hn h hJ hD _ _).mono q_ q_
 split
 ·have hok:=Abd h x.domain x.at_
  unfold pickT
  split
  ·exact hok.1.mono q_ q_
  ·have hb:=Td hn (I4 n (takeM m x.domain x.at_).1.up) (tableL (takeM m x.domain x.at_).1 x.domain) x.domain (takeM m x.domain x.at_).2.1 (takeM m x.domain x.at_).1.now
   have h1:=Akf hok.1 hD x.domain (Aad (n:=n) (fw:=I4 n (takeM m x.domain x.at_).1.up) (dom:=x.domain) (now:=(takeM m x.domain x.at_).1.now) (Yh hok.1 x.domain) hok.2)
   have h2:=S3 hn (takeM m x.domain x.at_).2.1.origin (Wl n (takeM m x.domain x.at_).1 x.domain (takeM m x.domain x.at_).2.1).2.1 h1 q_ (Aae hn hm1 hok.2)
   refine h2.mono q_ ?_
   unfold Wl
   omega
 split
 ·exact(Abd h x.domain x.at_).1.mono q_ q_
 split
 ·have h1:=h.now
  refine⟨h.up,by unfold Uc;simp only[yP];exact h.tabs,h.ques,λ t ht=>?_,h.que,?_,?_,λ i=>?_⟩
  ·unfold Uc at ht
   obtain ⟨t0,ht0,rfl⟩:=yH.1 ht
   exact A1d (h.tab t0 ht0) _
  ·unfold Uc
   dsimp only
   omega
  ·have:=h.inj
   unfold Uc
   dsimp only
   omega
  ·have:=h.drp i
   unfold Uc
   dsimp only
   omega
 split
 ·split
  ·rename_i h2
   exact MacOK.mono (n:=n) (m:=⟨x.up,m.tables,m.queues,m.now,m.injected,m.drops⟩) ⟨h2,h.tabs,h.ques,h.tab,h.que,h.now,h.inj,h.drp⟩ q_ q_
  ·exact h.mono q_ q_
 ·exact h.mono q_ q_
theorem Aik {n:Net} (hn:n.Fin) (m:MacM) (x:StepM):(doT n m x).2.length<4294967296:=by
 unfold doT
 split
 ·show (0:Nat)<4294967296;decide
 split
 ·unfold pickT
  split
  ·show (0:Nat)<4294967296;decide
  ·have hb:=Td hn (I4 n (takeM m x.domain x.at_).1.up) (tableL (takeM m x.domain x.at_).1 x.domain) x.domain (takeM m x.domain x.at_).2.1 (takeM m x.domain x.at_).1.now
   have h2:=Oe n (takeM m x.domain x.at_).2.1.origin (Wl n (takeM m x.domain x.at_).1 x.domain (takeM m x.domain x.at_).2.1).2.1 (Sf (takeM m x.domain x.at_).1 x.domain (Wl n (takeM m x.domain x.at_).1 x.domain (takeM m x.domain x.at_).2.1))
   unfold Wl at h2 ⊢
   omega
 split
 ·show (0:Nat)<4294967296;decide
 split
 ·show (0:Nat)<4294967296;decide
 split
 ·show (0:Nat)<4294967296;decide
 ·show (0:Nat)<4294967296;decide
theorem Aqt {n:Net} (hn:n.Fin) (hm1:n.Num):∀ (l:List StepM) {m:MacM} {J D:Int},MacOK n m J D→0≤J→0≤D→MacOK n (Ds n m l).1 (J+l.length) (D+l.length * 4294967298)
 | [],m,J,D,h,_,_=>by
  rw[Ds]
  exact h.mono y_ y_
 | x::l,m,J,D,h,hJ,hD=>by
  rw[Ds]
  have:=Aqt hn hm1 l (Ayn hn hm1 h hJ hD x) q_ q_
  exact this.mono (by simp only[yJ];omega) (by simp only[yJ];omega)
theorem Abp {n:Net} (hn:n.Fin):∀ (l:List StepM) (m:MacM),(Ds n m l).2.length≤l.length * 4294967296
 | [],m=>by simp[Ds]
 | x::l,m=>by
  rw[Ds]
  have h1:=Abp hn l (doT n m x).1
  have h2:=Aik hn m x
  simp only[zI,yJ]
  omega
theorem Ahs (n:Net):MacOK n (newT n) 0 0:=by
 refine⟨by simp[newT],by simp[newT],by simp[newT],λ t ht=>?_,λ l hl=>?_,by simp[newT],by simp[newT],λ i=>by simp[newT]⟩
 ·have:t=[]:=(List.mem_replicate.1 ht).2
  rw[this];exact Yv
 ·have:l=[]:=(List.mem_replicate.1 hl).2
  rw[this];exact Zv
def Avn (n:Net):List Bool:=List.replicate n.links.length true
def runT (n:Net) (l:List StepM):List SeenM × Int:=if okB n (Avn n)=true then ((Ds n (newT n) l).2,0) else ([],2)
structure ScriptOK (l:List StepM):Prop where
 few:l.length≤200
 bytes:∀ x∈l,x.bytes.length≤2000
attribute [local irreducible] Go.Sy.G Go.Sy.DR
set_option maxRecDepth 100000
set_option maxHeartbeats 4000000
def runO (n:Net) (m:MacM) (d:Bool) (l:List SeenM):Obs:=[(0,.box (Qv n 1 m.now m.injected m.drops)),(1,.box (Jr n m.up d)),(2,.row 1 Ma m.tables),(3,.row 1 M4 m.queues),(1000,.row 3 Dw l)]
theorem Aql (n:Net) (hn:n.Fin) (hm1:n.Num) (l:List StepM) (hl:ScriptOK l) :
  Sp 8 [Aj n,.sl 6 D6 l] (.tup [.sl 3 Dw (runT n l).1,Aa (runT n l).2]):=cT F8 Tryz.ntmps8 λ F hF=>by
 have hres:=runT.eq_1 n l
 generalize runT n l=res at *
 have hlen:=hl.few
 cases hok:okB n (Avn n)
 ·rw[zA (by rw[hok];simp)]at hres
  subst hres
  have q1:=Abj n hn hok
  conv=>whnf
  refine c0 q1 F13 ?_
  refine oT ?_
  refine Ao 4 3 Dw E ?_
  exact dN
 ·rw[zC hok]at hres
  subst hres
  have q1:=Aqm n hn hok
  have hn0:=Ahs n
  generalize newT n=m0 at *
  conv=>whnf
  refine Ag (Ad [(0,800),(1,801),(2,802),(3,803)] E F13 q1 E Y E ⟨.inr E,.inr E,.inr E,.inr E,Y⟩) E E ?_
  refine oF ?_
  refine Co 8 1000 3 Dw E E ?_
  refine A5 l.length (λ j=>[(6,.ptr 0 0),(8,.osl 1000),(21,.sl 6 D6 l),(22,Aa l.length),(23,Aa j)]) (λ j=>runO n (Ds n m0 (l.take j)).1 (runD n m0 false (l.take j)) (Ds n m0 (l.take j)).2) [(0,800),(1,801),(2,802),(3,803)] ⟨⟨E,E,E,E,E,E,E,E,E,E,Y⟩,⟨.inl E,E,.inl E,E,.inl E,E,.inl E,E,.inl E,E,Y⟩,E,E⟩ ?_
  intro j hj
  refine oO ?_
  constructor<;>intro h
  ·have hlt:j<l.length:=qA h
   have hj0:((j:Nat):Int).toNat<l.length:=by simpa using hlt
   obtain ⟨x,hoo⟩:∃ x,l[j]=x:=⟨_,rfl⟩
   have e1:l[((j:Nat):Int).toNat]'hj0=x:=hoo
   have hs:=Asy n m0 l j hlt
   have hds:=Asz n m0 false l j hlt
   rw[hoo]at hs hds
   have hxb:=hl.bytes x (by rw[← hoo];exact zE hlt)
   have hjo:=Aqt hn hm1 (l.take j) hn0 (wG _) (wG _)
   have hjl:(l.take j).length=j:=by rw[zU];omega
   have hjf:=Abp hn (l.take j) m0
   rw[hjl]at hjo hjf
   have q5:=Anq n hn hm1 (Ds n m0 (l.take j)).1 (runD n m0 false (l.take j)) _ _ hjo q_ q_ q_ x q_
   have hfw:=Aik hn (Ds n m0 (l.take j)).1 x
   clear h
   refine oO ?_
   refine⟨E,by omega,hj0,?_⟩
   rw[e1]
   conv=>whnf
   refine Ag (Ad [(4,30)] E F15 q5 E ⟨E,E,E,E,Y⟩ E ⟨.inl E,.inl E,.inl E,.inl E,.inr E,Y⟩) E E ?_
   refine oO ?_
   refine Ag (Ah Γ.toTy 35 E E E E E (.row E) .sl y_ q_ q_) E E ?_
   refine oO ?_
   refine iW ?_
   have g1:(Ds n m0 (l.take (j+1))).1=(doT n (Ds n m0 (l.take j)).1 x).1:=by rw[hs]
   have g2:(Ds n m0 (l.take (j+1))).2=(Ds n m0 (l.take j)).2++(doT n (Ds n m0 (l.take j)).1 x).2:=by rw[hs]
   refine Ax [(1,30),(1000,35)] hlt ⟨⟨E,E,E,E,E,E,E,E,E,E,Y⟩,?_,E,E⟩
   dsimp only
   rw[g1,g2,hds]
   exact⟨.inl E,E,.inl E,E,.inl E,E,.inl E,E,.inl E,E,Y⟩
  ·have hjj:j=l.length:=qB h
   subst hjj
   rw[yG]
   clear h
   refine oO ?_
   refine Ai 1000 E ?_
   exact dN
end Go.Sy.YtljngfegfclkpaaGreat
namespace Go.Sy.YtljngfegfclkpaaGreat
open Go.Proofs
theorem Adz {P:Hop→Prop} {S:Srch} (h:∀ f∈S.list,P f.hop) (d k:Int) {x:Hop} (hx:P x) (a:Int):∀ f∈(meetT S d k x a).list,P f.hop:=by
 rw[meetT]
 split
 ·exact h
 ·rw[Ls]
  split<;>(intro f hf;rcases yF.1 hf with hf | hf;exact h f hf;rw[zX]at hf;subst hf;exact hx)
theorem Ad0 {P:Hop→Prop} {k i:Int}:∀ {l:List Hop} {S:Srch},(∀ f∈S.list,P f.hop)→(∀ h∈l,P h)→∀ f∈(ext1 S k i l).list,P f.hop
 | [],S,h,_=>h
 | x::l,S,h,hl=>Ad0 (l:=l) (Adz h x.domain k (hl x y_) i) (λ y hy=>hl y (by simp[hy]))
theorem Amm {P:Hop→Prop} {i:Int}:∀ {l:List Lead} {S:Srch},(∀ f∈S.list,P f.hop)→(∀ q∈l,P ⟨3,0,q.domain,q.addr⟩)→∀ f∈(ext2 S i l).list,P f.hop
 | [],S,h,_=>h
 | x::l,S,h,hl=>Amm (l:=l) (Adz h x.domain 1 (hl x y_) i) (λ y hy=>hl y (by simp[hy]))
theorem A09 {P:Hop→Prop} {n:Net} (h1:∀ d,∀ x∈C8 n d,P x) (h2:∀ d,∀ q∈routesT n d,P ⟨3,0,q.domain,q.addr⟩) {S:Srch} (h:∀ f∈S.list,P f.hop) (i:Int):∀ f∈(extT n S i).list,P f.hop:=by
 rw[extT]
 split
 ·exact Amm (Ad0 h (h1 _)) (h2 _)
 ·exact Ad0 h (h1 _)
theorem Au6 {P:Hop→Prop} {n:Net} {dev:Int} (h:∀ d,P ⟨0,0,d,0⟩) (l:List Int):∀ f∈(L3 n dev l).list,P f.hop:=by
 suffices hs:∀ (l:List Int) (S:Srch),(∀ f∈S.list,P f.hop)→∀ f∈(l.foldl (Iq n dev) S).list,P f.hop from hs l _ (λ f hf=>by simp[I7]at hf)
 intro l
 induction l with
 | nil=>exact λ S h=>h
 | cons x l ih =>
  intro S hS
  refine ih _ ?_
  rw[Iq]
  split
  ·exact hS
  ·exact Adz hS _ _ (h _) _
theorem Ady {P:Hop→Prop} {n:Net} (h1:∀ d,∀ x∈C8 n d,P x) (h2:∀ d,∀ q∈routesT n d,P ⟨3,0,q.domain,q.addr⟩) {to:Int}:∀ (k:Nat) (S:Srch) (i:Nat),S.OK n→Backs S.list→(∀ f∈S.list,P f.hop)→i≤S.list.length→(D4 n to k S i).2=true →
  ∀ h∈(D4 n to k S i).1,P h
 | 0,S,i,_,_,_,_,h=>by cases h
 | k+1,S,i,ok,bk,hk,hi,h=>by
  rw[D4]at h ⊢
  split at h
  ·rename_i hlt
   rw[zC hlt]
   split at h
   ·rename_i hm2
    rw[zC hm2]
    exact(Aaf bk hk hlt).1
   ·rename_i hm2
    rw[zA hm2]
    have bk':=bk.ext (n:=n) (i:=i) ⟨by omega,by omega⟩
    exact Ady h1 h2 k _ _ (ok.ext i) bk'.1 (A09 h1 h2 hk i) q_ h
  ·cases h
theorem A08 {P:Hop→Prop} {n:Net} (h1:∀ d,∀ x∈C8 n d,P x) (h2:∀ d,∀ q∈routesT n d,P ⟨3,0,q.domain,q.addr⟩) (h3:∀ d,P ⟨0,0,d,0⟩) {from_ to:Int} (h:(wayT n from_ to).2=true):∀ x∈(wayT n from_ to).1,P x:=by
 rw[wayT]at h ⊢
 split at h
 ·rename_i hc
  rw[zC hc]
  have hp:=Jh hc.1
  have ok0:(beginT n from_).OK n:=by
   rw[beginT,Ae hp.2]
   exact T3 λ v hv h0=>I2 hc.2.2.2 hp.2 hv h0
  have bk0:Backs (beginT n from_).list:=by rw[beginT];exact Qh _ _ _
  exact Ady h1 h2 _ _ _ ok0 bk0 (by rw[beginT];exact Au6 h3 _) (xP _) h
 ·cases h
def LinkOK (n:Net) (h:Hop):Prop:=h.kind=1→(0≤h.port∧h.port.toNat<n.ports.length)∧0≤(nth n.ports h.port).link∧(nth n.ports h.port).link.toNat<n.links.length
theorem Akj {n:Net} {i:Int} (h:0≤Ay n i):(0≤i∧i.toNat<n.ports.length)∧0≤(nth n.ports i).link∧(nth n.ports i).link.toNat<n.links.length:=by
 have ht:=Dx h
 unfold Ay at h
 split at h
 ·rename_i hc
  have e1:nth n.ports i=n.ports[i.toNat]:=Ae ht.1.2
  rw[e1]at hc ⊢
  exact⟨ht.1,hc.2.1,(Ee hc.2.2 ht.1.2 hc.2.1).1⟩
 ·omega
theorem way_links {n:Net} {from_ to:Int} (h:(wayT n from_ to).2=true):∀ x∈(wayT n from_ to).1,LinkOK n x:=by
 refine A08 (λ d x hx=>?_) (λ d q _ e=>?_) (λ d e=>?_) h
 ·rw[C8]at hx
  split at hx
  ·rcases yF.1 hx with hx | hx
   ·obtain ⟨p,_,hp⟩:=xN.1 hx
    rw[linkHop]at hp
    split at hp
    ·rename_i hc
     simp only[Option.some.injEq]at hp
     subst hp
     intro _
     refine Akj ?_
     rw[linkDomT]at hc
     split at hc
     ·rename_i hd
      rw[crossT]at hd
      split at hd
      ·rename_i hc2;exact hc2.1
      ·cases hd
     ·cases hc
    ·cases hp
   ·obtain ⟨p,hp,rfl⟩:=yH.1 hx
    intro e
    simp[Jd]at e
  ·cases hx
 ·simp at e
 ·simp at e
def J2:Nat:=2203318222849
def stepB (n:Net) (l:List Hop) (i:Nat) (h:Hop):Bool:=Af h.domain n.domains.length && !(decide (h.kind=3) && (decide (i=0) || decide ((nth n.domains (nth l ((i:Int)-1)).domain).irb<0)))
def Ve (l:List Hop):Int:=Bg (λ h=>decide (h.kind=3)) l
def K0 (a:Nat):PacketM:=⟨0,0,64,17,1,a,[]⟩
def irbOf (n:Net) (l:List Hop):Irb:=nth n.irbs (nth n.domains (nth l (Ve l-1)).domain).irb
def frameW (n:Net) (l:List Hop):FrameM:=if 0<Ve l then ⟨hostN (irbOf n l).addr,J2,2048,(ipPutT (K0 (nth l (Ve l)).addr.toNat)).1⟩ else ⟨281474976710655,J2,34997,[]⟩
def wayBytes (n:Net) (l:List Hop):List UInt8 × Int:=if Ab n=true∧l≠[]∧Ha (stepB n l) l=true then (Jw (frameW n l),0) else ([],2)
def injectW (n:Net) (from_:Int) (l:List Hop):StepM :=
 ⟨1,from_,0,0,if (nth n.domains (nth l 0).domain).vlan≠(nth n.ports from_).native then Jw (tagT (takeF (wayBytes n l).1).1 (nth n.domains (nth l 0).domain).vlan).1 else (wayBytes n l).1,[]⟩
structure GoM where
 m:MacM
 d:Bool
 out:List StepM
def doW (n:Net) (s:GoM) (x:StepM):GoM:=⟨(doT n s.m x).1,doD n s.m s.d x,s.out++[x]⟩
def pickX (m:MacM) (d:Int):StepM:=⟨2,0,d,if (((if Af d m.queues.length then queueL m d else []).length:Int)-1)<0 then 0 else ((if Af d m.queues.length then queueL m d else []).length:Int)-1,[],[]⟩
def Se (n:Net) (s:GoM) (d:Int):GoM:=doW n s (pickX s.m d)
def upW (n:Net) (h:Hop):List Bool:=(List.replicate n.links.length false).set (nth n.ports h.port).link.toNat true
def linkW (n:Net) (s:GoM) (h:Hop):GoM:=if h.kind=1 then doW n s ⟨5,0,0,0,[],upW n h⟩ else s
def goW (n:Net) (from_:Int) (l:List Hop):Nat→GoM
 | 0=>doW n ⟨newT n,false,[]⟩ (injectW n from_ l)
 | k+1=>Se n (linkW n (goW n from_ l k) (nth l ((k+1:Nat):Int))) (nth l ((k:Nat):Int)).domain
def Aut (n:Net) (from_:Int) (l:List Hop):GoM:=Se n (goW n from_ l (l.length-1)) (nth l ((l.length:Int)-1)).domain
def wscriptT (n:Net) (from_ to:Int):List StepM × Int :=
 if Ji n from_=true∧Ji n to=true∧from_≠to∧okB n (Avn n)=true then
  (if (wayT n from_ to).2=true then ((Aut n from_ (wayT n from_ to).1).out,0) else ([],31))
 else ([],2)
end Go.Sy.YtljngfegfclkpaaGreat
namespace Go.Sy.YtljngfegfclkpaaGreat
section
variable {n:Net} {up:List Bool} {ranks roots costs:List Int}
end
end Go.Sy.YtljngfegfclkpaaGreat
namespace Go.Sy.YtljngfegfclkpaaGreat
open Go.Proofs
attribute [local irreducible] Go.Sy.G Go.Sy.DR
set_option maxRecDepth 100000
set_option maxHeartbeats 4000000
theorem As7 (n:Net) (x y:Int) (h0:0≤x) (h1:x<n.devices.length) (h2:0≤y) (h3:y<n.devices.length) (h:nth (Cc n) x=nth (Cc n) y):x=y:=by
 have hl:=H8 n
 rw[Ae q_,Ae q_]at h
 by_cases hxy:x.toNat=y.toNat
 ·omega
 ·exact zW h (Ahe n q_ q_ hxy)
def M8 (m k:Nat):List Bool:=(List.replicate m false).set k true
theorem Yu {m k i:Nat} (hi:i<m):(M8 m k).getD i false=decide (i=k):=by
 rw[Bc (by simpa [M8] using hi)]
 simp only[M8,wU,uO]
 by_cases h:k=i
 ·simp[h]
 ·rw[zA h];simp;omega
theorem Az9 (n:Net) (k:Nat) (hk:k<n.links.length) (h:okB n (M8 n.links.length k)=true) (i:Nat) (hi:i<n.links.length):(Y4 n (M8 n.links.length k))[i]? = some (decide (i=k)):=by
 obtain ⟨hu,hr,hcost⟩:=ok_iff.1 h
 have S:=L9 h
 obtain ⟨a,b,ha,hb,hap,hbp,hne,hla,hlb⟩:=Akz hr hi
 have hiff:=Arj S hr hcost hi ha hb hap hbp hla hlb
 rw[Yu hi]at hiff
 simp only[Y4,Aul,vG,zH hi,vI,Option.some.injEq]
 by_cases hik:i=k
 ·subst hik
  rw[zL rfl]at hiff ⊢
  refine hiff.2 ⟨E,?_⟩
  have hup:(M8 n.links.length i).getD i false=true:=by rw[Yu hi];simp
  have hop:=Wx hr hi ha hb hla hap hup
  have hda:=Ja hr hap
  have hdb:=Ja hr hbp
  have hroot:=Q6 S hr hop
  have hone:∀ (p:Nat),p<n.ports.length→(p=a∨p=b)→nth (Ko n (M8 n.links.length i)) (Bu n p)≠nth (Cc n) (Bu n p)→Ei n (M8 n.links.length i) (Cc n) (Ko n (M8 n.links.length i)) (Ks n (M8 n.links.length i)) (Bu n p)=p:=λ p hp hpab hn=>by
   have hdp:=Ja hr hp
   obtain ⟨q,j,e1,e2,e3,_⟩:=Agp S hr hdp.1 hdp.2 hn
   obtain ⟨k',hk',h1,h2,h3,h4,_⟩:=Y1 hr e1
   rw[Yu hk']at h3
   have hki:k'=i:=by simpa using h3
   subst hki
   rw[Ae (l:=n.links) (i:=(k':Int)) (by simpa using hk')]at h4
   simp only[zR]at h4
   rw[ha,hb]at h4
   rw[e3]
   have hqab:q=a∨q=b:=by omega
   rcases hpab with rfl | rfl<;>rcases hqab with rfl | rfl
   ·rfl
   ·exact zW e2.symm hne
   ·exact zW e2 hne
   ·rfl
  by_cases hra:nth (Ko n (M8 n.links.length i)) (Bu n a)=nth (Cc n) (Bu n a)
  ·refine .inr (hone b hbp (.inr E) λ hrb=>hne (As7 n _ _ hda.1 hda.2 hdb.1 hdb.2 ?_))
   rw[← hra,← hrb,hroot]
  ·exact .inl (hone a hap (.inl E) hra)
 ·rw[zJ hik]at hiff ⊢
  cases hf:Ah7 (Abr n (M8 n.links.length k)) n.links[i]
  ·rfl
  ·exact zW (hiff.1 hf).1 y_
end Go.Sy.YtljngfegfclkpaaGreat
