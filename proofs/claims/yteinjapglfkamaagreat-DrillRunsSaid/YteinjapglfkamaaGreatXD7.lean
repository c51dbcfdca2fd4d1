/-
  Z4 K27 K28 K29 K30 K31 K32 K33 K34 K35 K36 K37 K38 A7 D5 D6 K39: parts of a proof, joined by program.
-/
import Derived.Test.YteinjapglfkamaaGreatXD6
import Derived.Test.YteinjapglfkamaaGreatXD5
import Derived.Test.YteinjapglfkamaaGreatXD3
import Derived.Test.YteinjapglfkamaaGreatXD4
namespace Go.Sy.YteinjapglfkamaaGreat
open Go.Proofs
attribute [local irreducible] Go.Sy.G Go.Sy.DR
set_option maxRecDepth 100000
set_option maxHeartbeats 4000000
def D4 (t:List EntryM):SV:=.sl 3 Al t
def Lh (l:List QueuedM):SV:=.sl 7 A0 l
def X0 (n:Net) (k:Nat) (now inj:Int) (d:Nat→Int):List SV :=
 [.sl 5 Bs n.devices,.sl 7 Bh n.ports,.sl 3 Cs n.links,.sl 6 Aw n.domains,.sl 4 Bp n.statics,.sl 4 B7 n.floods,.sl 5 C4 n.vrfs,.sl 5 Dp n.irbs,.ptr k 0,.osl 2,.osl 3,.val (.int .i64 now),.val (.int .i64 inj),
 .val (.int .i64 (d 0)),.val (.int .i64 (d 1)),.val (.int .i64 (d 2)),.val (.int .i64 (d 3)),.val (.int .i64 (d 4)),.val (.int .i64 (d 5)),.val (.int .i64 (d 6)),.val (.int .i64 (d 7)),.val (.int .i64 (d 8)),.val (.int .i64 (d 9)),.val (.int .i64 (d 10)),.val (.int .i64 (d 11)),.val (.int .i64 (d 12)),.val (.int .i64 (d 13)),.val (.int .i64 (d 14)),.val (.int .i64 (d 15)),.val (.int .i64 (d 16)),.val (.int .i64 (d 17)),.val (.int .i64 (d 18)),.val (.int .i64 (d 19)),.val (.int .i64 (d 20)),.val (.int .i64 (d 21)),.val (.int .i64 (d 22)),.val (.int .i64 (d 23)),.val (.int .i64 (d 24)),.val (.int .i64 (d 25)),.val (.int .i64 (d 26)),.val (.int .i64 (d 27)),.val (.int .i64 (d 28)),.val (.int .i64 (d 29)),.val (.int .i64 (d 30)),.val (.int .i64 (d 31)),.val (.int .i64 (d 32)),.val (.int .i64 (d 33)),.val (.int .i64 (d 34)),.val (.int .i64 (d 35)),.val (.int .i64 (d 36)),.val (.int .i64 (d 37)),.val (.int .i64 (d 38)),.val (.int .i64 (d 39)),.val (.int .i64 (d 40)),.val (.int .i64 (d 41)),.val (.int .i64 (d 42)),.val (.int .i64 (d 43)),.val (.int .i64 (d 44)),.val (.int .i64 (d 45)),.val (.int .i64 (d 46)),.val (.int .i64 (d 47)),.val (.int .i64 (d 48)),.val (.int .i64 (d 49)),.val (.int .i64 (d 50)),.val (.int .i64 (d 51)),.val (.int .i64 (d 52)),.val (.int .i64 (d 53)),.val (.int .i64 (d 54)),.val (.int .i64 (d 55)),.val (.int .i64 (d 56)),.val (.int .i64 (d 57)),.val (.int .i64 (d 58)),.val (.int .i64 (d 59)),.val (.int .i64 (d 60)),.val (.int .i64 (d 61)),.val (.int .i64 (d 62)),.val (.int .i64 (d 63))]
def onceL (up:List Bool) (done:Int) (fw:List Bool):List SV:=[.sl 1 Ab up,.val (.int .u32 done),.val (.int .i32 0),.val (.int .u32 0),.sl 1 Ab fw]
def Ol (n:Net) (up:List Bool) (d:Bool):List SV:=onceL up (if d then 1 else 0) (if d then Im n up else [])
def De (n:Net) (m:MacM) (d:Bool):Obs:=[(0,.box (X0 n 1 m.now m.injected m.drops)),(1,.box (Ol n m.up d)),(2,.row 1 D4 m.tables),(3,.row 1 Lh m.queues)]
theorem getI_map (f:Nat→SV):∀ (k a n:Nat),k<n→Et ((List.range' a n).map f) k=some (f (a+k))
 | 0,a,n+1,_=>rfl
 | k+1,a,n+1,h=>by
  show Et ((List.range' (a+1) n).map f) k=_
  rw[getI_map f k (a+1) n qn]
  congr 2;omega
theorem Adv (f:Nat→SV) (x:SV):∀ (k a n:Nat),((List.range' a n).map f).set k x=(List.range' a n).map (fun i=>if i=a+k then x else f i)
 | _,_,0=>rfl
 | 0,a,n+1=>by
  show x::(List.range' (a+1) n).map f=(if a=a+0 then x else f a)::(List.range' (a+1) n).map _
  rw[if_pos qn]
  congr 1
  apply List.map_congr_left
  intro i hi
  have:=(List.mem_range'_1.1 hi).1
  rw[if_neg qn]
 | k+1,a,n+1=>by
  show f a::((List.range' (a+1) n).map f).set k x=(if a=a+(k+1) then x else f a)::(List.range' (a+1) n).map _
  rw[if_neg qn,Adv f x k (a+1) n]
  congr 1
  apply List.map_congr_left
  intro i _
  rw[show a+1+k=a+(k+1) by omega]
theorem Tf (n:Net) (k:Nat) (now inj:Int) (d:Nat→Int):X0 n k now inj d =
  .sl 5 Bs n.devices::.sl 7 Bh n.ports::.sl 3 Cs n.links::.sl 6 Aw n.domains::.sl 4 Bp n.statics::.sl 4 B7 n.floods::.sl 5 C4 n.vrfs::.sl 5 Dp n.irbs::.ptr k 0::.osl 2::.osl 3::.val (.int .i64 now)::.val (.int .i64 inj) ::
   (List.range' 0 64).map (fun i=>.val (.int .i64 (d i))):=rfl
theorem Apn (n:Net) (k:Nat) (now inj:Int) (d:Nat→Int) (e:Nat) (he:e<64):Et (X0 n k now inj d) (13+e)=some (.val (.int .i64 (d e))):=by
 rw[Tf,Nat.add_comm]
 show Et ((List.range' 0 64).map (fun i=>SV.val (.int .i64 (d i)))) e=_
 rw[getI_map _ e 0 64 he,Nat.zero_add]
theorem Apm (n:Net) (k:Nat) (now inj:Int) (d:Nat→Int) (e:Nat) (v:Int):(X0 n k now inj d).set (13+e) (.val (.int .i64 v))=X0 n k now inj (fun i=>if i=e then v else d i):=by
 rw[Tf,Tf,Nat.add_comm]
 have h:=Adv (fun i=>SV.val (.int .i64 (d i))) (.val (.int .i64 v)) e 0 64
 have h2:(fun i=>if i=0+e then SV.val (.int .i64 v) else SV.val (.int .i64 (d i)))=(fun i=>SV.val (.int .i64 (if i=e then v else d i))):=by
  funext i
  rw[Nat.zero_add]
  split<;>rfl
 rw[h2]at h
 rw[← h]
 rfl
theorem add64 (a:Addr) (x y:Int) (w:World) (hc:w.cell? a=some (.int .i64 x)) (hz:w.frozen? a=false):(callFunc 307 #[.pointer (some a),.int .i64 y]).run Tryz.prog w=.ok (.value (.int .i64 (IntKind.i64.wrap (x+y)))) (w.setCell a (.int .i64 (IntKind.i64.wrap (x+y)))) :=
 run_call_add Tryz.func307 qq qq qq .i64 qq hc hz rfl
theorem Amx (n:Net) (k:Nat) (m:MacM) (e:Int):X0 n k m.now m.injected (Bg m e).drops=(X0 n k m.now m.injected m.drops).set (13+e.toNat) (.val (.int .i64 (m.drops e.toNat+1))):=by
 rw[Apm]
 congr 1
 funext i
 show (if i=e.toNat then m.drops i+1 else m.drops i)=_
 split
 ·rename_i h;rw[h]
 ·rfl
theorem Akr {x:Int} (h:0≤x∧x≤1000000000000):IntKind.i64.wrap (x+1)=x+1:=by
 rw[IntKind.wrap_i64];omega
theorem Ak6 (n:Net) (m:MacM) (d:Bool) (e:Int) (h0:0≤e) (h1:e<64) (hb:IntKind.i64.wrap (m.drops e.toNat+1)=m.drops e.toNat+1) :
  Sy.Spec Tryz.prog 240 [.ptr 0 (13+e.toNat),Aa 1] (De n m d) (Aa (m.drops e.toNat+1)) (De n (Bg m e) d):=cT F240 Tryz.ntmps240 fun F hF=>by
 have hg:=Apn n 1 m.now m.injected m.drops e.toNat qn
 have hs:=Amx n 1 m e
 have hlt:=Ln hg
 ((conv=>whnf);repeat((first|refine aF ?_|refine aT ?_);(first|refine rG Γ hm ?_|refine rD Γ hm qq ?_);conv=>whnf))
 refine Ad (Aer add64 E E E E hg hb) E E ?_
 ((first|refine rG Γ hm ?_|refine rD Γ hm qq ?_);(conv=>whnf);repeat((first|refine aF ?_|refine aT ?_);(first|refine rG Γ hm ?_|refine rD Γ hm qq ?_);conv=>whnf))
 exact done E (.cons .tmp .nil) [] (De n (Bg m e) d) (fun _ h=>h) E E ⟨Y,⟨.inl (congrArg Ob.box hs),E,.inl E,E,.inl E,E,.inl E,E,Y⟩,E,E⟩
theorem Ahu (n:Net) (m:MacM) (d:Bool) (e:Int) (h0:0≤e) (h1:e<64) (hb:0≤m.drops e.toNat∧m.drops e.toNat≤1000000000000) :
  Sy.Spec Tryz.prog 176 [.ptr 0 0,Aa e] (De n m d) (.tup []) (De n (Bg m e) d):=cT F176 Tryz.ntmps176 fun F hF=>by
 ((conv=>whnf);repeat((first|refine aF ?_|refine aT ?_);(first|refine rG Γ hm ?_|refine rD Γ hm qq ?_);conv=>whnf))
 refine⟨h0,by omega,?_⟩
 ((first|refine rG Γ hm ?_|refine rD Γ hm qq ?_);(conv=>whnf);repeat((first|refine aF ?_|refine aT ?_);(first|refine rG Γ hm ?_|refine rD Γ hm qq ?_);conv=>whnf))
 refine Ad (Af [] E F240 (Ak6 n m d e h0 h1 (Akr hb)) (congrArg (fun z=>[SV.ptr 0 z,Aa 1]) (show 13+e.toNat=0+13+e.toNat * 1 by omega)) ⟨E,E,E,E,Y⟩ E ⟨.inl E,.inl E,.inl E,.inl E,Y⟩) E E ?_
 ((first|refine rG Γ hm ?_|refine rD Γ hm qq ?_);(conv=>whnf);repeat((first|refine aF ?_|refine aT ?_);(first|refine rG Γ hm ?_|refine rD Γ hm qq ?_);conv=>whnf))
 exact B3 E .nil [] (De n (Bg m e) d) (fun _ h=>h) E E ⟨Y,⟨.inl E,E,.inl E,E,.inl E,E,.inl E,E,Y⟩,E,E⟩
theorem Alg (n:Net) (m:MacM) (d:Bool) (dom:Int) :
  Sy.Spec Tryz.prog 119 [.ptr 0 0,Aa dom] (De n m d) (Ab (Ai dom m.queues.length)) (De n m d):=cT F119 Tryz.ntmps119 fun F hF=>by
 have hres:Ai dom m.queues.length=(decide (0≤dom) && decide (dom<m.queues.length)):=rfl
 generalize Ai dom m.queues.length=res at *
 ((conv=>whnf);repeat((first|refine aF ?_|refine aT ?_);(first|refine rG Γ hm ?_|refine rD Γ hm qq ?_);conv=>whnf))
 refine⟨fun h=>?_,fun h=>?_⟩
 ·((first|refine rG Γ hm ?_|refine rD Γ hm qq ?_);(conv=>whnf);repeat((first|refine aF ?_|refine aT ?_);(first|refine rG Γ hm ?_|refine rD Γ hm qq ?_);conv=>whnf))
  (repeat (first | (refine⟨fun h=>False.elim (by first | (exact absurd h qy) | (simp at h;done) | (simp at h;omega)),fun _=>?_⟩;((first|refine rG Γ hm ?_|refine rD Γ hm qq ?_);(conv=>whnf);repeat((first|refine aF ?_|refine aT ?_);(first|refine rG Γ hm ?_|refine rD Γ hm qq ?_);conv=>whnf))) | (refine⟨fun _=>?_,fun h=>False.elim (by first | (exact absurd h qy) | (simp at h;done) | (simp at h;omega))⟩;((first|refine rG Γ hm ?_|refine rD Γ hm qq ?_);(conv=>whnf);repeat((first|refine aF ?_|refine aT ?_);(first|refine rG Γ hm ?_|refine rD Γ hm qq ?_);conv=>whnf)))))
  refine done E (.cons .tmp .nil) [] (De n m d) (fun _ h=>h) ?_ E ⟨Y,⟨.inl E,E,.inl E,E,.inl E,E,.inl E,E,Y⟩,E,E⟩
  rw[hres,h]
  rfl
 ·((first|refine rG Γ hm ?_|refine rD Γ hm qq ?_);(conv=>whnf);repeat((first|refine aF ?_|refine aT ?_);(first|refine rG Γ hm ?_|refine rD Γ hm qq ?_);conv=>whnf))
  (repeat (first | (refine⟨fun h=>False.elim (by first | (exact absurd h qy) | (simp at h;done) | (simp at h;omega)),fun _=>?_⟩;((first|refine rG Γ hm ?_|refine rD Γ hm qq ?_);(conv=>whnf);repeat((first|refine aF ?_|refine aT ?_);(first|refine rG Γ hm ?_|refine rD Γ hm qq ?_);conv=>whnf))) | (refine⟨fun _=>?_,fun h=>False.elim (by first | (exact absurd h qy) | (simp at h;done) | (simp at h;omega))⟩;((first|refine rG Γ hm ?_|refine rD Γ hm qq ?_);(conv=>whnf);repeat((first|refine aF ?_|refine aT ?_);(first|refine rG Γ hm ?_|refine rD Γ hm qq ?_);conv=>whnf)))))
  refine done E (.cons .tmp .nil) [] (De n m d) (fun _ h=>h) ?_ E ⟨Y,⟨.inl E,E,.inl E,E,.inl E,E,.inl E,E,Y⟩,E,E⟩
  rw[hres,h]
  rfl
theorem Ye (a b:Nat) (ha:a<4294967296) (hb:b<4294967296):bits .or .u32 (a:Int) (b:Int)=((a ||| b:Nat):Int):=by
 have hx:a ||| b<2 ^ 32:=Nat.or_lt_two_pow qn qn
 have h1:(BitVec.ofInt 32 (a:Int)).toNat=a:=by
  rw[BitVec.ofInt_natCast,BitVec.toNat_ofNat];exact Nat.mod_eq_of_lt qn
 have h2:(BitVec.ofInt 32 (b:Int)).toNat=b:=by
  rw[BitVec.ofInt_natCast,BitVec.toNat_ofNat];exact Nat.mod_eq_of_lt qn
 show IntKind.u32.wrap ((BitVec.ofInt 32 (a:Int) ||| BitVec.ofInt 32 (b:Int)).toNat:Int)=_
 rw[BitVec.toNat_or,h1,h2,IntKind.wrap_u32]
 omega
theorem Yp (x:UInt8) (k:UInt8):((x.toNat:Int) != (k.toNat:Int))=decide (x≠k):=by
 rw[Bool.eq_iff_iff]
 simp only[bne_iff_ne,decide_eq_true_eq,ne_eq,← UInt8.toNat_inj]
 omega
theorem U7 (b:List UInt8) (k:Nat) (h:k+2≤b.length) (hb:b.length<100000):Sy.Spec Tryz.prog 345 [.sl 1 Ag b,Aa k] [] (Aa (numAt b k 2)) []:=cT F345 Tryz.ntmps345 fun F hF=>by
 have i0:((k:Nat):Int).toNat<b.length:=by simpa using (by omega:k<b.length)
 have i1:((k:Int)+1).toNat<b.length:=by omega
 have e0:b[((k:Nat):Int).toNat]'i0=b[k]'qn:=rfl
 have e1:b[((k:Int)+1).toNat]'i1=b[k+1]'qn:=rfl
 have hp:=Hg (b[k]'qn) (b[k+1]'qn)
 have hn:=Kz h
 rw[← hn]at hp
 conv=>whnf
 refine⟨E,by omega,i0,?_⟩
 rw[e0]
 conv=>whnf
 refine⟨by decide,?_⟩
 conv=>whnf
 refine iW ?_
 refine⟨E,by omega,i1,?_⟩
 rw[e1]
 conv=>whnf
 refine⟨qq,?_⟩
 rw[hp]
 conv=>whnf
 exact dN
theorem Ao4 (x y:Nat) (hx:x<65536) (hy:y<65536):bits .or .u32 (IntKind.u32.wrap ((IntKind.u32.wrap (x:Int)) * 2 ^ min (Int.toNat 16) IntKind.u32.bits)) (IntKind.u32.wrap (y:Int))=((x * 65536+y:Nat):Int):=by
 have e1:IntKind.u32.wrap (x:Int)=(x:Int):=by rw[IntKind.wrap_u32];omega
 have e2:IntKind.u32.wrap (y:Int)=(y:Int):=by rw[IntKind.wrap_u32];omega
 rw[e1,e2]
 have e3:IntKind.u32.wrap ((x:Int) * 2 ^ min (Int.toNat 16) IntKind.u32.bits)=((x * 65536:Nat):Int):=by
  show IntKind.u32.wrap ((x:Int) * 65536)=_
  rw[IntKind.wrap_u32]
  omega
 rw[e3,Ye _ _ qn qn]
 congr 1
 have h:=Nat.two_pow_add_eq_or_of_lt (i:=16) (b:=y) qn x
 rw[Nat.mul_comm x 65536]
 exact h.symm
theorem Al1 (b:List UInt8) (k:Nat) (h:k+4≤b.length) (hb:b.length<100000):Sy.Spec Tryz.prog 347 [.sl 1 Ag b,Aa k] [] (B4 (numAt b k 4)) []:=cT F347 Tryz.ntmps347 fun F hF=>by
 have q1:=U7 b k qn hb
 have q2:=U7 b (k+2) qn hb
 rw[show ((k+2:Nat):Int)=(k:Int)+2 by omega]at q2
 have hf:=Ao4 (numAt b k 2) (numAt b (k+2) 2) (by have:=Hu b k 2;omega) (by have:=Hu b (k+2) 2;omega)
 rw[← numAt4 h]at hf
 conv=>whnf
 refine c0 q1 F345 ?_
 refine oO ?_
 refine⟨by decide,?_⟩
 conv=>whnf
 refine iW ?_
 refine c0 q2 F345 ?_
 refine oO ?_
 rw[hf]
 exact dN
theorem Amp (l:List UInt8) (hl:l.length<100000) (h2:l.length % 2=0):Sy.Spec Tryz.prog 346 [.sl 1 Ag l] [] (Ab (decide (Df (Hq l (l.length / 2))=65535))) []:=cT F346 Tryz.ntmps346 fun F hF=>by
 have ha:=Alf l hl h2
 conv=>whnf
 refine c0 ha F156 ?_
 refine oO ?_
 refine Aq E (.cons .tmp .nil) (congrArg Ab ?_) E
 rw[Bool.eq_iff_iff]
 simp only[beq_iff_eq,decide_eq_true_eq]
 omega
theorem Agg (l:List UInt8) (hl:l.length<100000) (h2:l.length % 2=0):Sy.Spec Tryz.prog 366 [.sl 1 Ag l] [] (Ab (decide (Df (Hq l (l.length / 2))=65535))) []:=cT F366 Tryz.ntmps366 fun F hF=>by
 have ha:=Alm l hl h2
 conv=>whnf
 refine c0 ha F158 ?_
 refine oO ?_
 refine Aq E (.cons .tmp .nil) (congrArg Ab ?_) E
 rw[Bool.eq_iff_iff]
 simp only[beq_iff_eq,decide_eq_true_eq]
 omega
abbrev zP:List SV:=[Aa 0,Aa 0,Aa 0,Aa 0,B4 0,B4 0,.sl 1 Ag []]
theorem Alz (b:List UInt8) (hb:b.length<100000):Sy.Spec Tryz.prog 297 [.sl 1 Ag b] [] (.tup [Jp (ipTakeT b).1,Aa (ipTakeT b).2]) []:=cT F297 Tryz.ntmps297 fun F hF=>by
 have hres:=ipTakeT.eq_1 b
 generalize ipTakeT b=res at *
 conv=>whnf
 refine⟨fun h=>?_,fun h=>?_⟩
 ·rw[if_pos (qA h)]at hres
  subst hres
  refine oO ?_
  refine Ar 2 zP E (.cons (.refl _) (.cons (.refl _) (.cons (.refl _) (.cons (.refl _) (.cons (.refl _) (.cons (.refl _) (.cons .nil .nil))))))) ?_
  exact dN
 have h20:20≤b.length:=qB h
 rw[if_neg qn]at hres
 clear h
 have i0:(0:Int).toNat<b.length:=by show 0<_;omega
 have i1:(1:Int).toNat<b.length:=by show 1<_;omega
 have i8:(8:Int).toNat<b.length:=by show 8<_;omega
 have i9:(9:Int).toNat<b.length:=by show 9<_;omega
 have e0:b[(0:Int).toNat]'i0=bAt b 0:=(Qy qn).symm
 have q2:=U7 b 2 qn hb
 have q4:=U7 b 4 qn hb
 have q6:=U7 b 6 qn hb
 have q12:=Al1 b 12 qn hb
 have q16:=Al1 b 16 qn hb
 have hl20:(b.take 20).length=20:=by rw[List.length_take];omega
 have hdiv:(b.take 20).length / 2=10:=by rw[hl20]
 have qs:=Amp (b.take 20) qn (by rw[hl20])
 rw[hdiv]at qs
 refine oO ?_
 refine⟨E,by decide,i0,?_⟩
 rw[e0]
 conv=>whnf
 refine⟨fun h=>?_,fun h=>?_⟩
 ·rw[if_pos (.inl (by rw[show ((69:Int))=((69:UInt8).toNat:Int) from rfl,Yp]at h;exact of_decide_eq_true h))]at hres
  subst hres
  refine oT ?_
  refine Ar 2 zP E (.cons (.refl _) (.cons (.refl _) (.cons (.refl _) (.cons (.refl _) (.cons (.refl _) (.cons (.refl _) (.cons .nil .nil))))))) ?_
  exact dN
 have h69:¬ bAt b 0≠69:=by rw[show ((69:Int))=((69:UInt8).toNat:Int) from rfl,Yp]at h;exact of_decide_eq_false h
 clear h
 refine oO ?_
 refine c0 q2 F345 ?_
 refine oO ?_
 refine⟨fun h=>?_,fun h=>?_⟩
 ·rw[if_pos (.inr (qA h))]at hres
  subst hres
  refine oO ?_
  refine Ar 2 zP E (.cons (.refl _) (.cons (.refl _) (.cons (.refl _) (.cons (.refl _) (.cons (.refl _) (.cons (.refl _) (.cons .nil .nil))))))) ?_
  exact dN
 have hs20:20≤numAt b 2 2:=qB h
 rw[if_neg (fun h=>h.elim h69 qn)]at hres
 clear h
 refine oO ?_
 refine c0 q2 F345 ?_
 refine oO ?_
 refine⟨fun h=>?_,fun h=>?_⟩
 ·rw[if_pos (qA h)]at hres
  subst hres
  refine oO ?_
  refine Ar 2 zP E (.cons (.refl _) (.cons (.refl _) (.cons (.refl _) (.cons (.refl _) (.cons (.refl _) (.cons (.refl _) (.cons .nil .nil))))))) ?_
  exact dN
 have hsl:numAt b 2 2≤b.length:=qB h
 rw[if_neg qn]at hres
 clear h
 refine oO ?_
 refine c0 q6 F345 ?_
 refine oO ?_
 refine⟨fun h=>?_,fun h=>?_⟩
 ·rw[if_pos (by have:(numAt b 6 2:Int)≠0:=(by simpa using h);omega)]at hres
  subst hres
  refine oO ?_
  refine Ar 2 zP E (.cons (.refl _) (.cons (.refl _) (.cons (.refl _) (.cons (.refl _) (.cons (.refl _) (.cons (.refl _) (.cons .nil .nil))))))) ?_
  exact dN
 rw[if_neg (by have:(numAt b 6 2:Int)=0:=(by simpa using h);omega)]at hres
 clear h
 refine oO ?_
 refine Ad (Be (lo:=0) (hi:=20) Γ.toTy E E E E (.inl ⟨E,E⟩) (.inr ⟨_,_,E,E⟩) qn h20) E E ?_
 refine oO ?_
 refine c0 qs F346 ?_
 by_cases hsum:Df (Hq (b.take 20) 10)=65535
 rotate_left
 ·rw[if_pos hsum]at hres
  subst hres
  rw[decide_eq_false hsum]
  refine oT ?_
  refine Ar 2 zP E (.cons (.refl _) (.cons (.refl _) (.cons (.refl _) (.cons (.refl _) (.cons (.refl _) (.cons (.refl _) (.cons .nil .nil))))))) ?_
  exact dN
 rw[if_neg (fun h=>h hsum)]at hres
 subst hres
 rw[decide_eq_true hsum]
 have qc:=Of ((b.take (numAt b 2 2)).drop 20) (by rw[List.length_drop,List.length_take];omega)
 have w1:IntKind.i64.wrap ((b[(1:Int).toNat]'i1).toNat:Int)=((bAt b 1).toNat:Int):=by
  rw[Qy (show 1<b.length by omega)]
  have:=(b[1]'qn).toNat_lt
  show IntKind.i64.wrap ((b[1]'qn).toNat:Int)=_
  rw[IntKind.wrap_i64];omega
 have w8:IntKind.i64.wrap ((b[(8:Int).toNat]'i8).toNat:Int)=((bAt b 8).toNat:Int):=by
  rw[Qy (show 8<b.length by omega)]
  have:=(b[8]'qn).toNat_lt
  show IntKind.i64.wrap ((b[8]'qn).toNat:Int)=_
  rw[IntKind.wrap_i64];omega
 have w9:IntKind.i64.wrap ((b[(9:Int).toNat]'i9).toNat:Int)=((bAt b 9).toNat:Int):=by
  rw[Qy (show 9<b.length by omega)]
  have:=(b[9]'qn).toNat_lt
  show IntKind.i64.wrap ((b[9]'qn).toNat:Int)=_
  rw[IntKind.wrap_i64];omega
 refine oF ?_
 refine⟨E,by decide,i1,?_⟩
 conv=>whnf
 refine cD q4 F345 ?_
 refine oD ?_
 refine⟨E,by decide,i8,?_⟩
 conv=>whnf
 refine⟨E,by decide,i9,?_⟩
 conv=>whnf
 refine cD q12 F347 ?_
 refine oD ?_
 refine cD q16 F347 ?_
 refine oD ?_
 refine cD q2 F345 ?_
 refine oD ?_
 refine Bd (Be (lo:=20) (hi:=numAt b 2 2) Γ.toTy E E E E (.inr ⟨_,_,E,E⟩) (.inr ⟨_,_,E,E⟩) hs20 hsl) qq E ?_
 refine oD ?_
 refine cD qc F290 ?_
 refine oD ?_
 refine kW ?_
 refine Aq E (.cons (.cell E E E E) (.cons .tmp .nil)) ?_ E
 show SV.tup [.agg [Aa (bAt b 1).toNat,_,Aa (bAt b 8).toNat,Aa (bAt b 9).toNat,_,_,_],_]=SV.tup [.agg [Aa (IntKind.i64.wrap ((b[(1:Int).toNat]'i1).toNat:Int)),_,Aa (IntKind.i64.wrap ((b[(8:Int).toNat]'i8).toNat:Int)),Aa (IntKind.i64.wrap ((b[(9:Int).toNat]'i9).toNat:Int)),_,_,_],_]
 rw[w1,w8,w9]
 rfl
theorem Ad6 (l:List UInt8) (h:l.length≤6):Sy.Spec Tryz.prog 365 [.sl 1 Ag l] [] (Aa (Hl l)) []:=cT F365 Tryz.ntmps365 fun F hF=>by
 conv=>whnf
 refine At l.length (fun j=>[(0,.sl 1 Ag l),(3,Aa (Hl (l.take j))),(4,Aa j)]) (fun _=>[]) [] ⟨⟨E,E,E,E,E,E,Y⟩,Y,E,E⟩ ?_
 intro j hj
 have hlt2:=J6 _ (l.take j) rfl
 refine oO ?_
 refine⟨fun h2=>?_,fun h2=>?_⟩
 ·have hlt:j<l.length:=by have:=of_decide_eq_true h2;omega
  have hj0:((j:Nat):Int).toNat<l.length:=by simpa using hlt
  have hs:=V3 l hlt
  have hll:(l.take j).length=j:=by rw[List.length_take];omega
  rw[hll]at hlt2
  have h5:Hl (l.take j)<1099511627776:=Nat.lt_of_lt_of_le hlt2 (by
   have:(256:Nat) ^ j≤256 ^ 5:=Nat.pow_le_pow_right qy qn
   exact this)
  obtain ⟨c,hc⟩:∃ c,l[((j:Nat):Int).toNat]'hj0=c:=⟨_,rfl⟩
  have hc':l[j]=c:=hc
  rw[hc']at hs
  have hcn:=c.toNat_lt
  generalize Hl (l.take j)=m at *
  have w0:IntKind.i64.wrap (c.toNat:Int)=c.toNat:=by rw[IntKind.wrap_i64];omega
  refine oO ?_
  refine iW ?_
  refine⟨E,by omega,hj0,?_⟩
  rw[hc]
  conv=>whnf
  rw[w0]
  refine iW ?_
  refine iW ?_
  refine An [] hlt ⟨⟨E,E,congrArg (fun z:Int=>SV.val (.int .i64 z)) ?_,E,E,E,Y⟩,Y,E,E⟩
  rw[hs]
  omega
 ·have hje:j=l.length:=by have:=of_decide_eq_false h2;omega
  subst hje
  rw[List.take_length]
  refine oO ?_
  exact dN
theorem Kt (b:List UInt8) (k m:Nat) (hm:m≤6):Sy.Spec Tryz.prog 365 [.sl 1 Ag ((b.take (k+m)).drop k)] [] (Aa (numAt b k m)) []:=by
 have e:(b.take (k+m)).drop k=(b.drop k).take m:=by rw[List.drop_take];congr 1;omega
 rw[e]
 exact Ad6 _ (by rw[List.length_take];omega)
theorem Zj (b:List UInt8) (hb:b.length<100000):Sy.Spec Tryz.prog 317 [.sl 1 Ag b] [] (.tup [Jp (ipTakeT b).1,Aa (ipTakeT b).2]) []:=cT F317 Tryz.ntmps317 fun F hF=>by
 have hres:=ipTakeT.eq_1 b
 generalize ipTakeT b=res at *
 conv=>whnf
 refine⟨fun h=>?_,fun h=>?_⟩
 ·rw[if_pos (qA h)]at hres
  subst hres
  refine oO ?_
  refine Ar 2 zP E (.cons (.refl _) (.cons (.refl _) (.cons (.refl _) (.cons (.refl _) (.cons (.refl _) (.cons (.refl _) (.cons .nil .nil))))))) ?_
  exact dN
 have h20:20≤b.length:=qB h
 rw[if_neg qn]at hres
 clear h
 have i0:(0:Int).toNat<b.length:=by show 0<_;omega
 have i1:(1:Int).toNat<b.length:=by show 1<_;omega
 have i8:(8:Int).toNat<b.length:=by show 8<_;omega
 have i9:(9:Int).toNat<b.length:=by show 9<_;omega
 have e0:b[(0:Int).toNat]'i0=bAt b 0:=(Qy qn).symm
 have q2:=Kt b 2 2 qy
 have q4:=Kt b 4 2 qy
 have q6:=Kt b 6 2 qy
 have q12:=Kt b 12 4 qy
 have q16:=Kt b 16 4 qy
 have hl20:(b.take 20).length=20:=by rw[List.length_take];omega
 have hdiv:(b.take 20).length / 2=10:=by rw[hl20]
 have qs:=Agg (b.take 20) qn (by rw[hl20])
 rw[hdiv]at qs
 refine oO ?_
 refine Ad (Be (lo:=2) (hi:=4) Γ.toTy E E E E (.inr ⟨_,_,E,E⟩) (.inr ⟨_,_,E,E⟩) qn qn) E E ?_
 refine oO ?_
 refine c0 q2 F365 ?_
 refine oO ?_
 refine⟨E,by decide,i0,?_⟩
 rw[e0]
 conv=>whnf
 refine⟨fun h=>?_,fun h=>?_⟩
 ·rw[if_pos (.inl (by rw[show ((69:Int))=((69:UInt8).toNat:Int) from rfl,Yp]at h;exact of_decide_eq_true h))]at hres
  subst hres
  refine oT ?_
  refine Ar 2 zP E (.cons (.refl _) (.cons (.refl _) (.cons (.refl _) (.cons (.refl _) (.cons (.refl _) (.cons (.refl _) (.cons .nil .nil))))))) ?_
  exact dN
 have h69:¬ bAt b 0≠69:=by rw[show ((69:Int))=((69:UInt8).toNat:Int) from rfl,Yp]at h;exact of_decide_eq_false h
 clear h
 refine oO ?_
 refine⟨fun h=>?_,fun h=>?_⟩
 ·rw[if_pos (.inr (qA h))]at hres
  subst hres
  refine oO ?_
  refine Ar 2 zP E (.cons (.refl _) (.cons (.refl _) (.cons (.refl _) (.cons (.refl _) (.cons (.refl _) (.cons (.refl _) (.cons .nil .nil))))))) ?_
  exact dN
 have hs20:20≤numAt b 2 2:=qB h
 rw[if_neg (fun h=>h.elim h69 qn)]at hres
 clear h
 refine oO ?_
 refine⟨fun h=>?_,fun h=>?_⟩
 ·rw[if_pos (qA h)]at hres
  subst hres
  refine oO ?_
  refine Ar 2 zP E (.cons (.refl _) (.cons (.refl _) (.cons (.refl _) (.cons (.refl _) (.cons (.refl _) (.cons (.refl _) (.cons .nil .nil))))))) ?_
  exact dN
 have hsl:numAt b 2 2≤b.length:=qB h
 rw[if_neg qn]at hres
 clear h
 refine oO ?_
 refine Ad (Be (lo:=6) (hi:=8) Γ.toTy E E E E (.inr ⟨_,_,E,E⟩) (.inr ⟨_,_,E,E⟩) qn qn) E E ?_
 refine oO ?_
 refine c0 q6 F365 ?_
 refine oO ?_
 refine⟨fun h=>?_,fun h=>?_⟩
 ·rw[if_pos (by have:(numAt b 6 2:Int)≠0:=(by simpa using h);omega)]at hres
  subst hres
  refine oO ?_
  refine Ar 2 zP E (.cons (.refl _) (.cons (.refl _) (.cons (.refl _) (.cons (.refl _) (.cons (.refl _) (.cons (.refl _) (.cons .nil .nil))))))) ?_
  exact dN
 rw[if_neg (by have:(numAt b 6 2:Int)=0:=(by simpa using h);omega)]at hres
 clear h
 refine oO ?_
 refine Ad (Be (lo:=0) (hi:=20) Γ.toTy E E E E (.inl ⟨E,E⟩) (.inr ⟨_,_,E,E⟩) qn h20) E E ?_
 refine oO ?_
 refine c0 qs F366 ?_
 by_cases hsum:Df (Hq (b.take 20) 10)=65535
 rotate_left
 ·rw[if_pos hsum]at hres
  subst hres
  rw[decide_eq_false hsum]
  refine oT ?_
  refine Ar 2 zP E (.cons (.refl _) (.cons (.refl _) (.cons (.refl _) (.cons (.refl _) (.cons (.refl _) (.cons (.refl _) (.cons .nil .nil))))))) ?_
  exact dN
 rw[if_neg (fun h=>h hsum)]at hres
 subst hres
 rw[decide_eq_true hsum]
 have w1:IntKind.i64.wrap ((b[(1:Int).toNat]'i1).toNat:Int)=((bAt b 1).toNat:Int):=by
  rw[Qy (show 1<b.length by omega)]
  have:=(b[1]'qn).toNat_lt
  show IntKind.i64.wrap ((b[1]'qn).toNat:Int)=_
  rw[IntKind.wrap_i64];omega
 have w8:IntKind.i64.wrap ((b[(8:Int).toNat]'i8).toNat:Int)=((bAt b 8).toNat:Int):=by
  rw[Qy (show 8<b.length by omega)]
  have:=(b[8]'qn).toNat_lt
  show IntKind.i64.wrap ((b[8]'qn).toNat:Int)=_
  rw[IntKind.wrap_i64];omega
 have w9:IntKind.i64.wrap ((b[(9:Int).toNat]'i9).toNat:Int)=((bAt b 9).toNat:Int):=by
  rw[Qy (show 9<b.length by omega)]
  have:=(b[9]'qn).toNat_lt
  show IntKind.i64.wrap ((b[9]'qn).toNat:Int)=_
  rw[IntKind.wrap_i64];omega
 have u12:IntKind.u32.wrap (numAt b 12 4:Int)=(numAt b 12 4:Int):=by have:=Hu b 12 4;rw[IntKind.wrap_u32];omega
 have u16:IntKind.u32.wrap (numAt b 16 4:Int)=(numAt b 16 4:Int):=by have:=Hu b 16 4;rw[IntKind.wrap_u32];omega
 refine oF ?_
 refine⟨E,by decide,i1,?_⟩
 conv=>whnf
 refine Bd (Be (lo:=4) (hi:=6) Γ.toTy E E E E (.inr ⟨_,_,E,E⟩) (.inr ⟨_,_,E,E⟩) qn qn) qq E ?_
 refine oD ?_
 refine cD q4 F365 ?_
 refine oD ?_
 refine⟨E,by decide,i8,?_⟩
 conv=>whnf
 refine⟨E,by decide,i9,?_⟩
 conv=>whnf
 refine⟨qq,?_⟩
 rw[w1,w8,w9]
 conv=>whnf
 refine Ad (Be (lo:=12) (hi:=16) Γ.toTy E E E E (.inr ⟨_,_,E,E⟩) (.inr ⟨_,_,E,E⟩) qn qn) E E ?_
 refine oO ?_
 refine c0 q12 F365 ?_
 refine oO ?_
 rw[u12]
 refine Ad (Be (lo:=16) (hi:=20) Γ.toTy E E E E (.inr ⟨_,_,E,E⟩) (.inr ⟨_,_,E,E⟩) qn qn) E E ?_
 refine oO ?_
 refine c0 q16 F365 ?_
 refine oO ?_
 rw[u16]
 refine Ad (Be (lo:=20) (hi:=numAt b 2 2) Γ.toTy E E E E (.inr ⟨_,_,E,E⟩) (.inr ⟨_,_,E,E⟩) hs20 hsl) E E ?_
 refine oO ?_
 refine Ad (Ac Γ.toTy 67 E E E E E (.lit (e:=Ag) (l:=[]) E E) .sl qz (by simp;omega) (by simp;omega)) E E ?_
 refine Ao 67 E ?_
 refine oO ?_
 exact dN
theorem Aqf (t:Nat) (h:t≤255):bits .or .i64 17664 (t:Int)=((17664+t:Nat):Int):=by
 have h1:=Dx 17664 t qy qn
 rw[show ((17664:Nat):Int)=17664 from rfl]at h1
 rw[h1]
 congr 1
 have h2:=Nat.two_pow_add_eq_or_of_lt (i:=8) (b:=t) qn 69
 rw[show 2 ^ 8 * 69=17664 from rfl]at h2
 rw[← h2]
theorem Asv (x y:Nat) (hx:x≤255) (hy:y≤255):bits .or .i64 (IntKind.i64.wrap ((x:Int) * 2 ^ min (Int.toNat 8) IntKind.i64.bits)) (y:Int)=((x * 256+y:Nat):Int):=by
 have h3:IntKind.i64.wrap ((x:Int) * 2 ^ min (Int.toNat 8) IntKind.i64.bits)=((x * 256:Nat):Int):=by
  show IntKind.i64.wrap ((x:Int) * 256)=_
  rw[IntKind.wrap_i64]
  omega
 rw[h3,Dx _ _ qn qn]
 congr 1
 have h:=Nat.two_pow_add_eq_or_of_lt (i:=8) (b:=y) qn x
 rw[Nat.mul_comm x 256]
 exact h.symm
theorem Ahf (x:Nat) (h:x<4294967296):IntKind.i64.wrap ((x:Int).fdiv (2 ^ (min (Int.toNat 16) IntKind.u32.bits)))=((x / 65536:Nat):Int):=by
 show IntKind.i64.wrap ((x:Int).fdiv 65536)=_
 rw[Int.fdiv_eq_ediv_of_nonneg _ qy,IntKind.wrap_i64]
 omega
theorem Yk (x:Nat) (h:x<4294967296):IntKind.i64.wrap (x:Int)=(x:Int):=by rw[IntKind.wrap_i64];omega
theorem Al0 (p:PacketM) (hp:PacketOK p) (hb:p.body.length<100000):Sy.Spec Tryz.prog 43 [Jp p] [] (.tup [.sl 1 Ag (ipPutT p).1,Aa (ipPutT p).2]) []:=cT F43 Tryz.ntmps43 fun F hF=>by
 have hres:=ipPutT.eq_1 p
 generalize ipPutT p=res at *
 have h1:=hp.tos
 have h2:=hp.id
 have h3:=hp.ttl
 have h4:=hp.proto
 have h5:=hp.src
 have h6:=hp.dst
 conv=>whnf
 refine Ef ⟨⟨_,_,F103⟩,O1 p.tos 255 qn⟩ E E E E E E ?_
 refine oF ?_
 refine Ef ⟨⟨_,_,F103⟩,O1 p.ttl 255 qn⟩ E E E E E E ?_
 refine oF ?_
 refine Ef ⟨⟨_,_,F103⟩,O1 p.proto 255 qn⟩ E E E E E E ?_
 refine oF ?_
 refine Ef ⟨⟨_,_,F103⟩,O1 p.id 65535 qn⟩ E E E E E E ?_
 refine oF ?_
 refine⟨fun h=>?_,fun h=>?_⟩
 ·rw[if_pos (qA h)]at hres
  subst hres
  refine oO ?_
  refine Am 2 1 Ag E ?_
  exact dN
 have hl:p.body.length≤1480:=qB h
 rw[if_neg qn]at hres
 subst hres
 clear h
 have hsz:U8 p=((Ia p 0).set 10 (UInt8.ofNat (Mh p / 256))).set 11 (UInt8.ofNat (Mh p))++p.body:=by rw[Aj8,U8]
 rw[hsz]
 have hil:=Ly p 0
 have hs:=Apc (Ia p 0) (by rw[hil];decide) (by rw[hil])
 have hput:=Ag9 [17664+p.tos,20+p.body.length,p.id,0,p.ttl * 256+p.proto,0,p.src / 65536,p.src,p.dst / 65536,p.dst] qz
 rw[show I4 [17664+p.tos,20+p.body.length,p.id,0,p.ttl * 256+p.proto,0,p.src / 65536,p.src,p.dst / 65536,p.dst]=Ia p 0 from rfl]at hput
 have hss:Hj (Ia p 0)=Mh p:=rfl
 rw[hss]at hs
 have hsl:Mh p≤65535:=Nat.sub_le _ _
 generalize Mh p=s at *
 have htb:=E2 s
 have o1:=Aqf p.tos h1
 have o2:=Asv p.ttl p.proto h3 h4
 have g1:=Ahf p.src h5
 have g2:=Yk p.src h5
 have g3:=Ahf p.dst h6
 have g4:=Yk p.dst h6
 generalize Ia p 0=b at *
 refine oO ?_
 refine iW ?_
 refine⟨by decide,?_⟩
 conv=>whnf
 refine⟨by decide,?_⟩
 conv=>whnf
 refine⟨by decide,?_⟩
 conv=>whnf
 refine Aa9 68 (e:=Alt) (l:=[17664+p.tos,20+p.body.length,p.id,0,p.ttl * 256+p.proto,0,p.src / 65536,p.src,p.dst / 65536,p.dst]) E ?_ ?_
 ·show _=[SV.val (.int .i64 (bits .or .i64 17664 (p.tos:Int))),SV.val _,SV.val _,SV.val _,SV.val (.int .i64 (bits .or .i64 (IntKind.i64.wrap ((p.ttl:Int) * 2 ^ min (Int.toNat 8) IntKind.i64.bits)) (p.proto:Int))),SV.val _,
   SV.val (.int .i64 (IntKind.i64.wrap ((p.src:Int).fdiv (2 ^ (min (Int.toNat 16) IntKind.u32.bits))))),SV.val (.int .i64 (IntKind.i64.wrap (p.src:Int))),SV.val (.int .i64 (IntKind.i64.wrap ((p.dst:Int).fdiv (2 ^ (min (Int.toNat 16) IntKind.u32.bits))))),SV.val (.int .i64 (IntKind.i64.wrap (p.dst:Int)))]
  rw[o1,o2,g1,g2,g3,g4]
  rfl
 refine Ao 68 E ?_
 refine Ad (Af [(0,69)] E F104 hput E Y E ⟨.inr E,Y⟩) E E ?_
 refine oO ?_
 refine Aa4 [69] hs F105 E (.cons (.row E E) .nil) E E E ?_
 refine oO ?_
 have hb1:=(List.cons.inj htb).1
 have hb2:=(List.cons.inj (List.cons.inj htb).2).1
 refine⟨by omega,?_⟩
 conv=>whnf
 refine⟨by decide,by rw[hil];decide,?_⟩
 conv=>whnf
 refine⟨E,by rw[hil];decide,UInt8.ofNat (s / 256),congrArg (fun z=>[z]) hb1,E,?_⟩
 conv=>whnf
 refine⟨by decide,by simp[hil],?_⟩
 conv=>whnf
 refine⟨E,by simp[hil],UInt8.ofNat s,congrArg (fun z=>[z]) hb2,E,?_⟩
 conv=>whnf
 refine Ad (Ac Γ.toTy 84 E E E E E (.row E) .sl qy (by simp[hil];omega) (by simp[hil];omega)) E E ?_
 refine Ao 84 E ?_
 refine oO ?_
 exact dN
theorem Yx (n:Nat):IntKind.u8.wrap (n:Int)=((UInt8.ofNat n).toNat:Int):=At3 n
theorem Acj (p:PacketM) (hp:PacketOK p) (hb:p.body.length<100000):Sy.Spec Tryz.prog 48 [Jp p] [] (.tup [.sl 1 Ag (ipPutT p).1,Aa (ipPutT p).2]) []:=cT F48 Tryz.ntmps48 fun F hF=>by
 have hres:=ipPutT.eq_1 p
 generalize ipPutT p=res at *
 have h1:=hp.tos
 have h2:=hp.id
 have h3:=hp.ttl
 have h4:=hp.proto
 have h5:=hp.src
 have h6:=hp.dst
 conv=>whnf
 refine c0 (Agp p.tos 255 qn) F107 ?_
 refine oF ?_
 refine c0 (Agp p.ttl 255 qn) F107 ?_
 refine oF ?_
 refine c0 (Agp p.proto 255 qn) F107 ?_
 refine oF ?_
 refine c0 (Agp p.id 65535 qn) F107 ?_
 refine oF ?_
 refine⟨fun h=>?_,fun h=>?_⟩
 ·rw[if_pos (qA h)]at hres
  subst hres
  refine oO ?_
  refine Am 2 1 Ag E ?_
  exact dN
 have hl:p.body.length≤1480:=qB h
 rw[if_neg qn]at hres
 subst hres
 clear h
 have hall:=Ahb hp
 have hsum:=Aha hp hl
 have h2l:=Qg p
 have hs:=Acf (Sf p) (by rw[h2l];decide) (by rw[h2l])
 rw[hsum]at hs
 have hsl:Mh p≤65535:=Nat.sub_le _ _
 have hby:U8 p=[69,UInt8.ofNat p.tos]++be 2 (20+p.body.length)++be 2 p.id++[0,0,UInt8.ofNat p.ttl,UInt8.ofNat p.proto]++be 2 (Mh p)++(be 4 p.src++be 4 p.dst)++p.body:=by rw[hall,U8]
 rw[hby]
 clear hby hall
 generalize Mh p=s at *
 have g2:=Yk p.src h5
 have g4:=Yk p.dst h6
 have b2:=E3 p.src 4 qn qy
 have b4:=E3 p.dst 4 qn qy
 rw[← g2]at b2
 rw[← g4]at b4
 have hu1:=Yx p.tos
 have hu3:=Yx p.ttl
 have hu4:=Yx p.proto
 have hm1:[69,UInt8.ofNat p.tos].map Ag=[SV.val (.int .u8 69),SV.val (.int .u8 (IntKind.u8.wrap (p.tos:Int)))]:=by rw[hu1];rfl
 have hm2:[0,0,UInt8.ofNat p.ttl,UInt8.ofNat p.proto].map Ag=[SV.val (.int .u8 0),SV.val (.int .u8 0),SV.val (.int .u8 (IntKind.u8.wrap (p.ttl:Int))),SV.val (.int .u8 (IntKind.u8.wrap (p.proto:Int)))]:=by rw[hu3,hu4];rfl
 refine oO ?_
 refine iW ?_
 refine Ad (Af [(0,39)] E F108 (E3 (20+p.body.length) 2 qn qy) E Y E ⟨.inr E,Y⟩) E E ?_
 refine oO ?_
 refine Ad (Ac Γ.toTy 40 E E E E E (.lit (e:=Ag) (l:=[69,UInt8.ofNat p.tos]) E hm1) (.row E) qy (by simp[Au]) (by simp[Au])) E E ?_
 refine oO ?_
 refine Ad (Af [(0,44)] E F108 (E3 p.id 2 qn qy) E Y E ⟨.inr E,Y⟩) E E ?_
 refine oO ?_
 refine Ad (Ac Γ.toTy 45 E E E E E (.row E) (.row E) qy (by simp[Au]) (by simp[Au])) E E ?_
 refine oO ?_
 refine Ad (Ac Γ.toTy 54 E E E E E (.row E) (.lit (e:=Ag) (l:=[0,0,UInt8.ofNat p.ttl,UInt8.ofNat p.proto]) E hm2) qy (by simp[Au]) (by simp[Au])) E E ?_
 refine oO ?_
 refine Bd (Af [(0,58)] E F108 b2 E Y E ⟨.inr E,Y⟩) qq E ?_
 refine oD ?_
 refine Bd (Af [(0,62)] E F108 b4 E Y E ⟨.inr E,Y⟩) qq E ?_
 refine oD ?_
 refine Bd (Ac Γ.toTy 63 E E E E E (.row E) (.row E) qy (by simp[Au]) (by simp[Au])) qq E ?_
 refine oD ?_
 refine kW ?_
 refine Ad (Ac Γ.toTy 66 E E E E E (.lit (e:=Ag) (l:=[]) E E) (.row E) qy (by simp[Au]) (by simp[Au])) E E ?_
 refine oO ?_
 refine Ad (Ac Γ.toTy 68 E E E E E (.row E) (.row E) qy (by simp[Au]) (by simp[Au])) E E ?_
 refine oO ?_
 refine Aa4 [68] hs F109 E (.cons (.row ?_ E) .nil) E E E ?_
 ·rfl
 refine oO ?_
 refine Ad (Af [(0,72)] E F108 (E3 s 2 qn qy) E Y E ⟨.inr E,Y⟩) E E ?_
 refine oO ?_
 refine Ad (Ac Γ.toTy 73 E E E E E (.row E) (.row E) qy (by simp[Au]) (by simp[Au])) E E ?_
 refine oO ?_
 refine Ad (Ac Γ.toTy 75 E E E E E (.row E) (.row E) qy (by simp[Au]) (by simp[Au])) E E ?_
 refine oO ?_
 refine Ad (Ac Γ.toTy 79 E E E E E (.row E) .sl qy (by simp[Au];omega) (by simp[Au];omega)) E E ?_
 refine Ao 79 E ?_
 refine oO ?_
 exact dN
def hop1 (p:PacketM):PacketM × Int:=if p.ttl≤1 then (noP,13) else (Ahe p,0)
theorem ipHopS (p:PacketM) (hb:p.body.length<100000) (ht:p.ttl≤255):Sy.Spec Tryz.prog 298 [Jp p] [] (.tup [Jp (hop1 p).1,Aa (hop1 p).2]) []:=cT F298 Tryz.ntmps298 fun F hF=>by
 have hres:=hop1.eq_1 p
 generalize hop1 p=res at *
 have qc:=Of p.body qn
 conv=>whnf
 refine⟨fun h=>?_,fun h=>?_⟩
 ·rw[if_pos (qA h)]at hres
  subst hres
  refine oO ?_
  refine Ar 2 zP E (.cons (.refl _) (.cons (.refl _) (.cons (.refl _) (.cons (.refl _) (.cons (.refl _) (.cons (.refl _) (.cons .nil .nil))))))) ?_
  exact dN
 have h2:¬ p.ttl≤1:=qB h
 rw[if_neg h2]at hres
 subst hres
 have e:((p.ttl-1:Nat):Int)=(p.ttl:Int)-1:=by omega
 refine oO ?_
 refine iW ?_
 refine c0 qc F290 ?_
 refine oO ?_
 refine Aq E (.cons (.cell E E E E) (.cons .tmp .nil)) ?_ E
 show SV.tup [.agg [_,_,Aa ((p.ttl-1:Nat):Int),_,_,_,_],_]=SV.tup [.agg [_,_,Aa ((p.ttl:Int)-1),_,_,_,_],_]
 rw[e]
 rfl
theorem Ani (p:PacketM) (_hb:p.body.length<100000) (ht:p.ttl≤255):Sy.Spec Tryz.prog 318 [Jp p] [] (.tup [Jp (hop1 p).1,Aa (hop1 p).2]) []:=cT F318 Tryz.ntmps318 fun F hF=>by
 have hres:=hop1.eq_1 p
 generalize hop1 p=res at *
 conv=>whnf
 refine⟨fun h=>?_,fun h=>?_⟩
 ·rw[if_pos (qA h)]at hres
  subst hres
  refine oO ?_
  refine Ar 2 zP E (.cons (.refl _) (.cons (.refl _) (.cons (.refl _) (.cons (.refl _) (.cons (.refl _) (.cons (.refl _) (.cons .nil .nil))))))) ?_
  exact dN
 have h2:¬ p.ttl≤1:=qB h
 rw[if_neg h2]at hres
 subst hres
 have e:((p.ttl-1:Nat):Int)=(p.ttl:Int)-1:=by omega
 refine oO ?_
 refine iW ?_
 refine Aq E (.cons (.cell E E E E) (.cons .tmp .nil)) ?_ E
 show SV.tup [.agg [_,_,Aa ((p.ttl-1:Nat):Int),_,_,_,_],_]=SV.tup [.agg [_,_,Aa ((p.ttl:Int)-1),_,_,_,_],_]
 rw[e]
 rfl
def udpU (b:List UInt8):Nat→List SV
 | 0=>[Aa 0,Aa 0,Aa 0,Aa 0]
 | 1=>[Aa (numAt b 0 2),Aa 0,Aa 0,Aa 0]
 | 2=>[Aa (numAt b 0 2),Aa (numAt b 2 2),Aa 0,Aa 0]
 | 3=>[Aa (numAt b 0 2),Aa (numAt b 2 2),Aa (numAt b 4 2),Aa 0]
 | _=>[Aa (numAt b 0 2),Aa (numAt b 2 2),Aa (numAt b 4 2),Aa (numAt b 6 2)]
theorem Ao2 (b:List UInt8) (hb:b.length<100000):Sy.Spec Tryz.prog 381 [.sl 1 Ag b] [] (.tup [Aa (udpTakeT b).1,Aa (udpTakeT b).2.1,.sl 1 Ag (udpTakeT b).2.2.1,Aa (udpTakeT b).2.2.2]) []:=cT F381 Tryz.ntmps381 fun F hF=>by
 have hres:=udpTakeT.eq_1 b
 generalize udpTakeT b=res at *
 conv=>whnf
 refine⟨fun h=>?_,fun h=>?_⟩
 ·rw[if_pos (qA h)]at hres
  subst hres
  refine oO ?_
  refine Am 4 1 Ag E ?_
  exact dN
 have h8:8≤b.length:=qB h
 rw[if_neg qn]at hres
 clear h
 have hp0:=Hg (b[0]'qn) (b[1]'qn)
 rw[← Kz (show 0+2≤b.length by omega)]at hp0
 have hp1:=Hg (b[2]'qn) (b[3]'qn)
 rw[← Kz (show 2+2≤b.length by omega)]at hp1
 have hp2:=Hg (b[4]'qn) (b[5]'qn)
 rw[← Kz (show 4+2≤b.length by omega)]at hp2
 have hp3:=Hg (b[6]'qn) (b[7]'qn)
 rw[← Kz (show 6+2≤b.length by omega)]at hp3
 refine oO ?_
 refine At 4 (fun j=>[(0,.sl 1 Ag b),(6,.ptr 6 0),(11,Aa j)]) (fun j=>[(6,.box (udpU b j))]) [] ⟨⟨E,E,E,E,E,E,Y⟩,⟨.inl E,E,Y⟩,E,E⟩ ?_
 intro j hj
 have hcase:j=0∨j=1∨j=2∨j=3∨j=4:=by omega
 rcases hcase with rfl | rfl | rfl | rfl | rfl
 ·refine oT ?_
  refine iW ?_
  refine⟨E,by omega,by omega,?_⟩
  conv=>whnf
  refine⟨by decide,?_⟩
  conv=>whnf
  refine iW ?_
  refine iW ?_
  refine⟨E,by omega,by omega,?_⟩
  conv=>whnf
  refine⟨by decide,by decide,?_⟩
  conv=>whnf
  refine kW ?_
  refine iW ?_
  exact An [] qy ⟨⟨E,E,E,E,E,E,Y⟩,⟨.inl (congrArg (fun z:Int=>Ob.box [Aa z,Aa 0,Aa 0,Aa 0]) hp0.symm),E,Y⟩,E,E⟩
 ·refine oT ?_
  refine iW ?_
  refine⟨E,by omega,by omega,?_⟩
  conv=>whnf
  refine⟨by decide,?_⟩
  conv=>whnf
  refine iW ?_
  refine iW ?_
  refine⟨E,by omega,by omega,?_⟩
  conv=>whnf
  refine⟨by decide,by decide,?_⟩
  conv=>whnf
  refine kW ?_
  refine iW ?_
  exact An [] qy ⟨⟨E,E,E,E,E,E,Y⟩,⟨.inl (congrArg (fun z:Int=>Ob.box [Aa (numAt b 0 2),Aa z,Aa 0,Aa 0]) hp1.symm),E,Y⟩,E,E⟩
 ·refine oT ?_
  refine iW ?_
  refine⟨E,by omega,by omega,?_⟩
  conv=>whnf
  refine⟨by decide,?_⟩
  conv=>whnf
  refine iW ?_
  refine iW ?_
  refine⟨E,by omega,by omega,?_⟩
  conv=>whnf
  refine⟨by decide,by decide,?_⟩
  conv=>whnf
  refine kW ?_
  refine iW ?_
  exact An [] qy ⟨⟨E,E,E,E,E,E,Y⟩,⟨.inl (congrArg (fun z:Int=>Ob.box [Aa (numAt b 0 2),Aa (numAt b 2 2),Aa z,Aa 0]) hp2.symm),E,Y⟩,E,E⟩
 ·refine oT ?_
  refine iW ?_
  refine⟨E,by omega,by omega,?_⟩
  conv=>whnf
  refine⟨by decide,?_⟩
  conv=>whnf
  refine iW ?_
  refine iW ?_
  refine⟨E,by omega,by omega,?_⟩
  conv=>whnf
  refine⟨by decide,by decide,?_⟩
  conv=>whnf
  refine kW ?_
  refine iW ?_
  exact An [] qy ⟨⟨E,E,E,E,E,E,Y⟩,⟨.inl (congrArg (fun z:Int=>Ob.box [Aa (numAt b 0 2),Aa (numAt b 2 2),Aa (numAt b 4 2),Aa z]) hp3.symm),E,Y⟩,E,E⟩
 clear hp0 hp1 hp2 hp3
 refine oF ?_
 refine⟨by decide,by decide,?_⟩
 conv=>whnf
 refine⟨fun h=>?_,fun h=>?_⟩
 ·rw[if_pos (qA h)]at hres
  subst hres
  refine oO ?_
  refine Am 4 1 Ag E ?_
  exact dN
 have hs8:8≤numAt b 4 2:=qB h
 rw[if_neg qn]at hres
 clear h
 refine oO ?_
 refine⟨by decide,by decide,?_⟩
 conv=>whnf
 refine⟨fun h=>?_,fun h=>?_⟩
 ·rw[if_pos (qA h)]at hres
  subst hres
  refine oO ?_
  refine Am 4 1 Ag E ?_
  exact dN
 have hsl:numAt b 4 2≤b.length:=qB h
 rw[if_neg qn]at hres
 clear h
 refine oO ?_
 refine⟨by decide,by decide,?_⟩
 conv=>whnf
 refine⟨fun h=>?_,fun h=>?_⟩
 ·rw[if_pos (by have:(numAt b 6 2:Int)≠0:=(by simpa using h);omega)]at hres
  subst hres
  refine oO ?_
  refine Am 4 1 Ag E ?_
  exact dN
 rw[if_neg (by have:(numAt b 6 2:Int)=0:=(by simpa using h);omega)]at hres
 subst hres
 clear h
 have qc:=Of ((b.take (numAt b 4 2)).drop 8) (by rw[List.length_drop,List.length_take];omega)
 refine oO ?_
 refine⟨by decide,by decide,?_⟩
 conv=>whnf
 refine⟨by decide,by decide,?_⟩
 conv=>whnf
 refine⟨by decide,by decide,?_⟩
 conv=>whnf
 refine Bd (Be (lo:=8) (hi:=numAt b 4 2) Γ.toTy E E E E (.inr ⟨_,_,E,E⟩) (.inr ⟨_,_,E,E⟩) hs8 hsl) qq E ?_
 refine oD ?_
 refine cD qc F290 ?_
 refine oD ?_
 refine kW ?_
 exact dN
theorem Ai5 (b:List UInt8) (hb:b.length<100000):Sy.Spec Tryz.prog 370 [.sl 1 Ag b] [] (.tup [Aa (udpTakeT b).1,Aa (udpTakeT b).2.1,.sl 1 Ag (udpTakeT b).2.2.1,Aa (udpTakeT b).2.2.2]) []:=cT F370 Tryz.ntmps370 fun F hF=>by
 have hres:=udpTakeT.eq_1 b
 generalize udpTakeT b=res at *
 conv=>whnf
 refine⟨fun h=>?_,fun h=>?_⟩
 ·rw[if_pos (qA h)]at hres
  subst hres
  refine oO ?_
  refine Am 4 1 Ag E ?_
  exact dN
 have h8:8≤b.length:=qB h
 rw[if_neg qn]at hres
 clear h
 have n0:=Kz (show 0+2≤b.length by omega)
 have n2:=Kz (show 2+2≤b.length by omega)
 have n4:=Kz (show 4+2≤b.length by omega)
 have n6:=Kz (show 6+2≤b.length by omega)
 have hp0:=Mb (b[0]'qn) (b[1]'qn)
 have hp2:=Mb (b[2]'qn) (b[3]'qn)
 have hp4:=Mb (b[4]'qn) (b[5]'qn)
 rw[← n0]at hp0
 rw[← n2]at hp2
 rw[← n4]at hp4
 have w:∀ x:UInt8,IntKind.i64.wrap (x.toNat:Int)=x.toNat∧x.toNat<256:=fun x=>by have:=x.toNat_lt;refine⟨?_,this⟩;rw[IntKind.wrap_i64];omega
 obtain ⟨w0,l0⟩:=w (b[0]'qn)
 obtain ⟨w1,l1⟩:=w (b[1]'qn)
 obtain ⟨w2,l2⟩:=w (b[2]'qn)
 obtain ⟨w3,l3⟩:=w (b[3]'qn)
 obtain ⟨w4,l4⟩:=w (b[4]'qn)
 obtain ⟨w5,l5⟩:=w (b[5]'qn)
 have i0:(0:Int).toNat<b.length:=by show 0<_;omega
 have i1:(1:Int).toNat<b.length:=by show 1<_;omega
 have i2:(2:Int).toNat<b.length:=by show 2<_;omega
 have i3:(3:Int).toNat<b.length:=by show 3<_;omega
 have i4:(4:Int).toNat<b.length:=by show 4<_;omega
 have i5:(5:Int).toNat<b.length:=by show 5<_;omega
 have i6:(6:Int).toNat<b.length:=by show 6<_;omega
 have i7:(7:Int).toNat<b.length:=by show 7<_;omega
 have e4:b[(4:Int).toNat]'i4=b[4]'qn:=rfl
 have e5:b[(5:Int).toNat]'i5=b[5]'qn:=rfl
 have e6:b[(6:Int).toNat]'i6=b[6]'qn:=rfl
 have e7:b[(7:Int).toNat]'i7=b[7]'qn:=rfl
 refine oO ?_
 refine⟨E,by decide,i4,?_⟩
 rw[e4]
 conv=>whnf
 refine⟨by rw[w4];unfold I64;omega,?_⟩
 conv=>whnf
 refine⟨E,by decide,i5,?_⟩
 rw[e5]
 conv=>whnf
 refine⟨by rw[hp4];unfold I64;have:=Hu b 4 2;omega,?_⟩
 rw[hp4]
 conv=>whnf
 refine kW ?_
 refine⟨fun h=>?_,fun h=>?_⟩
 ·rw[if_pos (qA h)]at hres
  subst hres
  refine oO ?_
  refine Am 4 1 Ag E ?_
  exact dN
 have hs8:8≤numAt b 4 2:=qB h
 rw[if_neg qn]at hres
 clear h
 refine oO ?_
 refine⟨fun h=>?_,fun h=>?_⟩
 ·rw[if_pos (qA h)]at hres
  subst hres
  refine oO ?_
  refine Am 4 1 Ag E ?_
  exact dN
 have hsl:numAt b 4 2≤b.length:=qB h
 rw[if_neg qn]at hres
 clear h
 refine oO ?_
 refine⟨E,by decide,i6,?_⟩
 rw[e6]
 conv=>whnf
 refine⟨fun h=>?_,fun h=>?_⟩
 ·have h2:((b[6]'qn).toNat:Int)≠0:=by simpa using h
  rw[if_pos (by rw[n6];omega)]at hres
  subst hres
  refine oT ?_
  refine Am 4 1 Ag E ?_
  exact dN
 have h6:((b[6]'qn).toNat:Int)=0:=by simpa using h
 clear h
 refine oO ?_
 refine⟨E,by decide,i7,?_⟩
 rw[e7]
 conv=>whnf
 refine⟨fun h=>?_,fun h=>?_⟩
 ·have h2:((b[7]'qn).toNat:Int)≠0:=by simpa using h
  rw[if_pos (by rw[n6];show (b[6]'qn).toNat * 256+(b[7]'qn).toNat≠0;omega)]at hres
  subst hres
  refine oO ?_
  refine Am 4 1 Ag E ?_
  exact dN
 have h7:((b[7]'qn).toNat:Int)=0:=by simpa using h
 rw[if_neg (by rw[n6];show ¬ (b[6]'qn).toNat * 256+(b[7]'qn).toNat≠0;omega)]at hres
 subst hres
 clear h
 refine oO ?_
 refine⟨E,by decide,i0,?_⟩
 conv=>whnf
 refine⟨(by show I64 (IntKind.i64.wrap ((b[0]'qn).toNat:Int) * 256);rw[w0];unfold I64;omega),?_⟩
 conv=>whnf
 refine⟨E,by decide,i1,?_⟩
 conv=>whnf
 refine⟨(by show I64 (IntKind.i64.wrap ((b[0]'qn).toNat:Int) * 256+IntKind.i64.wrap ((b[1]'qn).toNat:Int));rw[w0,w1];unfold I64;omega),?_⟩
 conv=>whnf
 refine⟨E,by decide,i2,?_⟩
 conv=>whnf
 refine⟨(by show I64 (IntKind.i64.wrap ((b[2]'qn).toNat:Int) * 256);rw[w2];unfold I64;omega),?_⟩
 conv=>whnf
 refine⟨E,by decide,i3,?_⟩
 conv=>whnf
 refine⟨(by show I64 (IntKind.i64.wrap ((b[2]'qn).toNat:Int) * 256+IntKind.i64.wrap ((b[3]'qn).toNat:Int));rw[w2,w3];unfold I64;omega),?_⟩
 conv=>whnf
 refine Bd (Be (lo:=8) (hi:=numAt b 4 2) Γ.toTy E E E E (.inr ⟨_,_,E,E⟩) (.inr ⟨_,_,E,E⟩) hs8 hsl) qq E ?_
 refine oD ?_
 refine Bd (Ac Γ.toTy 60 E E E E E (.lit (e:=Ag) (l:=[]) E E) .sl qz (by simp;omega) (by simp;omega)) qq E ?_
 refine oD ?_
 refine kW ?_
 refine Ao 60 E ?_
 refine Aq E (.cons .tmp (.cons .tmp (.cons .tmp (.cons .tmp .nil)))) ?_ E
 show SV.tup [Aa (numAt b 0 2),Aa (numAt b 2 2),_,_]=SV.tup [Aa (IntKind.i64.wrap ((b[0]'qn).toNat:Int) * (256:Int)+IntKind.i64.wrap ((b[1]'qn).toNat:Int)),Aa (IntKind.i64.wrap ((b[2]'qn).toNat:Int) * (256:Int)+IntKind.i64.wrap ((b[3]'qn).toNat:Int)),_,_]
 rw[hp0,hp2]
 rfl
theorem Ash (src dst:Nat) (body:List UInt8) (h1:src≤65535) (h2:dst≤65535) (h3:body.length≤1472):Sy.Spec Tryz.prog 351 [Aa src,Aa dst,.sl 1 Ag body] [] (.tup [.sl 1 Ag (Afo src dst body),Aa 0]) []:=cT F351 Tryz.ntmps351 fun F hF=>by
 ((conv=>whnf);refine aF ?_;refine rg ?_;conv=>whnf)
 (refine⟨fun h=>False.elim (by simp at h;omega),fun _=>?_⟩;refine rg ?_;(conv=>whnf);refine aF ?_;refine rg ?_;(conv=>whnf);refine⟨fun h=>False.elim (by simp at h;omega),fun _=>?_⟩;refine rg ?_;(conv=>whnf);refine⟨fun h=>False.elim (by simp at h;omega),fun _=>?_⟩;refine rg ?_;conv=>whnf)
 refine iW ?_
 refine Bm 8 1000 1 Ag E E ?_
 refine Ad (Ahg Γ.toTy E E E E E E) E E ?_
 refine oO ?_
 have key:∀ (x:Nat) (pre:List Nat),pre.length≤4→Cb (pre++[x])=Cb pre++[UInt8.ofNat (x / 256),UInt8.ofNat x]:=fun x pre _=>Jk pre x
 have hwl:∀ l:List Nat,(Cb l).length=2 * l.length:=Je
 obtain ⟨ws,hws⟩:∃ ws:List Nat,ws=[src,dst,8+body.length,0]:=⟨_,rfl⟩
 refine At 4 (fun j=>[(2,.sl 1 Ag body),(8,.osl 1000),(35,.agg [Aa src,Aa dst,Aa (8+body.length:Nat),Aa 0]),(36,Aa j)]) (fun j=>[(1000,.row 1 Ag (Cb (ws.take j)))]) [] ⟨⟨E,E,E,E,E,E,E,E,Y⟩,⟨.inl (congrArg (Ob.row 1 Ag) (by simp[Cb])),E,Y⟩,E,E⟩ ?_
 intro j hj
 have hcase:j=0∨j=1∨j=2∨j=3∨j=4:=by omega
 rcases hcase with rfl | rfl | rfl | rfl | rfl
 ·have hs:Cb (ws.take 1)=Cb (ws.take 0)++[UInt8.ofNat (src / 256),UInt8.ofNat src]:=by subst hws;exact Jk [] src
  have hl:=hwl (ws.take 0)
  have hl2:(ws.take 0).length≤4:=by rw[List.length_take];omega
  have htb:=E2 src
  refine oT ?_
  refine Ad (H1 (k:=.int .i64) Γ.toTy E E E Tryz.underlying3 E E qy qy E) E E ?_
  refine oO ?_
  refine⟨by decide,?_⟩
  conv=>whnf
  refine Ad (Ac Γ.toTy 46 E E E E E (.row E) (.lit (e:=Ag) (l:=[UInt8.ofNat (src / 256),UInt8.ofNat src]) E htb) qz (by rw[hl];simp only[List.length_cons,List.length_nil];omega) (by rw[hl];simp only[List.length_cons,List.length_nil];omega)) E E ?_
  refine oO ?_
  refine iW ?_
  exact An [(1000,46)] qy ⟨⟨E,E,E,E,E,E,E,E,Y⟩,⟨.inl (congrArg (Ob.row 1 Ag) hs),E,Y⟩,E,E⟩
 ·have hs:Cb (ws.take 2)=Cb (ws.take 1)++[UInt8.ofNat (dst / 256),UInt8.ofNat dst]:=by subst hws;exact Jk [src] dst
  have hl:=hwl (ws.take 1)
  have hl2:(ws.take 1).length≤4:=by rw[List.length_take];omega
  have htb:=E2 dst
  refine oT ?_
  refine Ad (H1 (k:=.int .i64) Γ.toTy E E E Tryz.underlying3 E E qy qy E) E E ?_
  refine oO ?_
  refine⟨by decide,?_⟩
  conv=>whnf
  refine Ad (Ac Γ.toTy 46 E E E E E (.row E) (.lit (e:=Ag) (l:=[UInt8.ofNat (dst / 256),UInt8.ofNat dst]) E htb) qz (by rw[hl];simp only[List.length_cons,List.length_nil];omega) (by rw[hl];simp only[List.length_cons,List.length_nil];omega)) E E ?_
  refine oO ?_
  refine iW ?_
  exact An [(1000,46)] qy ⟨⟨E,E,E,E,E,E,E,E,Y⟩,⟨.inl (congrArg (Ob.row 1 Ag) hs),E,Y⟩,E,E⟩
 ·have hs:Cb (ws.take 3)=Cb (ws.take 2)++[UInt8.ofNat ((8+body.length) / 256),UInt8.ofNat (8+body.length)]:=by subst hws;exact Jk [src,dst] (8+body.length)
  have hl:=hwl (ws.take 2)
  have hl2:(ws.take 2).length≤4:=by rw[List.length_take];omega
  have htb:=E2 (8+body.length)
  refine oT ?_
  refine Ad (H1 (k:=.int .i64) Γ.toTy E E E Tryz.underlying3 E E qy qy E) E E ?_
  refine oO ?_
  refine⟨by decide,?_⟩
  conv=>whnf
  refine Ad (Ac Γ.toTy 46 E E E E E (.row E) (.lit (e:=Ag) (l:=[UInt8.ofNat ((8+body.length) / 256),UInt8.ofNat (8+body.length)]) E htb) qz (by rw[hl];simp only[List.length_cons,List.length_nil];omega) (by rw[hl];simp only[List.length_cons,List.length_nil];omega)) E E ?_
  refine oO ?_
  refine iW ?_
  exact An [(1000,46)] qy ⟨⟨E,E,E,E,E,E,E,E,Y⟩,⟨.inl (congrArg (Ob.row 1 Ag) hs),E,Y⟩,E,E⟩
 ·have hs:Cb (ws.take 4)=Cb (ws.take 3)++[UInt8.ofNat (0 / 256),UInt8.ofNat 0]:=by subst hws;exact Jk [src,dst,8+body.length] 0
  have hl:=hwl (ws.take 3)
  have hl2:(ws.take 3).length≤4:=by rw[List.length_take];omega
  have htb:=E2 0
  refine oT ?_
  refine Ad (H1 (k:=.int .i64) Γ.toTy E E E Tryz.underlying3 E E qy qy E) E E ?_
  refine oO ?_
  refine⟨by decide,?_⟩
  conv=>whnf
  refine Ad (Ac Γ.toTy 46 E E E E E (.row E) (.lit (e:=Ag) (l:=[UInt8.ofNat (0 / 256),UInt8.ofNat 0]) E htb) qz (by rw[hl];simp only[List.length_cons,List.length_nil];omega) (by rw[hl];simp only[List.length_cons,List.length_nil];omega)) E E ?_
  refine oO ?_
  refine iW ?_
  exact An [(1000,46)] qy ⟨⟨E,E,E,E,E,E,E,E,Y⟩,⟨.inl (congrArg (Ob.row 1 Ag) hs),E,Y⟩,E,E⟩
 have hl:=hwl (ws.take 4)
 have e:ws.take 4=[src,dst,8+body.length,0]:=by rw[hws];rfl
 rw[e]at hl ⊢
 have hl3:(Cb [src,dst,8+body.length,0]).length=8:=hl
 refine oF ?_
 refine Ad (Ac Γ.toTy 50 E E E E E (.row E) .sl qz (by rw[hl3];simp;omega) (by rw[hl3];omega)) E E ?_
 refine Ao 50 E ?_
 refine oO ?_
 exact dN
theorem Anh (src dst:Nat) (body:List UInt8) (h1:src≤65535) (h2:dst≤65535) (h3:body.length≤1472):Sy.Spec Tryz.prog 368 [Aa src,Aa dst,.sl 1 Ag body] [] (.tup [.sl 1 Ag (Afo src dst body),Aa 0]) []:=cT F368 Tryz.ntmps368 fun F hF=>by
 have t1:=I2 src h1
 have t2:=I2 dst h2
 have t3:=I2 (8+body.length) qn
 obtain ⟨l,hl⟩:∃ l:List UInt8,l=Cb [src,dst,8+body.length,0]:=⟨_,rfl⟩
 have hll:l.length=8:=by rw[hl,Je];rfl
 have hudp:Afo src dst body=l++body:=by rw[hl,Afo]
 rw[hudp]
 ((conv=>whnf);refine aF ?_;refine rg ?_;(conv=>whnf);refine aF ?_;refine rg ?_;conv=>whnf)
 (refine⟨fun h=>False.elim (by simp at h;omega),fun _=>?_⟩;refine rg ?_;(conv=>whnf);refine⟨fun h=>False.elim (by simp at h;omega),fun _=>?_⟩;refine rg ?_;(conv=>whnf);refine⟨fun h=>False.elim (by simp at h;omega),fun _=>?_⟩;refine rg ?_;conv=>whnf)
 refine iW ?_
 repeat (refine⟨by decide,?_⟩;((conv=>whnf);repeat((first|refine aF ?_|refine aT ?_);(first|refine rG Γ hm ?_|refine rD Γ hm qq ?_);conv=>whnf)))
 refine Ad (Ac Γ.toTy 51 E E E E E (.lit (e:=Ag) (l:=l) E ?_) .sl qz (by simp[hll];omega) (by simp[hll];omega)) E E ?_
 ·have a1:=List.cons.inj t1
  have a2:=List.cons.inj t2
  have a3:=List.cons.inj t3
  have b1:=List.cons.inj a1.2
  have b2:=List.cons.inj a2.2
  have b3:=List.cons.inj a3.2
  rw[hl]
  simp only[Cb,List.flatMap_cons,List.flatMap_nil,List.append_nil,List.cons_append,List.nil_append,List.map_cons,List.map_nil,a1.1,b1.1,a2.1,b2.1,a3.1,b3.1]
  rfl
 refine Ao 51 E ?_
 refine oO ?_
 exact dN
theorem Ao3 (a b:Nat) (ha:a<18446744073709551616) (hb:b<18446744073709551616):Sy.Spec Tryz.prog 352 [As a,As b] [] (Aa (udpPort a b:Nat)) []:=cT F352 Tryz.ntmps352 fun F hF=>by
 have hx:=bits_xor_u64_nat a b ha hb
 have hmd:((a ^^^ b:Nat):Int).tmod 16384=(((a ^^^ b) % 16384:Nat):Int):=by rw[Int.tmod_eq_emod_of_nonneg qn];omega
 have hl:=Nat.mod_lt (a ^^^ b) (show 0<16384 by decide)
 have hw:IntKind.i64.wrap (((a ^^^ b) % 16384:Nat):Int)=(((a ^^^ b) % 16384:Nat):Int):=by rw[IntKind.wrap_i64];omega
 conv=>whnf
 refine⟨by decide,?_⟩
 rw[hx,hmd]
 conv=>whnf
 rw[hw]
 refine iW ?_
 refine Aq E (.cons .tmp .nil) ?_ E
 refine congrArg (fun z:Int=>SV.val (.int .i64 z)) ?_
 rw[udpPort]
 omega
theorem Asd (a b j:Nat):(a ^^^ b) / 2 ^ j % 2=if a / 2 ^ j % 2=b / 2 ^ j % 2 then 0 else 1:=by
 have h:=Nat.testBit_xor a b j
 rw[Nat.testBit_eq_decide_div_mod_eq,Nat.testBit_eq_decide_div_mod_eq,Nat.testBit_eq_decide_div_mod_eq]at h
 have h1:=Nat.mod_two_eq_zero_or_one ((a ^^^ b) / 2 ^ j)
 have h2:=Nat.mod_two_eq_zero_or_one (a / 2 ^ j)
 have h3:=Nat.mod_two_eq_zero_or_one (b / 2 ^ j)
 rcases h1 with h1 | h1<;>rcases h2 with h2 | h2<;>rcases h3 with h3 | h3<;>simp_all
theorem Aef (x j:Nat):x % 2 ^ (j+1)=x % 2 ^ j+2 ^ j * (x / 2 ^ j % 2):=by
 rw[Nat.pow_succ,Nat.mod_mul]
theorem Ai6 (a b:Nat) (ha:a<18446744073709551616) (hb:b<18446744073709551616):Sy.Spec Tryz.prog 369 [As a,As b] [] (Aa (udpPort a b:Nat)) []:=cT F369 Tryz.ntmps369 fun F hF=>by
 conv=>whnf
 refine At 14 (fun j=>[(0,As (a / 2 ^ j:Nat)),(1,As (b / 2 ^ j:Nat)),(5,Aa ((a ^^^ b) % 2 ^ j:Nat)),(6,Aa (2 ^ j:Nat)),(7,Aa j)]) (fun _=>[]) []
  ⟨⟨congrArg (fun z:Nat=>As z) qz,rfl,congrArg (fun z:Nat=>As z) qz,rfl,congrArg (fun z:Nat=>Aa z) (by simp;omega),rfl,rfl,rfl,rfl,rfl,trivial⟩,trivial,rfl,rfl⟩ ?_
 intro j hj
 have hp:2 ^ j≤16384:=by
  have:(2:Nat) ^ j≤2 ^ 14:=Nat.pow_le_pow_right qy hj
  exact this
 have hpp:0<2 ^ j:=Nat.two_pow_pos j
 have hx:=Asd a b j
 have hmd:=Aef (a ^^^ b) j
 have hml:=Nat.mod_lt (a ^^^ b) hpp
 have ea:a / 2 ^ (j+1)=a / 2 ^ j / 2:=by rw[Nat.pow_succ,Nat.div_div_eq_div_mul]
 have eb:b / 2 ^ (j+1)=b / 2 ^ j / 2:=by rw[Nat.pow_succ,Nat.div_div_eq_div_mul]
 have ep:2 ^ (j+1)=2 ^ j * 2:=Nat.pow_succ 2 j
 have la:=Nat.div_le_self a (2 ^ j)
 have lb:=Nat.div_le_self b (2 ^ j)
 rw[hx]at hmd
 clear hx
 by_cases hje:j=14
 ·subst hje
  have hu:udpPort a b=49152+(a ^^^ b) % 2 ^ 14:=rfl
  rw[hu]
  generalize (a ^^^ b) % 2 ^ 14=r at *
  refine oF ?_
  (skip)
  refine iW ?_
  exact Aq E (.cons .tmp .nil) (congrArg (fun z:Int=>SV.val (.int .i64 z)) qn) E
 have hj14:j<14:=by omega
 generalize (a ^^^ b) % 2 ^ j=r0 at *
 generalize a / 2 ^ j=a0 at *
 generalize b / 2 ^ j=b0 at *
 generalize 2 ^ j=p0 at *
 have ta:((a0:Nat):Int).tmod 2=((a0 % 2:Nat):Int):=by rw[Int.tmod_eq_emod_of_nonneg qn];omega
 have tb:((b0:Nat):Int).tmod 2=((b0 % 2:Nat):Int):=by rw[Int.tmod_eq_emod_of_nonneg qn];omega
 have da:IntKind.u64.wrap (((a0:Nat):Int).tdiv 2)=((a0 / 2:Nat):Int):=by rw[Int.tdiv_eq_ediv_of_nonneg qn,IntKind.wrap_u64];omega
 have db:IntKind.u64.wrap (((b0:Nat):Int).tdiv 2)=((b0 / 2:Nat):Int):=by rw[Int.tdiv_eq_ediv_of_nonneg qn,IntKind.wrap_u64];omega
 refine oO ?_
 refine⟨fun _=>?_,fun h=>absurd (of_decide_eq_false h) qn⟩
 refine oO ?_
 refine⟨by decide,?_⟩
 conv=>whnf
 refine⟨by decide,?_⟩
 conv=>whnf
 refine⟨fun h=>?_,fun h=>?_⟩
 ·rw[ta,tb]at h
  have hne:a0 % 2≠b0 % 2:=by
   have:((a0 % 2:Nat):Int)≠((b0 % 2:Nat):Int):=by simpa using h
   omega
  rw[if_neg hne]at hmd
  refine oO ?_
  refine iW ?_
  refine⟨by decide,?_⟩
  conv=>whnf
  refine⟨by decide,?_⟩
  conv=>whnf
  refine iW ?_
  refine iW ?_
  refine An [] hj14 ⟨⟨congrArg (fun z:Int=>SV.val (.int .u64 z)) ?_,E,congrArg (fun z:Int=>SV.val (.int .u64 z)) ?_,E,congrArg (fun z:Int=>SV.val (.int .i64 z)) ?_,E,congrArg (fun z:Int=>SV.val (.int .i64 z)) ?_,E,E,E,Y⟩,Y,E,E⟩
  ·rw[da,ea]
  ·rw[db,eb]
  ·rw[hmd];omega
  ·rw[ep];omega
 ·rw[ta,tb]at h
  have hne:a0 % 2=b0 % 2:=by
   have:((a0 % 2:Nat):Int)=((b0 % 2:Nat):Int):=by simpa using h
   omega
  rw[if_pos hne]at hmd
  refine oO ?_
  refine⟨by decide,?_⟩
  conv=>whnf
  refine⟨by decide,?_⟩
  conv=>whnf
  refine iW ?_
  refine iW ?_
  refine An [] hj14 ⟨⟨congrArg (fun z:Int=>SV.val (.int .u64 z)) ?_,E,congrArg (fun z:Int=>SV.val (.int .u64 z)) ?_,E,congrArg (fun z:Int=>SV.val (.int .i64 z)) ?_,E,congrArg (fun z:Int=>SV.val (.int .i64 z)) ?_,E,E,E,Y⟩,Y,E,E⟩
  ·rw[da,ea]
  ·rw[db,eb]
  ·rw[hmd];omega
  ·rw[ep];omega
theorem Al3 (v:Int) (h:Mr v=true):Sy.Spec Tryz.prog 350 [Aa v] [] (.tup [.sl 1 Ag [],Aa 17]) []:=cT F350 Tryz.ntmps350 fun F hF=>by
 simp only[Mr,Bool.or_eq_true,decide_eq_true_eq]at h
 conv=>whnf
 refine⟨fun h1=>?_,fun h1=>?_⟩
 ·refine oT ?_
  refine Am 2 1 Ag E ?_
  exact dN
 refine oO ?_
 refine⟨fun h2=>?_,fun h2=>absurd (of_decide_eq_false h2) (by have:=of_decide_eq_false h1;omega)⟩
 refine oO ?_
 refine Am 2 1 Ag E ?_
 exact dN
theorem Afe {v:Int} (h:Mr v=false):1≤v∧v≤16777215:=by
 simp only[Mr,Bool.or_eq_false_iff,decide_eq_false_iff_not]at h
 omega
theorem An5 (k:Nat):(Iw k).map Ag=[SV.val (.int .u8 8),SV.val (.int .u8 0),SV.val (.int .u8 0),SV.val (.int .u8 0),SV.val (.int .u8 (IntKind.u8.wrap ((k:Int).fdiv (2 ^ (min (Int.toNat 16) IntKind.i64.bits))))),
  SV.val (.int .u8 (IntKind.u8.wrap ((k:Int).fdiv (2 ^ (min (Int.toNat 8) IntKind.i64.bits))))),SV.val (.int .u8 (IntKind.u8.wrap (k:Int))),SV.val (.int .u8 0)]:=by
 have h1:IntKind.u8.wrap ((k:Int).fdiv (2 ^ (min (Int.toNat 16) IntKind.i64.bits)))=((UInt8.ofNat (k / 65536)).toNat:Int):=by
  show IntKind.u8.wrap ((k:Int).fdiv 65536)=_
  rw[Int.fdiv_eq_ediv_of_nonneg _ qy,IntKind.wrap_u8]
  simp
 have h2:IntKind.u8.wrap ((k:Int).fdiv (2 ^ (min (Int.toNat 8) IntKind.i64.bits)))=((UInt8.ofNat (k / 256)).toNat:Int):=by
  show IntKind.u8.wrap ((k:Int).fdiv 256)=_
  rw[Int.fdiv_eq_ediv_of_nonneg _ qy,IntKind.wrap_u8]
  simp
 have h3:=At3 k
 rw[h1,h2,h3]
 rfl
theorem Akd (k:Nat) (hk:k≤16777215):(Iw k).map Ag=[SV.val (.int .u8 8),SV.val (.int .u8 0),SV.val (.int .u8 0),SV.val (.int .u8 0),SV.val (.int .u8 (IntKind.u8.wrap (IntKind.i64.wrap ((k:Int).tdiv 65536)))),
  SV.val (.int .u8 (IntKind.u8.wrap ((IntKind.i64.wrap ((k:Int).tdiv 256)).tmod 256))),SV.val (.int .u8 (IntKind.u8.wrap ((k:Int).tmod 256))),SV.val (.int .u8 0)]:=by
 have h1:IntKind.u8.wrap (IntKind.i64.wrap ((k:Int).tdiv 65536))=((UInt8.ofNat (k / 65536)).toNat:Int):=by
  rw[Int.tdiv_eq_ediv_of_nonneg qn,IntKind.wrap_u8,IntKind.wrap_i64]
  simp
  omega
 have e2:IntKind.i64.wrap ((k:Int).tdiv 256)=((k / 256:Nat):Int):=by rw[Int.tdiv_eq_ediv_of_nonneg qn,IntKind.wrap_i64];omega
 have h2:IntKind.u8.wrap ((IntKind.i64.wrap ((k:Int).tdiv 256)).tmod 256)=((UInt8.ofNat (k / 256)).toNat:Int):=by
  rw[e2,Int.tmod_eq_emod_of_nonneg qn,IntKind.wrap_u8]
  simp
 have h3:IntKind.u8.wrap ((k:Int).tmod 256)=((UInt8.ofNat k).toNat:Int):=by
  rw[Int.tmod_eq_emod_of_nonneg qn,IntKind.wrap_u8]
  simp
 rw[h1,h2,h3]
 rfl
theorem Aq5 (k:Nat) (h:1≤k∧k≤16777215):Sy.Spec Tryz.prog 350 [Aa k] [] (.tup [.osl 0,Aa 0]) [(0,.row 1 Ag (Iw k))]:=cT F350 Tryz.ntmps350 fun F hF=>by
 have hl:=An5 k
 conv=>whnf
 refine⟨fun h1=>absurd (of_decide_eq_true h1) qn,fun _=>?_⟩
 refine oO ?_
 refine⟨fun h1=>absurd (of_decide_eq_true h1) qn,fun _=>?_⟩
 refine oO ?_
 refine⟨by decide,?_⟩
 conv=>whnf
 refine⟨by decide,?_⟩
 conv=>whnf
 refine Ic 18 Ag (Iw k) E hl ?_
 exact done E (.cons .tmp (.cons .tmp .nil)) [(0,18)] [(0,.row 1 Ag (Iw k))] (fun _ h=>h) E E ⟨Y,⟨.inl E,E,Y⟩,E,E⟩
theorem Ad5 (v:Int) (h:Mr v=true):Sy.Spec Tryz.prog 367 [Aa v] [] (.tup [.sl 1 Ag [],Aa 17]) []:=cT F367 Tryz.ntmps367 fun F hF=>by
 simp only[Mr,Bool.or_eq_true,decide_eq_true_eq]at h
 conv=>whnf
 refine⟨fun h1=>?_,fun h1=>?_⟩
 ·refine oT ?_
  refine Am 2 1 Ag E ?_
  exact dN
 refine oO ?_
 refine⟨fun h2=>?_,fun h2=>absurd (of_decide_eq_false h2) (by have:=of_decide_eq_false h1;omega)⟩
 refine oO ?_
 refine Am 2 1 Ag E ?_
 exact dN
theorem Agf (k:Nat) (h:1≤k∧k≤16777215):Sy.Spec Tryz.prog 367 [Aa k] [] (.tup [.osl 0,Aa 0]) [(0,.row 1 Ag (Iw k))]:=cT F367 Tryz.ntmps367 fun F hF=>by
 have hl:=Akd k h.2
 conv=>whnf
 refine⟨fun h1=>absurd (of_decide_eq_true h1) qn,fun _=>?_⟩
 refine oO ?_
 refine⟨fun h1=>absurd (of_decide_eq_true h1) qn,fun _=>?_⟩
 refine oO ?_
 refine⟨by decide,?_⟩
 conv=>whnf
 refine⟨by decide,?_⟩
 conv=>whnf
 refine⟨by decide,?_⟩
 conv=>whnf
 refine⟨by decide,?_⟩
 conv=>whnf
 refine Ic 20 Ag (Iw k) E hl ?_
 exact done E (.cons .tmp (.cons .tmp .nil)) [(0,20)] [(0,.row 1 Ag (Iw k))] (fun _ h=>h) E E ⟨Y,⟨.inl E,E,Y⟩,E,E⟩
theorem Aom (a b:List UInt8):((⟨a.toArray⟩:ByteArray) == (⟨b.toArray⟩:ByteArray))=decide (a=b):=by
 have key:=Go.MapKept.bytes_beq (⟨a.toArray⟩:ByteArray) ⟨b.toArray⟩
 by_cases h:a=b
 ·subst h
  rw[decide_eq_true rfl]
  exact key.2 E
 ·rw[decide_eq_false h]
  cases hb:((⟨a.toArray⟩:ByteArray) == (⟨b.toArray⟩:ByteArray)) with
  | false=>rfl
  | true =>
   have:=congrArg (fun z:ByteArray=>z.data.toList) (key.1 hb)
   exact absurd (by simpa using this) h
theorem Ao5 (x y z:UInt8):bits .or .i64 (bits .or .i64 (IntKind.i64.wrap ((IntKind.i64.wrap (x.toNat:Int)) * 2 ^ min (Int.toNat 16) IntKind.i64.bits)) (IntKind.i64.wrap ((IntKind.i64.wrap (y.toNat:Int)) * 2 ^ min (Int.toNat 8) IntKind.i64.bits))) (IntKind.i64.wrap (z.toNat:Int))
  = (((x.toNat * 256+y.toNat) * 256+z.toNat:Nat):Int):=by
 have h1:=x.toNat_lt
 have h2:=y.toNat_lt
 have h3:=z.toNat_lt
 have e1:IntKind.i64.wrap (x.toNat:Int)=(x.toNat:Int):=by rw[IntKind.wrap_i64];omega
 have e2:IntKind.i64.wrap (y.toNat:Int)=(y.toNat:Int):=by rw[IntKind.wrap_i64];omega
 have e3:IntKind.i64.wrap (z.toNat:Int)=(z.toNat:Int):=by rw[IntKind.wrap_i64];omega
 rw[e1,e2,e3]
 have f1:IntKind.i64.wrap ((x.toNat:Int) * 2 ^ min (Int.toNat 16) IntKind.i64.bits)=((x.toNat * 65536:Nat):Int):=by
  show IntKind.i64.wrap ((x.toNat:Int) * 65536)=_
  rw[IntKind.wrap_i64]
  omega
 have f2:IntKind.i64.wrap ((y.toNat:Int) * 2 ^ min (Int.toNat 8) IntKind.i64.bits)=((y.toNat * 256:Nat):Int):=by
  show IntKind.i64.wrap ((y.toNat:Int) * 256)=_
  rw[IntKind.wrap_i64]
  omega
 rw[f1,f2,Dx _ _ qn qn]
 have g1:x.toNat * 65536 ||| y.toNat * 256=x.toNat * 65536+y.toNat * 256:=by
  have h:=Nat.two_pow_add_eq_or_of_lt (i:=16) (b:=y.toNat * 256) qn x.toNat
  rw[Nat.mul_comm x.toNat 65536]
  exact h.symm
 rw[g1,Dx _ _ qn qn]
 refine congrArg (fun n:Nat=>(n:Int)) ?_
 have h:256 * (x.toNat * 256+y.toNat)+z.toNat=256 * (x.toNat * 256+y.toNat) ||| z.toNat:=Nat.two_pow_add_eq_or_of_lt (i:=8) (b:=z.toNat) qn (x.toNat * 256+y.toNat)
 have e:x.toNat * 65536+y.toNat * 256=256 * (x.toNat * 256+y.toNat):=by omega
 rw[e,← h]
 omega
theorem Ao7 {b:List UInt8} (h:8≤b.length):b.take 8=[b[0]'qn,b[1]'qn,b[2]'qn,b[3]'qn,b[4]'qn,b[5]'qn,b[6]'qn,b[7]'qn]:=by
 have h1:=Yy (b:=b) (k:=0) qn
 have h2:=Yy (b:=b) (k:=4) qn
 have e:b.take 8=(b.drop 0).take 4++(b.drop 4).take 4:=by
  rw[List.drop_zero,← List.take_add]
 rw[e,h1,h2]
 rfl
theorem Aq4 {b:List UInt8} (h:8≤b.length):b.take 8=Iw (numAt b 4 3)↔((b[0]'qn)=8∧(b[1]'qn)=0∧(b[2]'qn)=0∧(b[3]'qn)=0∧(b[7]'qn)=0):=by
 have hn:=Ajq (show 4+3≤b.length by omega)
 have e5:b[4+1]'qn=b[5]'qn:=rfl
 have e6:b[4+2]'qn=b[6]'qn:=rfl
 rw[e5,e6]at hn
 rw[Ao7 h,Iw,hn]
 have h4:=(b[4]'qn).toNat_lt
 have h5:=(b[5]'qn).toNat_lt
 have h6:=(b[6]'qn).toNat_lt
 have k4:UInt8.ofNat ((((b[4]'qn).toNat * 256+(b[5]'qn).toNat) * 256+(b[6]'qn).toNat) / 65536)=b[4]'qn:=by
  apply UInt8.toNat_inj.1;rw[Ig];omega
 have k5:UInt8.ofNat ((((b[4]'qn).toNat * 256+(b[5]'qn).toNat) * 256+(b[6]'qn).toNat) / 256)=b[5]'qn:=by
  apply UInt8.toNat_inj.1;rw[Ig];omega
 have k6:UInt8.ofNat (((b[4]'qn).toNat * 256+(b[5]'qn).toNat) * 256+(b[6]'qn).toNat)=b[6]'qn:=by
  apply UInt8.toNat_inj.1;rw[Ig];omega
 rw[k4,k5,k6]
 simp
theorem vniS (b:List UInt8) (hb:b.length<100000):Sy.Spec Tryz.prog 382 [.sl 1 Ag b] [] (.tup [Aa (vniT b).1,.sl 1 Ag (vniT b).2.1,Aa (vniT b).2.2]) []:=cT F382 Tryz.ntmps382 fun F hF=>by
 have hres:=vniT.eq_1 b
 generalize vniT b=res at *
 conv=>whnf
 refine⟨fun h=>?_,fun h=>?_⟩
 ·rw[if_pos (qA h)]at hres
  subst hres
  refine oO ?_
  refine Am 3 1 Ag E ?_
  exact dN
 have h8:8≤b.length:=qB h
 rw[if_neg qn]at hres
 clear h
 have i4:(4:Int).toNat<b.length:=by show 4<_;omega
 have i5:(5:Int).toNat<b.length:=by show 5<_;omega
 have i6:(6:Int).toNat<b.length:=by show 6<_;omega
 have hv:bits .or .i64 (bits .or .i64 (IntKind.i64.wrap ((IntKind.i64.wrap ((b[(4:Int).toNat]'i4).toNat:Int)) * 2 ^ min (Int.toNat 16) IntKind.i64.bits)) (IntKind.i64.wrap ((IntKind.i64.wrap ((b[(5:Int).toNat]'i5).toNat:Int)) * 2 ^ min (Int.toNat 8) IntKind.i64.bits))) (IntKind.i64.wrap ((b[(6:Int).toNat]'i6).toNat:Int))
   = (numAt b 4 3:Int):=by
  rw[Ao5,Ajq (show 4+3≤b.length by omega)]
  rfl
 have hvl:=Hu b 4 3
 refine oO ?_
 refine⟨E,by decide,i4,?_⟩
 conv=>whnf
 refine⟨by decide,?_⟩
 conv=>whnf
 refine⟨E,by decide,i5,?_⟩
 conv=>whnf
 refine⟨by decide,?_⟩
 conv=>whnf
 refine⟨E,by decide,i6,?_⟩
 conv=>whnf
 refine⟨qq,?_⟩
 rw[hv]
 generalize hvv:numAt b 4 3=v at *
 conv=>whnf
 by_cases h0:v=0
 ·rw[if_pos (.inl h0)]at hres
  subst hres
  have q:=Al3 v (by rw[h0];decide)
  refine c0 q F350 ?_
  (refine rg ?_;(conv=>whnf);refine aT ?_;refine oD ?_)
  refine⟨qq,?_⟩
  ((conv=>whnf);refine aT ?_;refine rg ?_;conv=>whnf)
  refine Am 3 1 Ag E ?_
  exact dN
 have q:=Aq5 v qn
 refine Ad (Af [(0,55)] E F350 q E Y E ⟨.inr E,Y⟩) E E ?_
 refine Ao 55 E ?_
 (refine rg ?_;(conv=>whnf);refine aF ?_;refine oD ?_)
 refine Bd (Kg Γ.toTy (bs:=Iw v) E E E E E E E .sl) qq E ?_
 refine oD ?_
 refine Bd (Be (lo:=0) (hi:=8) Γ.toTy E E E E (.inl ⟨E,E⟩) (.inr ⟨_,_,E,E⟩) qn h8) qq E ?_
 refine oD ?_
 refine Bd (Kg Γ.toTy (bs:=b.take 8) E E E E E E E .sl) qq E ?_
 refine oD ?_
 refine kW ?_
 have hbe:=Aom (Iw v) (b.take 8)
 rw[hbe]
 by_cases he:b.take 8=Iw v
 rotate_left
 ·rw[if_pos (.inr he)]at hres
  subst hres
  rw[decide_eq_false (fun e=>he e.symm)]
  refine⟨fun _=>?_,fun h=>absurd h qy⟩
  refine oO ?_
  refine Am 3 1 Ag E ?_
  exact dN
 rw[if_neg (fun h=>h.elim h0 (fun h2=>h2 he))]at hres
 subst hres
 rw[decide_eq_true he.symm]
 have etk:(b.take b.length).drop 8=b.drop 8:=by rw[List.take_length]
 refine⟨fun h=>absurd h qy,fun _=>?_⟩
 refine oO ?_
 refine Ad (Be (lo:=8) (hi:=b.length) Γ.toTy E E E E (.inr ⟨_,_,E,E⟩) (.inl ⟨E,E⟩) h8 (Nat.le_refl _)) E E ?_
 refine oO ?_
 refine Ad (Ac Γ.toTy 45 E E E E E .nil .sl qz (by simp;omega) (by simp;omega)) E E ?_
 refine Ao 45 E ?_
 refine oO ?_
 refine Aq E (.cons .tmp (.cons .tmp (.cons .tmp .nil))) ?_ E
 show SV.tup [_,.sl 1 Ag (b.drop 8),_]=SV.tup [_,.sl 1 Ag ([]++(b.take b.length).drop 8),_]
 rw[etk]
 rfl
theorem Ang (b:List UInt8) (hb:b.length<100000):Sy.Spec Tryz.prog 371 [.sl 1 Ag b] [] (.tup [Aa (vniT b).1,.sl 1 Ag (vniT b).2.1,Aa (vniT b).2.2]) []:=cT F371 Tryz.ntmps371 fun F hF=>by
 have hres:=vniT.eq_1 b
 generalize vniT b=res at *
 conv=>whnf
 refine⟨fun h=>?_,fun h=>?_⟩
 ·rw[if_pos (qA h)]at hres
  subst hres
  refine oO ?_
  refine Am 3 1 Ag E ?_
  exact dN
 have h8:8≤b.length:=qB h
 rw[if_neg qn]at hres
 clear h
 have hi:=Aq4 h8
 have i0:(0:Int).toNat<b.length:=by show 0<_;omega
 have i1:(1:Int).toNat<b.length:=by show 1<_;omega
 have i2:(2:Int).toNat<b.length:=by show 2<_;omega
 have i3:(3:Int).toNat<b.length:=by show 3<_;omega
 have i4:(4:Int).toNat<b.length:=by show 4<_;omega
 have i5:(5:Int).toNat<b.length:=by show 5<_;omega
 have i6:(6:Int).toNat<b.length:=by show 6<_;omega
 have i7:(7:Int).toNat<b.length:=by show 7<_;omega
 have hvn:=Ajq (show 4+3≤b.length by omega)
 have e5:b[4+1]'qn=b[5]'qn:=rfl
 have e6:b[4+2]'qn=b[6]'qn:=rfl
 rw[e5,e6]at hvn
 have w:∀ x:UInt8,IntKind.i64.wrap (x.toNat:Int)=x.toNat∧x.toNat<256:=fun x=>by have:=x.toNat_lt;refine⟨?_,this⟩;rw[IntKind.wrap_i64];omega
 obtain ⟨w4,l4⟩:=w (b[4]'qn)
 obtain ⟨w5,l5⟩:=w (b[5]'qn)
 obtain ⟨w6,l6⟩:=w (b[6]'qn)
 have g0:b[(0:Int).toNat]'i0=b[0]'qn:=rfl
 have g1:b[(1:Int).toNat]'i1=b[1]'qn:=rfl
 have g2:b[(2:Int).toNat]'i2=b[2]'qn:=rfl
 have g3:b[(3:Int).toNat]'i3=b[3]'qn:=rfl
 have g4:b[(4:Int).toNat]'i4=b[4]'qn:=rfl
 have g5:b[(5:Int).toNat]'i5=b[5]'qn:=rfl
 have g6:b[(6:Int).toNat]'i6=b[6]'qn:=rfl
 have g7:b[(7:Int).toNat]'i7=b[7]'qn:=rfl
 have iz:∀ x:UInt8,(x.toNat:Int)≠0→¬ x=0:=fun x h e=>h (by rw[e];rfl)
 have iy:∀ x:UInt8,(x.toNat:Int)=0→x=0:=fun x h=>by apply UInt8.toNat_inj.1;show x.toNat=0;omega
 generalize b[0]'qn=x0 at *
 generalize b[1]'qn=x1 at *
 generalize b[2]'qn=x2 at *
 generalize b[3]'qn=x3 at *
 generalize b[4]'qn=x4 at *
 generalize b[5]'qn=x5 at *
 generalize b[6]'qn=x6 at *
 generalize b[7]'qn=x7 at *
 have hvv:(x4.toNat:Int) * 65536+(x5.toNat:Int) * 256+(x6.toNat:Int)=(numAt b 4 3:Int):=by rw[hvn];omega
 have hvl:=Hu b 4 3
 refine oO ?_
 refine⟨E,by decide,i4,?_⟩
 rw[g4]
 conv=>whnf
 rw[w4]
 refine iW ?_
 refine⟨E,by decide,i5,?_⟩
 rw[g5]
 conv=>whnf
 rw[w5]
 refine iW ?_
 refine iW ?_
 refine⟨E,by decide,i6,?_⟩
 rw[g6]
 conv=>whnf
 rw[w6]
 refine iL ?_
 rw[hvv]
 generalize numAt b 4 3=v at *
 conv=>whnf
 refine kW ?_
 refine⟨E,by decide,i0,?_⟩
 rw[g0]
 conv=>whnf
 refine⟨fun h=>?_,fun h=>?_⟩
 ·have hne:¬ x0=8:=fun e=>by rw[e]at h;revert h;decide
  rw[if_pos (.inr (fun e=>hne (hi.1 e).1))]at hres
  subst hres
  (refine oT ?_;refine bT ?_;refine bT ?_;refine bT ?_;refine bT ?_)
  refine Am 3 1 Ag E ?_
  exact dN
 have c0:x0=8:=by
  have h2:(x0.toNat:Int)=8:=by simpa using h
  apply UInt8.toNat_inj.1;show x0.toNat=8;omega
 clear h
 refine oO ?_
 refine⟨E,by decide,i1,?_⟩
 rw[g1]
 conv=>whnf
 refine⟨fun h=>?_,fun h=>?_⟩
 ·rw[if_pos (.inr (fun e=>iz x1 (by simpa using h) (hi.1 e).2.1))]at hres
  subst hres
  (refine oT ?_;refine bT ?_;refine bT ?_;refine bT ?_)
  refine Am 3 1 Ag E ?_
  exact dN
 have c1:=iy x1 (by simpa using h)
 clear h
 refine oO ?_
 refine⟨E,by decide,i2,?_⟩
 rw[g2]
 conv=>whnf
 refine⟨fun h=>?_,fun h=>?_⟩
 ·rw[if_pos (.inr (fun e=>iz x2 (by simpa using h) (hi.1 e).2.2.1))]at hres
  subst hres
  (refine oT ?_;refine bT ?_;refine bT ?_)
  refine Am 3 1 Ag E ?_
  exact dN
 have c2:=iy x2 (by simpa using h)
 clear h
 refine oO ?_
 refine⟨E,by decide,i3,?_⟩
 rw[g3]
 conv=>whnf
 refine⟨fun h=>?_,fun h=>?_⟩
 ·rw[if_pos (.inr (fun e=>iz x3 (by simpa using h) (hi.1 e).2.2.2.1))]at hres
  subst hres
  (refine oT ?_;refine bT ?_)
  refine Am 3 1 Ag E ?_
  exact dN
 have c3:=iy x3 (by simpa using h)
 clear h
 refine oO ?_
 refine⟨E,by decide,i7,?_⟩
 rw[g7]
 conv=>whnf
 refine⟨fun h=>?_,fun h=>?_⟩
 ·rw[if_pos (.inr (fun e=>iz x7 (by simpa using h) (hi.1 e).2.2.2.2))]at hres
  subst hres
  refine oT ?_
  refine Am 3 1 Ag E ?_
  exact dN
 have c7:=iy x7 (by simpa using h)
 clear h
 have he:=hi.2 ⟨c0,c1,c2,c3,c7⟩
 refine oO ?_
 refine⟨fun h=>?_,fun h=>?_⟩
 ·rw[if_pos (.inl (by have:(v:Int)=0:=(by simpa using h);omega))]at hres
  subst hres
  refine oO ?_
  refine Am 3 1 Ag E ?_
  exact dN
 have h0:¬ v=0:=by
  have:¬ (v:Int)=0:=by simpa using h
  omega
 rw[if_neg (fun h=>h.elim h0 (fun h2=>h2 he))]at hres
 subst hres
 have etk:(b.take b.length).drop 8=b.drop 8:=by rw[List.take_length]
 refine oO ?_
 refine Ad (Be (lo:=8) (hi:=b.length) Γ.toTy E E E E (.inr ⟨_,_,E,E⟩) (.inl ⟨E,E⟩) h8 (Nat.le_refl _)) E E ?_
 refine oO ?_
 refine Ad (Ac Γ.toTy 61 E E E E E (.lit (e:=Ag) (l:=[]) E E) .sl qz (by simp;omega) (by simp;omega)) E E ?_
 refine Ao 61 E ?_
 refine oO ?_
 refine Aq E (.cons .tmp (.cons .tmp (.cons .tmp .nil))) ?_ E
 show SV.tup [_,.sl 1 Ag (b.drop 8),_]=SV.tup [_,.sl 1 Ag ([]++(b.take b.length).drop 8),_]
 rw[etk]
 rfl
theorem Xj (a c v:Nat) (f:FrameM) (h:f.body.length≤1450):ipPutT (Ou a c v f)=(U8 (Ou a c v f),0):=by
 rw[ipPutT,if_neg (by rw[Io];omega)]
theorem Yw (a b:Nat):udpPort a b≤65535:=by
 have:=Nat.mod_lt (a ^^^ b) (show 0<16384 by decide)
 unfold udpPort
 omega
theorem Ago (a c v:Nat) (f:FrameM) (ha:a<4294967296) (hc:c<4294967296) (h:f.body.length≤1450):FrameOK ⟨Ec c,Ec a,2048,U8 (Ou a c v f)⟩ :=
 ⟨Aah c hc,Aah a ha,by show (2048:Nat)≤65535;decide,by show (U8 (Ou a c v f)).length≤1504;rw[Qh,Io];omega⟩
theorem Asf (a c:Nat) (v:Int) (f:FrameM) (ha:a<4294967296) (hc:c<4294967296) (hf:FrameOK f) :
  Sy.Spec Tryz.prog 303 [B4 a,B4 c,Aa v,Bc f] [] (.tup [.sl 1 Ag (wrapT a c v f).1,Aa (wrapT a c v f).2]) []:=cT F303 Tryz.ntmps303 fun F hF=>by
 have hres:=wrapT.eq_1 a c v f
 generalize wrapT a c v f=res at *
 have q0:=Q4 f
 have hd:=hf.dst
 have hs:=hf.src
 have hb:=hf.body
 have hpl:=Ie f
 conv=>whnf
 refine A3 7 4 (Bc f) E E E ?_
 by_cases ht:f.typ=33024
 ·rw[if_pos ht]at hres
  subst hres
  rw[decide_eq_true ht]at q0
  refine oO ?_
  refine c0 q0 F182 ?_
  refine oT ?_
  refine Am 8 1 Ag E ?_
  exact dN
 rw[if_neg ht]at hres
 rw[decide_eq_false ht]at q0
 refine oO ?_
 refine c0 q0 F182 ?_
 refine oF ?_
 refine Ad (Af [(0,55)] E F45 (Si f hf) E Y E ⟨.inr E,Y⟩) E E ?_
 refine Ao 55 E ?_
 refine oF ?_
 cases hv:Mr v
 rotate_left
 ·rw[if_pos hv]at hres
  subst hres
  refine c0 (Al3 v hv) F350 ?_
  refine oT ?_
  refine Am 8 1 Ag E ?_
  exact dN
 rw[if_neg (by rw[hv];decide)]at hres
 have hvg:=Afe hv
 obtain ⟨k,rfl⟩:=Int.eq_ofNat_of_zero_le (show 0≤v by omega)
 rw[Int.toNat_natCast]at hres
 refine Ad (Af [(0,56)] E F350 (Aq5 k qn) E Y E ⟨.inr E,Y⟩) E E ?_
 refine oF ?_
 refine⟨fun h=>?_,fun h=>?_⟩
 ·rw[if_pos (qA h)]at hres
  subst hres
  refine oO ?_
  refine Am 8 1 Ag E ?_
  exact dN
 have hl:f.body.length≤1450:=qB h
 rw[if_neg qn]at hres
 subst hres
 clear h
 have qp:=Ao3 f.dst f.src qn qn
 have hpo:=Yw f.dst f.src
 have qu:=Ash (udpPort f.dst f.src) 4789 (Iw k++X1 f) hpo qy (by rw[List.length_append,Er,hpl];omega)
 have hwb:(Ou a c k f).body=Afo (udpPort f.dst f.src) 4789 (Iw k++X1 f):=rfl
 have qi:=Al0 (Ou a c k f) (Afb a c k f ha hc) (by rw[Io];omega)
 rw[Xj a c k f hl]at qi
 have qe:=Si _ (Ago a c k f ha hc hl)
 refine oO ?_
 refine c0 qp F352 ?_
 refine oO ?_
 refine Ad (Ac Γ.toTy 46 E E E E E (.row E) .sl qy (by rw[Er,hpl];simp;omega) (by rw[Er,hpl];omega)) E E ?_
 refine Ao 46 E ?_
 refine oO ?_
 refine c0 qu F351 ?_
 refine oO ?_
 refine c0 qi F43 ?_
 refine oO ?_
 refine c0 (Ac6 c hc) F44 ?_
 refine oO ?_
 refine c0 (Ac6 a ha) F44 ?_
 refine oO ?_
 refine Ad (Af [(0,57)] E F45 qe E Y E ⟨.inr E,Y⟩) E E ?_
 refine Ao 57 E ?_
 refine oO ?_
 exact dN
theorem Ai4 (a c:Nat) (v:Int) (f:FrameM) (ha:a<4294967296) (hc:c<4294967296) (hf:FrameOK f) :
  Sy.Spec Tryz.prog 321 [B4 a,B4 c,Aa v,Bc f] [] (.tup [.sl 1 Ag (wrapT a c v f).1,Aa (wrapT a c v f).2]) []:=cT F321 Tryz.ntmps321 fun F hF=>by
 have hres:=wrapT.eq_1 a c v f
 generalize wrapT a c v f=res at *
 have hd:=hf.dst
 have hs:=hf.src
 have hb:=hf.body
 have hpl:=Ie f
 conv=>whnf
 refine⟨fun h=>?_,fun h=>?_⟩
 ·rw[if_pos (by have:(f.typ:Int)=33024:=(by simpa using h);omega)]at hres
  subst hres
  refine oO ?_
  refine Am 8 1 Ag E ?_
  exact dN
 rw[if_neg (by have:¬ (f.typ:Int)=33024:=(by simpa using h);omega)]at hres
 clear h
 refine A3 7 4 (Bc f) E E E ?_
 refine oO ?_
 refine Ad (Af [(0,55)] E F49 (Q9 f hf) E Y E ⟨.inr E,Y⟩) E E ?_
 refine Ao 55 E ?_
 refine oF ?_
 cases hv:Mr v
 rotate_left
 ·rw[if_pos hv]at hres
  subst hres
  refine c0 (Ad5 v hv) F367 ?_
  refine oT ?_
  refine Am 8 1 Ag E ?_
  exact dN
 rw[if_neg (by rw[hv];decide)]at hres
 have hvg:=Afe hv
 obtain ⟨k,rfl⟩:=Int.eq_ofNat_of_zero_le (show 0≤v by omega)
 rw[Int.toNat_natCast]at hres
 refine Ad (Af [(0,56)] E F367 (Agf k qn) E Y E ⟨.inr E,Y⟩) E E ?_
 refine oF ?_
 refine⟨fun h=>?_,fun h=>?_⟩
 ·rw[if_pos (qA h)]at hres
  subst hres
  refine oO ?_
  refine Am 8 1 Ag E ?_
  exact dN
 have hl:f.body.length≤1450:=qB h
 rw[if_neg qn]at hres
 subst hres
 clear h
 have qp:=Ai6 f.dst f.src qn qn
 have hpo:=Yw f.dst f.src
 have qu:=Anh (udpPort f.dst f.src) 4789 (Iw k++X1 f) hpo qy (by rw[List.length_append,Er,hpl];omega)
 have qi:=Acj (Ou a c k f) (Afb a c k f ha hc) (by rw[Io];omega)
 rw[Xj a c k f hl]at qi
 have qe:=Q9 _ (Ago a c k f ha hc hl)
 refine oO ?_
 refine c0 qp F369 ?_
 refine oO ?_
 refine Ad (Ac Γ.toTy 47 E E E E E (.row E) .sl qy (by rw[Er,hpl];simp;omega) (by rw[Er,hpl];omega)) E E ?_
 refine Ao 47 E ?_
 refine oO ?_
 refine c0 qu F368 ?_
 refine oO ?_
 refine c0 qi F48 ?_
 refine oO ?_
 refine c0 (Ma c hc) F47 ?_
 refine oO ?_
 refine c0 (Ma a ha) F47 ?_
 refine oO ?_
 refine Ad (Af [(0,57)] E F49 qe E Y E ⟨.inr E,Y⟩) E E ?_
 refine Ao 57 E ?_
 refine oO ?_
 exact dN
def Dt (p:PacketM) (v e:Int):List SV:=[Aa p.tos,Aa p.id,Aa p.ttl,Aa p.proto,B4 p.src,B4 p.dst,.sl 1 Ag p.body,Aa v,Aa e]
def C5 (is:Bool) (re e:Int):Int:=if is=true∧re=0 then e else re
theorem Vk (p:PacketM) (v re:Int) (is:Bool) (e:Int):Sy.Spec Tryz.prog 380 [.ptr 0 0,Ab is,Aa e] [(0,.box (Dt p v re))] (.tup []) [(0,.box (Dt p v (C5 is re e)))]:=cT F380 Tryz.ntmps380 fun F hF=>by
 cases is
 ·have h:C5 false re e=re:=by simp[C5]
  rw[h]
  ((conv=>whnf);refine aF ?_;refine rg ?_;(conv=>whnf);refine aF ?_;refine rg ?_;conv=>whnf)
  exact B3 E .nil [] [(0,.box (Dt p v re))] (fun _ h=>h) E E ⟨Y,⟨.inl E,E,Y⟩,E,E⟩
 ·((conv=>whnf);refine aT ?_;refine rg ?_;conv=>whnf)
  refine⟨fun h=>?_,fun h=>?_⟩
  ·have h2:C5 true re e=e:=by show (if true=true∧re=0 then e else re)=e;rw[if_pos ⟨rfl,by simpa using h⟩]
   rw[h2]
   refine oO ?_
   exact B3 E .nil [] [(0,.box (Dt p v e))] (fun _ h=>h) E E ⟨Y,⟨.inl E,E,Y⟩,E,E⟩
  ·have h2:C5 true re e=re:=by
    show (if true=true∧re=0 then e else re)=re
    rw[if_neg (fun h3=>by
     have h4:¬ re=0:=by simpa using h
     exact h4 h3.2)]
   rw[h2]
   refine oO ?_
   exact B3 E .nil [] [(0,.box (Dt p v re))] (fun _ h=>h) E E ⟨Y,⟨.inl E,E,Y⟩,E,E⟩
theorem Ast (b:List UInt8) (hb:b.length<100000):Sy.Spec Tryz.prog 357 [.ptr 0 0,.sl 1 Ag b] [(0,.box (Dt noP 0 0))] (.tup []) [(0,.box (Dt (outerT b).1 0 (outerT b).2))]:=cT F357 Tryz.ntmps357 fun F hF=>by
 have hres:=outerT.eq_1 b
 generalize outerT b=res at *
 have q1:=Tz b hb
 have hbad:=@takeF_bad b
 have hok:=@Afp b
 generalize takeF b=tk at *
 obtain ⟨f,e⟩:=tk
 dsimp only at hres q1 hbad hok
 conv=>whnf
 refine c0 q1 F121 ?_
 refine oO ?_
 refine Ad (Af [(0,0)] E F380 (Vk noP 0 0 true e) E ⟨E,Y⟩ E ⟨.inl E,Y⟩) E E ?_
 rw[show C5 true 0 e=e by simp[C5]]
 refine oO ?_
 refine Ad (Af [(0,0)] E F380 (Vk noP 0 e ((f.typ:Int) != 2048) 11) E ⟨E,Y⟩ E ⟨.inl E,Y⟩) E E ?_
 by_cases he:e=0
 rotate_left
 ·rw[if_pos he]at hres
  subst hres
  rw[show C5 ((f.typ:Int) != 2048) e 11=e by simp[C5,he]]
  refine oO ?_
  refine⟨fun h=>absurd (show e=0 by simpa using h) he,fun _=>?_⟩
  refine oO ?_
  exact B3 E .nil [] [(0,.box (Dt noP 0 e))] (fun _ h=>h) E E ⟨Y,⟨.inl E,E,Y⟩,E,E⟩
 subst he
 rw[if_neg qz]at hres
 by_cases ht:f.typ=2048
 rotate_left
 ·rw[if_pos ht]at hres
  subst hres
  have hb2:((f.typ:Int) != 2048)=true:=by simp;omega
  rw[hb2,show C5 true 0 11=11 by simp[C5]]
  refine oF ?_
  exact B3 E .nil [] [(0,.box (Dt noP 0 11))] (fun _ h=>h) E E ⟨Y,⟨.inl E,E,Y⟩,E,E⟩
 rw[if_neg (fun h=>h ht)]at hres
 have hb2:((f.typ:Int) != 2048)=false:=by simp;omega
 rw[hb2,show C5 false 0 11=0 by simp[C5]]
 have hfb:=(hok rfl).body
 have q2:=Alz f.body qn
 have hib:=@Aua f.body
 generalize ipTakeT f.body=ip at *
 obtain ⟨p,e2⟩:=ip
 dsimp only at hres q2 hib
 refine oT ?_
 refine c0 q2 F297 ?_
 refine oO ?_
 refine Ad (Af [(0,0)] E F380 (Vk p 0 0 true e2) E ⟨E,Y⟩ E ⟨.inl E,Y⟩) E E ?_
 rw[show C5 true 0 e2=e2 by simp[C5]]
 refine oO ?_
 refine Ad (Af [(0,0)] E F380 (Vk p 0 e2 ((p.proto:Int) != 17) 11) E ⟨E,Y⟩ E ⟨.inl E,Y⟩) E E ?_
 have hfin:res=(p,C5 ((p.proto:Int) != 17) e2 11):=by
  by_cases h2:e2=0
  ·subst h2
   rw[if_neg qz]at hres
   rw[hres]
   simp only[C5]
   by_cases h3:p.proto=17
   ·rw[if_neg (by simp[h3]),if_neg (by simp[h3])]
   ·rw[if_pos h3,if_pos (by simp;omega)]
  ·rw[if_pos h2]at hres
   rw[hres,hib h2,show C5 ((noP.proto:Int) != 17) e2 11=e2 by simp[C5,h2]]
 rw[hfin]
 refine oO ?_
 exact B3 E .nil [] [(0,.box (Dt p 0 (C5 ((p.proto:Int) != 17) e2 11)))] (fun _ h=>h) E E ⟨Y,⟨.inl E,E,Y⟩,E,E⟩
def frameT (p:PacketM) (e:Int):FrameM × Int × Int :=
 if e≠0 then (noF,0,e) else if (udpTakeT p.body).2.2.2≠0 then (noF,0,(udpTakeT p.body).2.2.2) else if (udpTakeT p.body).2.1≠4789 then (noF,0,11)
 else if (vniT (udpTakeT p.body).2.2.1).2.2≠0 then (noF,(vniT (udpTakeT p.body).2.2.1).1,(vniT (udpTakeT p.body).2.2.1).2.2)
 else ((takeF (vniT (udpTakeT p.body).2.2.1).2.1).1,(vniT (udpTakeT p.body).2.2.1).1,
  if (takeF (vniT (udpTakeT p.body).2.2.1).2.1).2≠0 then (takeF (vniT (udpTakeT p.body).2.2.1).2.1).2 else if (takeF (vniT (udpTakeT p.body).2.2.1).2.1).1.typ=33024 then 15 else 0)
theorem frameS (p:PacketM) (e:Int) (hb:p.body.length<100000):Sy.Spec Tryz.prog 358 [.ptr 0 0] [(0,.box (Dt p 0 e))] (Bc (frameT p e).1) [(0,.box (Dt p (frameT p e).2.1 (frameT p e).2.2))]:=cT F358 Tryz.ntmps358 fun F hF=>by
 have hres:=frameT.eq_1 p e
 generalize frameT p e=res at *
 have q1:=Ao2 p.body hb
 have hul:=@Asb p.body
 generalize udpTakeT p.body=u at *
 obtain ⟨u1,u2,u3,u4⟩:=u
 dsimp only at hres q1 hul
 have q2:=vniS u3 qn
 have hvl:=@vniT_body u3
 generalize vniT u3=w at *
 obtain ⟨w1,w2,w3⟩:=w
 dsimp only at hres q2 hvl
 have q3:=Tz w2 qn
 have hbad:=@takeF_bad w2
 generalize takeF w2=t at *
 obtain ⟨f,t2⟩:=t
 dsimp only at hres q3 hbad
 conv=>whnf
 refine⟨fun h=>?_,fun h=>?_⟩
 ·rw[if_pos (by simpa using h)]at hres
  subst hres
  refine oO ?_
  refine Ar 2 zF E (.cons (.refl _) (.cons (.refl _) (.cons (.refl _) (.cons .nil .nil)))) ?_
  exact done E (.cons (.cell E E E E) .nil) [] [(0,.box (Dt p 0 e))] (fun _ h=>h) E E ⟨Y,⟨.inl E,E,Y⟩,E,E⟩
 have he:e=0:=by simpa using h
 clear h
 subst he
 rw[if_neg qz]at hres
 refine oO ?_
 refine c0 q1 F381 ?_
 refine oO ?_
 refine Ad (Af [(0,0)] E F380 (Vk p 0 0 true u4) E ⟨E,Y⟩ E ⟨.inl E,Y⟩) E E ?_
 rw[show C5 true 0 u4=u4 by simp[C5]]
 refine oO ?_
 refine Ad (Af [(0,0)] E F380 (Vk p 0 u4 (u2 != 4789) 11) E ⟨E,Y⟩ E ⟨.inl E,Y⟩) E E ?_
 by_cases h4:u4=0
 rotate_left
 ·rw[if_pos h4]at hres
  subst hres
  rw[show C5 (u2 != 4789) u4 11=u4 by simp[C5,h4]]
  refine oO ?_
  refine⟨fun h=>absurd (show u4=0 by simpa using h) h4,fun _=>?_⟩
  refine oO ?_
  refine⟨fun _=>?_,fun h=>absurd (show u4=0 by simpa using h) h4⟩
  refine oO ?_
  refine Ar 2 zF E (.cons (.refl _) (.cons (.refl _) (.cons (.refl _) (.cons .nil .nil)))) ?_
  exact done E (.cons (.cell E E E E) .nil) [] [(0,.box (Dt p 0 u4))] (fun _ h=>h) E E ⟨Y,⟨.inl E,E,Y⟩,E,E⟩
 subst h4
 rw[if_neg qz]at hres
 by_cases h2:u2=4789
 rotate_left
 ·rw[if_pos h2]at hres
  subst hres
  rw[show C5 (u2 != 4789) 0 11=11 by simp[C5,h2]]
  (refine oF ?_;refine bT ?_)
  refine Ar 2 zF E (.cons (.refl _) (.cons (.refl _) (.cons (.refl _) (.cons .nil .nil)))) ?_
  exact done E (.cons (.cell E E E E) .nil) [] [(0,.box (Dt p 0 11))] (fun _ h=>h) E E ⟨Y,⟨.inl E,E,Y⟩,E,E⟩
 rw[if_neg (fun h=>h h2)]at hres
 rw[show C5 (u2 != 4789) 0 11=0 by simp[C5,h2]]
 refine oT ?_
 refine c0 q2 F382 ?_
 refine oO ?_
 refine Ad (Af [(0,0)] E F380 (Vk p w1 0 true w3) E ⟨E,Y⟩ E ⟨.inl E,Y⟩) E E ?_
 rw[show C5 true 0 w3=w3 by simp[C5]]
 refine oO ?_
 refine⟨fun h=>?_,fun h=>?_⟩
 ·rw[if_pos (by simpa using h)]at hres
  subst hres
  refine oO ?_
  refine Ar 2 zF E (.cons (.refl _) (.cons (.refl _) (.cons (.refl _) (.cons .nil .nil)))) ?_
  exact done E (.cons (.cell E E E E) .nil) [] [(0,.box (Dt p w1 w3))] (fun _ h=>h) E E ⟨Y,⟨.inl E,E,Y⟩,E,E⟩
 have h3:w3=0:=by simpa using h
 clear h
 subst h3
 rw[if_neg qz]at hres
 refine oO ?_
 refine c0 q3 F121 ?_
 refine oO ?_
 refine Ad (Af [(0,0)] E F380 (Vk p w1 0 true t2) E ⟨E,Y⟩ E ⟨.inl E,Y⟩) E E ?_
 rw[show C5 true 0 t2=t2 by simp[C5]]
 refine oO ?_
 refine c0 (Q4 f) F182 ?_
 refine oO ?_
 refine Ad (Af [(0,0)] E F380 (Vk p w1 t2 (decide (f.typ=33024)) 15) E ⟨E,Y⟩ E ⟨.inl E,Y⟩) E E ?_
 have hfin:C5 (decide (f.typ=33024)) t2 15=if t2≠0 then t2 else if f.typ=33024 then 15 else 0:=by
  by_cases k1:t2=0
  ·subst k1
   rw[if_neg qz]
   by_cases k2:f.typ=33024<;>simp[C5,k2]
  ·rw[if_pos k1]
   simp[C5,k1]
 rw[← hfin]at hres
 subst hres
 refine oO ?_
 exact done E (.cons (.cell E E E E) .nil) [] [(0,.box (Dt p w1 (C5 (decide (f.typ=33024)) t2 15)))] (fun _ h=>h) E E ⟨Y,⟨.inl E,E,Y⟩,E,E⟩
theorem Ado (b:List UInt8):unwrapT b=if (frameT (outerT b).1 (outerT b).2).2.2≠0 then (0,0,0,noF,(frameT (outerT b).1 (outerT b).2).2.2)
  else ((outerT b).1.src,(outerT b).1.dst,(frameT (outerT b).1 (outerT b).2).2.1,(frameT (outerT b).1 (outerT b).2).1,0):=by
 unfold unwrapT
 generalize outerT b=o
 obtain ⟨p,e⟩:=o
 dsimp only
 by_cases he:e=0
 rotate_left
 ·rw[if_pos he]
  have h1:frameT p e=(noF,0,e):=by rw[frameT,if_pos he]
  rw[h1,if_pos he]
 subst he
 rw[if_neg qz]
 unfold innerT frameT
 rw[if_neg (show ¬ (0:Int)≠0 by simp)]
 generalize udpTakeT p.body=u
 obtain ⟨u1,u2,u3,u4⟩:=u
 dsimp only
 by_cases h4:u4=0
 rotate_left
 ·rw[if_pos h4,if_pos h4,if_pos h4]
  dsimp only
  rw[if_pos h4]
 subst h4
 simp only[ne_eq,not_true_eq_false,if_false]
 by_cases h2:u2=4789
 rotate_left
 ·simp[h2]
 simp only[h2,not_true_eq_false,if_false]
 generalize vniT u3=w
 obtain ⟨w1,w2,w3⟩:=w
 dsimp only
 by_cases h3:w3=0
 rotate_left
 ·simp[h3]
 simp only[h3,not_true_eq_false,if_false]
 generalize takeF w2=t
 obtain ⟨f,t2⟩:=t
 dsimp only
 by_cases k1:t2=0
 ·by_cases k2:f.typ=33024<;>simp[k1,k2]
 ·simp[k1]
theorem Aml (b:List UInt8) (hb:b.length<100000) :
  Sy.Spec Tryz.prog 308 [.sl 1 Ag b] [] (.tup [B4 (unwrapT b).1,B4 (unwrapT b).2.1,Aa (unwrapT b).2.2.1,Bc (unwrapT b).2.2.2.1,Aa (unwrapT b).2.2.2.2]) []:=cT F308 Tryz.ntmps308 fun F hF=>by
 have hres:=Ado b
 generalize unwrapT b=res at *
 have q1:=Ast b hb
 have hol:=(Wg b).2
 generalize outerT b=o at *
 obtain ⟨p,e⟩:=o
 dsimp only at hres q1 hol
 have q2:=frameS p e qn
 generalize frameT p e=fr at *
 obtain ⟨f,v,e2⟩:=fr
 dsimp only at hres q2
 conv=>whnf
 refine Ar 9 (Dt noP 0 0) E (.cons (.refl _) (.cons (.refl _) (.cons (.refl _) (.cons (.refl _) (.cons (.refl _) (.cons (.refl _) (.cons .nil (.cons (.refl _) (.cons (.refl _) .nil))))))))) ?_
 refine oO ?_
 refine Ad (Af [(0,9)] E F357 q1 E ⟨E,Y⟩ E ⟨.inl E,Y⟩) E E ?_
 refine oO ?_
 refine Ad (Af [(0,9)] E F358 q2 E ⟨E,Y⟩ E ⟨.inl E,Y⟩) E E ?_
 refine oO ?_
 refine⟨fun h=>?_,fun h=>?_⟩
 ·rw[if_pos (by simpa using h)]at hres
  subst hres
  refine oO ?_
  refine kW ?_
  refine Ar 5 zF E (.cons (.refl _) (.cons (.refl _) (.cons (.refl _) (.cons .nil .nil)))) ?_
  exact dN
 rw[if_neg (by simpa using h)]at hres
 subst hres
 refine oO ?_
 refine kW ?_
 exact dN
theorem Vb (l:List Device) (p:Device→Bool) (f:FuncId) (first cap:List SV) (hc:(SV.clo (.func f) first cap).inn []=true) (hf:∀ x∈l,J4 Tryz.prog f (first++[Bs x]++cap) (Ab (p x))) (hl:Ap l) :
  Sy.Spec Tryz.prog 359 [.sl 5 Bs l,.clo (.func f) first cap] [] (Aa (Dq p l)) []:=cT F359 Tryz.ntmps359 fun F hF=>by
 unfold Ap at hl
 have hin:∀ x:Device,Ct [] (first++[Bs x]++cap)=true:=fun x=>Dv hc rfl
 conv=>whnf
 refine Ay l.length (fun j=>Dd (fun _ x=>!(p x)) l j) (fun j=>[(0,.sl 5 Bs l),(1,.clo (.func f) first cap),(7,Aa l.length),(8,Aa j)]) (fun _=>[]) [] (A2 _ _) ⟨⟨E,E,Br _,hc,E,E,E,E,Y⟩,Y,E,E⟩ ?_
 intro j hj hI
 refine oO ?_
 refine⟨fun h=>?_,fun h=>?_⟩
 ·have h:=of_decide_eq_true h
  have hj2:j<l.length:=by omega
  refine oO ?_
  refine⟨E,by omega,by omega,?_⟩
  conv=>whnf
  refine Ef (hf l[j] (List.getElem_mem hj2)) E E E (by simp only[hin];rfl) E E ?_
  refine oO ?_
  refine⟨fun h2=>?_,fun h2=>?_⟩
  ·refine oO ?_
   refine Aq E (.cons .tmp .nil) (congrArg Aa ?_) E
   exact C3 hj2 (fun i hi hij=>by simpa using hI i hi hij) h2
  ·refine oO ?_
   refine iW ?_
   exact Av [] hI hj2 (A1 hI hj2 (by simp[h2])) ⟨⟨E,E,Br _,hc,E,E,E,E,Y⟩,Y,E,E⟩
 ·have h:=of_decide_eq_false h
  refine oO ?_
  refine Aq E (.cons .tmp .nil) (congrArg Aa ?_) E
  exact Dk (fun i hi=>by simpa using hI i hi qn)
theorem Ym {n:Net} (hb:Ae n=true) {d:Int} (hd:DomIn n d):0≤(n.domains[d.toNat]'hd.2).dev∧(n.domains[d.toNat]'hd.2).dev.toNat<n.devices.length:=by
 simp only[Ae,Bool.and_eq_true]at hb
 have:=Mp hb.1.1.1.1.1.1.1.2 hd.2
 have:=Ba this
 omega
theorem Ys {n:Net} (hb:Ae n=true) {d:Int} (hd:DomIn n d):E7 n d=(n.devices[(n.domains[d.toNat]'hd.2).dev.toNat]'(Ym hb hd).2).vtep:=by
 rw[E7,Ak hd.2,Ak (Ym hb hd).2]
theorem Ug {n:Net} (hm:n.Num) (hb:Ae n=true) {d:Int} (hd:DomIn n d):0≤E7 n d∧E7 n d<4294967296:=by
 rw[Ys hb hd]
 exact hm.vtep _ (List.getElem_mem _)
theorem Tq (n:Net) (hb:Ae n=true) (d:Int) (hd:DomIn n d):Sy.Spec Tryz.prog 304 [Aj n,Aa d] [] (B4 (E7 n d)) []:=cT F304 Tryz.ntmps304 fun F hF=>by
 have hv:=Ys hb hd
 have h2:=Ym hb hd
 obtain ⟨x,hx⟩:∃ x,n.domains[d.toNat]'hd.2=x:=⟨_,rfl⟩
 rw[hx]at h2
 simp only[hx]at hv
 obtain ⟨y,hy⟩:∃ y,n.devices[x.dev.toNat]'h2.2=y:=⟨_,rfl⟩
 rw[hy]at hv
 rw[hv]
 conv=>whnf
 refine⟨E,hd.1,hd.2,?_⟩
 rw[hx]
 conv=>whnf
 refine⟨E,h2.1,h2.2,?_⟩
 rw[hy]
 conv=>whnf
 refine kW ?_
 exact dN
theorem Ti (n:Net) (hb:Ae n=true) (d:Int) (hd:DomIn n d):Sy.Spec Tryz.prog 322 [Aj n,Aa d] [] (B4 (E7 n d)) []:=cT F322 Tryz.ntmps322 fun F hF=>by
 have hv:=Ys hb hd
 have h2:=Ym hb hd
 obtain ⟨x,hx⟩:∃ x,n.domains[d.toNat]'hd.2=x:=⟨_,rfl⟩
 rw[hx]at h2
 simp only[hx]at hv
 obtain ⟨y,hy⟩:∃ y,n.devices[x.dev.toNat]'h2.2=y:=⟨_,rfl⟩
 rw[hy]at hv
 rw[hv]
 conv=>whnf
 refine⟨E,hd.1,hd.2,?_⟩
 rw[hx]
 conv=>whnf
 refine⟨E,h2.1,h2.2,?_⟩
 rw[hy]
 conv=>whnf
 refine kW ?_
 exact dN
theorem Ajy (n:Net) (hn:n.Fin) (hm0:n.Num) (dom peer:Int) (f:FrameM) (h:FrameOK f) :
  Sy.Spec Tryz.prog 237 [Aj n,Aa dom,Aa peer,Bc f] [] (.tup [.sl 1 Ag (meshT n dom peer f).1,Aa (meshT n dom peer f).2]) []:=cT F237 Tryz.ntmps237 fun F hF=>by
 have hres:=meshT.eq_1 n dom peer f
 generalize meshT n dom peer f=res at *
 have hr:=B0 n hn
 have hpS:=Lk peer n.domains.length
 have hdS:=Lk dom n.domains.length
 conv=>whnf
 refine A3 4 8 (Aj n) E E E ?_
 refine A3 7 4 (Bc f) E E E ?_
 refine oO ?_
 refine c0 hpS F300 ?_
 cases hpl:Ai peer n.domains.length
 ·rw[if_pos (.inl hpl)]at hres
  subst hres
  (refine oT ?_;refine bT ?_;refine bT ?_)
  refine Am 8 1 Ag E ?_
  exact dN
 refine oF ?_
 refine c0 hdS F300 ?_
 cases hdl:Ai dom n.domains.length
 ·rw[if_pos (.inr (.inl hdl))]at hres
  subst hres
  (refine oT ?_;refine bT ?_)
  refine Am 8 1 Ag E ?_
  exact dN
 refine oF ?_
 refine c0 hr F23 ?_
 cases hbn:Ae n
 ·rw[if_pos (.inr (.inr hbn))]at hres
  subst hres
  refine oT ?_
  refine Am 8 1 Ag E ?_
  exact dN
 rw[if_neg (by simp[hbn,hpl,hdl])]at hres
 have hd:=Ha hdl
 have hp:=Ha hpl
 have hd0:=hd.1
 have hkd:=hd.2
 have e2:nth n.domains dom=n.domains[dom.toNat]:=Ak hkd
 have hpe:=hn.peers _ (List.getElem_mem hkd)
 have va:=Ug hm0 hbn hd
 have vb:=Ug hm0 hbn hp
 have qa:=Tq n hbn dom hd
 have qb:=Tq n hbn peer hp
 generalize E7 n dom=a at *
 generalize E7 n peer=c at *
 obtain ⟨a,rfl⟩:=Int.eq_ofNat_of_zero_le va.1
 obtain ⟨c,rfl⟩:=Int.eq_ofNat_of_zero_le vb.1
 rw[Int.toNat_natCast,Int.toNat_natCast]at hres
 obtain ⟨d,hdd⟩:∃ d,n.domains[dom.toNat]'hkd=d:=⟨_,rfl⟩
 rw[hdd]at e2 hpe
 rw[e2]at hres
 have qc:=Ee d.peers peer hpe
 have qw:=Asf a c d.vni f qn qn h
 refine oF ?_
 refine⟨E,hd0,hkd,?_⟩
 rw[hdd]
 conv=>whnf
 refine c0 qc F25 ?_
 cases hi:inB d.peers peer
 ·rw[if_pos hi]at hres
  subst hres
  refine oT ?_
  refine Am 8 1 Ag E ?_
  exact dN
 rw[if_neg (by rw[hi];decide)]at hres
 subst hres
 refine oF ?_
 refine cD qa F304 ?_
 refine oD ?_
 refine cD qb F304 ?_
 refine oD ?_
 refine⟨E,hd0,hkd,?_⟩
 rw[hdd]
 conv=>whnf
 refine cD qw F303 ?_
 refine oD ?_
 refine kW ?_
 exact dN
theorem Tj (n:Net) (hn:n.Fin) (hm0:n.Num) (dom peer:Int) (f:FrameM) (h:FrameOK f) :
  Sy.Spec Tryz.prog 259 [Aj n,Aa dom,Aa peer,Bc f] [] (.tup [.sl 1 Ag (meshT n dom peer f).1,Aa (meshT n dom peer f).2]) []:=cT F259 Tryz.ntmps259 fun F hF=>by
 have hres:=meshT.eq_1 n dom peer f
 generalize meshT n dom peer f=res at *
 have hr:=Dy n hn
 have hpS:=A8 peer n.domains.length
 have hdS:=A8 dom n.domains.length
 conv=>whnf
 refine A3 4 8 (Aj n) E E E ?_
 refine A3 7 4 (Bc f) E E E ?_
 refine oO ?_
 refine c0 hr F10 ?_
 cases hbn:Ae n
 ·rw[if_pos (.inr (.inr hbn))]at hres
  subst hres
  (refine oT ?_;refine bT ?_;refine bT ?_)
  refine Am 8 1 Ag E ?_
  exact dN
 refine oF ?_
 refine c0 hpS F46 ?_
 cases hpl:Ai peer n.domains.length
 ·rw[if_pos (.inl hpl)]at hres
  subst hres
  (refine oT ?_;refine bT ?_)
  refine Am 8 1 Ag E ?_
  exact dN
 refine oF ?_
 refine c0 hdS F46 ?_
 cases hdl:Ai dom n.domains.length
 ·rw[if_pos (.inr (.inl hdl))]at hres
  subst hres
  refine oT ?_
  refine Am 8 1 Ag E ?_
  exact dN
 rw[if_neg (by simp[hbn,hpl,hdl])]at hres
 have hd:=Ha hdl
 have hp:=Ha hpl
 have hd0:=hd.1
 have hkd:=hd.2
 have e2:nth n.domains dom=n.domains[dom.toNat]:=Ak hkd
 have hpe:=hn.peers _ (List.getElem_mem hkd)
 have va:=Ug hm0 hbn hd
 have vb:=Ug hm0 hbn hp
 have qa:=Ti n hbn dom hd
 have qb:=Ti n hbn peer hp
 generalize E7 n dom=a at *
 generalize E7 n peer=c at *
 obtain ⟨a,rfl⟩:=Int.eq_ofNat_of_zero_le va.1
 obtain ⟨c,rfl⟩:=Int.eq_ofNat_of_zero_le vb.1
 rw[Int.toNat_natCast,Int.toNat_natCast]at hres
 obtain ⟨d,hdd⟩:∃ d,n.domains[dom.toNat]'hkd=d:=⟨_,rfl⟩
 rw[hdd]at e2 hpe
 rw[e2]at hres
 have qc:=E9 d.peers peer hpe
 have qw:=Ai4 a c d.vni f qn qn h
 refine oF ?_
 refine⟨E,hd0,hkd,?_⟩
 rw[hdd]
 conv=>whnf
 refine c0 qc F36 ?_
 cases hi:inB d.peers peer
 ·rw[if_pos hi]at hres
  subst hres
  refine oT ?_
  refine Am 8 1 Ag E ?_
  exact dN
 rw[if_neg (by rw[hi];decide)]at hres
 subst hres
 refine oF ?_
 refine cD qa F322 ?_
 refine oD ?_
 refine cD qb F322 ?_
 refine oD ?_
 refine⟨E,hd0,hkd,?_⟩
 rw[hdd]
 conv=>whnf
 refine cD qw F321 ?_
 refine oD ?_
 refine kW ?_
 exact dN
theorem Ad4 (b:List UInt8) (hb:b.length<100000) :
  Sy.Spec Tryz.prog 323 [.sl 1 Ag b] [] (.tup [B4 (unwrapT b).1,B4 (unwrapT b).2.1,Aa (unwrapT b).2.2.1,Bc (unwrapT b).2.2.2.1,Aa (unwrapT b).2.2.2.2]) []:=cT F323 Tryz.ntmps323 fun F hF=>by
 have hres:=unwrapT.eq_1 b
 have ho:=outerT.eq_1 b
 generalize unwrapT b=res at *
 have q1:=Tk b hb
 have hok:=@Afp b
 generalize takeF b=tk at *
 obtain ⟨f,e⟩:=tk
 dsimp only at ho q1 hok
 conv=>whnf
 refine c0 q1 F124 ?_
 refine oO ?_
 by_cases he:e=0
 rotate_left
 ·rw[if_pos he]at ho
  rw[ho,if_pos he]at hres
  subst hres
  refine⟨fun h=>absurd (show e=0 by simpa using h) he,fun _=>?_⟩
  refine oF ?_
  refine⟨fun _=>?_,fun h=>absurd (show e=0 by simpa using h) he⟩
  refine oO ?_
  refine kW ?_
  refine Ar 5 zF E (.cons (.refl _) (.cons (.refl _) (.cons (.refl _) (.cons .nil .nil)))) ?_
  exact dN
 subst he
 rw[if_neg qz]at ho
 have hfb:=(hok rfl).body
 (refine⟨fun _=>?_,fun h=>False.elim (absurd h qy)⟩;refine rg ?_;conv=>whnf)
 by_cases ht:f.typ=2048
 rotate_left
 ·rw[if_pos ht]at ho
  rw[ho,if_pos qz]at hres
  subst hres
  refine⟨fun _=>?_,fun h=>absurd (show (f.typ:Int)=2048 by simpa using h) qn⟩
  refine oT ?_
  refine kW ?_
  refine Ar 5 zF E (.cons (.refl _) (.cons (.refl _) (.cons (.refl _) (.cons .nil .nil)))) ?_
  exact dN
 rw[if_neg (fun h=>h ht)]at ho
 refine⟨fun h=>absurd (show ¬ (f.typ:Int)=2048 by simpa using h) qn,fun _=>?_⟩
 have q2:=Zj f.body qn
 have hio:=@Aac f.body
 generalize ipTakeT f.body=ip at *
 obtain ⟨p,e⟩:=ip
 dsimp only at ho q2 hio
 refine oF ?_
 refine c0 q2 F317 ?_
 refine oO ?_
 by_cases he:e=0
 rotate_left
 ·rw[if_pos he]at ho
  rw[ho,if_pos he]at hres
  subst hres
  refine⟨fun h=>absurd (show e=0 by simpa using h) he,fun _=>?_⟩
  refine oF ?_
  refine⟨fun _=>?_,fun h=>absurd (show e=0 by simpa using h) he⟩
  refine oO ?_
  refine kW ?_
  refine Ar 5 zF E (.cons (.refl _) (.cons (.refl _) (.cons (.refl _) (.cons .nil .nil)))) ?_
  exact dN
 subst he
 rw[if_neg qz]at ho
 have hpl:=(hio rfl).2
 (refine⟨fun _=>?_,fun h=>False.elim (absurd h qy)⟩;refine rg ?_;conv=>whnf)
 by_cases hp:p.proto=17
 rotate_left
 ·rw[if_pos hp]at ho
  rw[ho,if_pos qz]at hres
  subst hres
  refine⟨fun _=>?_,fun h=>absurd (show (p.proto:Int)=17 by simpa using h) qn⟩
  refine oT ?_
  refine kW ?_
  refine Ar 5 zF E (.cons (.refl _) (.cons (.refl _) (.cons (.refl _) (.cons .nil .nil)))) ?_
  exact dN
 rw[if_neg (fun h=>h hp)]at ho
 refine⟨fun h=>absurd (show ¬ (p.proto:Int)=17 by simpa using h) qn,fun _=>?_⟩
 rw[ho,if_neg qz]at hres
 clear ho
 dsimp only at hres
 have hi:=innerT.eq_1 p.body
 generalize innerT p.body=inn at *
 have q3:=Ai5 p.body qn
 have hul:=@Asb p.body
 generalize udpTakeT p.body=u at *
 obtain ⟨u1,u2,u3,e⟩:=u
 dsimp only at hi q3 hul
 refine oF ?_
 refine c0 q3 F370 ?_
 refine oO ?_
 by_cases he:e=0
 rotate_left
 ·rw[if_pos he]at hi
  rw[hi,if_pos he]at hres
  subst hres
  refine⟨fun h=>absurd (show e=0 by simpa using h) he,fun _=>?_⟩
  refine oF ?_
  refine⟨fun _=>?_,fun h=>absurd (show e=0 by simpa using h) he⟩
  refine oO ?_
  refine kW ?_
  refine Ar 5 zF E (.cons (.refl _) (.cons (.refl _) (.cons (.refl _) (.cons .nil .nil)))) ?_
  exact dN
 subst he
 rw[if_neg qz]at hi
 (refine⟨fun _=>?_,fun h=>False.elim (absurd h qy)⟩;refine rg ?_;conv=>whnf)
 by_cases h2:u2=4789
 rotate_left
 ·rw[if_pos h2]at hi
  rw[hi,if_pos qz]at hres
  subst hres
  refine⟨fun _=>?_,fun h=>absurd (show u2=4789 by simpa using h) h2⟩
  refine oT ?_
  refine kW ?_
  refine Ar 5 zF E (.cons (.refl _) (.cons (.refl _) (.cons (.refl _) (.cons .nil .nil)))) ?_
  exact dN
 rw[if_neg (fun h=>h h2)]at hi
 refine⟨fun h=>absurd h2 (by simpa using h),fun _=>?_⟩
 have q4:=Ang u3 qn
 have hvl:=@vniT_body u3
 generalize vniT u3=w at *
 obtain ⟨w1,w2,e⟩:=w
 dsimp only at hi q4 hvl
 refine oF ?_
 refine c0 q4 F371 ?_
 refine oO ?_
 by_cases he:e=0
 rotate_left
 ·rw[if_pos he]at hi
  rw[hi,if_pos he]at hres
  subst hres
  refine⟨fun _=>?_,fun h=>absurd (show e=0 by simpa using h) he⟩
  refine oO ?_
  refine kW ?_
  refine Ar 5 zF E (.cons (.refl _) (.cons (.refl _) (.cons (.refl _) (.cons .nil .nil)))) ?_
  exact dN
 subst he
 rw[if_neg qz]at hi
 (refine⟨fun h=>False.elim (absurd h qy),fun _=>?_⟩;refine rg ?_;conv=>whnf)
 have q5:=Tk w2 qn
 generalize takeF w2=tk at *
 obtain ⟨g,e⟩:=tk
 dsimp only at hi q5
 refine c0 q5 F124 ?_
 refine oO ?_
 by_cases he:e=0
 rotate_left
 ·rw[if_pos he]at hi
  rw[hi,if_pos he]at hres
  subst hres
  refine⟨fun h=>absurd (show e=0 by simpa using h) he,fun _=>?_⟩
  refine oF ?_
  refine⟨fun _=>?_,fun h=>absurd (show e=0 by simpa using h) he⟩
  refine oO ?_
  refine kW ?_
  refine Ar 5 zF E (.cons (.refl _) (.cons (.refl _) (.cons (.refl _) (.cons .nil .nil)))) ?_
  exact dN
 subst he
 rw[if_neg qz]at hi
 (refine⟨fun _=>?_,fun h=>False.elim (absurd h qy)⟩;refine rg ?_;conv=>whnf)
 by_cases hg:g.typ=33024
 ·rw[if_pos hg]at hi
  rw[hi,if_pos qz]at hres
  subst hres
  refine⟨fun _=>?_,fun h=>absurd (show ¬ (g.typ:Int)=33024 by simpa using h) qn⟩
  refine oT ?_
  refine kW ?_
  refine Ar 5 zF E (.cons (.refl _) (.cons (.refl _) (.cons (.refl _) (.cons .nil .nil)))) ?_
  exact dN
 rw[if_neg hg]at hi
 rw[hi,if_neg qz]at hres
 subst hres
 refine⟨fun h=>absurd (show (g.typ:Int)=33024 by simpa using h) qn,fun _=>?_⟩
 refine oF ?_
 refine kW ?_
 exact dN
theorem endsC1 (dst:Int) (d:Device):Sy.Spec Tryz.prog 360 [Bs d,.ref 1 (B4 dst) 0] [] (Ab (decide (d.vtep=dst))) []:=cT F360 Tryz.ntmps360 fun F hF=>by
 conv=>whnf
 refine Aq E (.cons .tmp .nil) (congrArg Ab ?_) E
 rw[Bool.eq_iff_iff]
 simp
theorem endsC2 (dev vni:Int) (d:Domain):Sy.Spec Tryz.prog 361 [Aw d,.ref 1 (Aa dev) 0,.ref 1 (Aa vni) 0] [] (Ab (decide (d.dev=dev) && decide (d.vni=vni))) []:=cT F361 Tryz.ntmps361 fun F hF=>by
 conv=>whnf
 refine⟨fun h=>?_,fun h=>?_⟩
 ·have h1:d.dev=dev:=by simpa using h
  refine oO ?_
  refine Aq E (.cons .tmp .nil) (congrArg Ab ?_) E
  rw[decide_eq_true h1,Bool.true_and,Bool.eq_iff_iff]
  simp
 ·have h1:¬ d.dev=dev:=by simpa using h
  refine oO ?_
  refine Aq E (.cons .tmp .nil) (congrArg Ab ?_) E
  rw[decide_eq_false h1,Bool.false_and]
theorem endsC3 (n:Net) (hb:Ae n=true) (src:Int) (k:Int) (hk:DomIn n k):Sy.Spec Tryz.prog 363 [Aa k,.ref 8 (Aj n) 0,.ref 1 (B4 src) 0] [] (Ab (decide (E7 n k=src))) []:=cT F363 Tryz.ntmps363 fun F hF=>by
 have q:=Tq n hb k hk
 conv=>whnf
 refine cD q F304 ?_
 refine oD ?_
 refine kW ?_
 refine Aq E (.cons .tmp .nil) (congrArg Ab ?_) E
 rw[Bool.eq_iff_iff]
 simp
theorem endsS (n:Net) (hn:n.Fin) (hb:Ae n=true) (src dst:Nat) (vni:Int) :
  Sy.Spec Tryz.prog 309 [Aj n,B4 src,B4 dst,Aa vni] [] (.tup [Aa (endsT n src dst vni).1,Aa (endsT n src dst vni).2]) []:=cT F309 Tryz.ntmps309 fun F hF=>by
 have hres:=endsT.eq_1 n src dst vni
 dsimp only at hres
 generalize endsT n src dst vni=res at *
 have q1:=Vb n.devices (fun d=>decide (d.vtep=(dst:Int))) 360 [] [.ref 1 (B4 dst) 0] rfl (fun d _=>⟨⟨_,_,F360⟩,endsC1 dst d⟩) hn.devices
 generalize Dq (fun d:Device=>decide (d.vtep=(dst:Int))) n.devices=dev at *
 have q2:=Iv n.domains (fun d=>decide (d.dev=dev) && decide (d.vni=vni)) 361 [] [.ref 1 (Aa dev) 0,.ref 1 (Aa vni) 0] rfl (fun d _=>⟨⟨_,_,F361⟩,endsC2 dev vni d⟩) hn.domains
 have hlt:=Ji (fun d:Domain=>decide (d.dev=dev) && decide (d.vni=vni)) n.domains
 generalize Dq (fun d:Domain=>decide (d.dev=dev) && decide (d.vni=vni)) n.domains=dom at *
 conv=>whnf
 refine A3 4 8 (Aj n) E E E ?_
 refine A3 5 1 (B4 src) E E E ?_
 refine A3 6 1 (B4 dst) E E E ?_
 refine A3 7 1 (Aa vni) E E E ?_
 refine oO ?_
 refine c0 q1 F359 ?_
 refine oO ?_
 refine A3 10 1 (Aa dev) E E E ?_
 refine oO ?_
 refine c0 q2 F201 ?_
 refine oO ?_
 refine⟨fun h=>?_,fun h=>?_⟩
 ·rw[if_pos (.inl (of_decide_eq_true h))]at hres
  subst hres
  refine oT ?_
  exact dN
 have h1:=of_decide_eq_false h
 clear h
 refine oO ?_
 refine⟨fun h=>?_,fun h=>?_⟩
 ·rw[if_pos (.inr (of_decide_eq_true h))]at hres
  subst hres
  refine oO ?_
  exact dN
 have h2:=of_decide_eq_false h
 clear h
 rw[if_neg (fun h=>h.elim h1 h2)]at hres
 have hd0:0≤dom:=by omega
 have hkd:dom.toNat<n.domains.length:=by omega
 have e2:nth n.domains dom=n.domains[dom.toNat]:=Ak hkd
 have hpe:=hn.peers _ (List.getElem_mem hkd)
 have hpin:∀ k∈(n.domains[dom.toNat]'hkd).peers,DomIn n k:=fun k hk=>Zw hb hkd hk
 obtain ⟨d,hdd⟩:∃ d,n.domains[dom.toNat]'hkd=d:=⟨_,rfl⟩
 rw[hdd]at e2 hpe hpin
 rw[e2]at hres
 have q3:=K3 d.peers (fun k=>decide (E7 n k=(src:Int))) 363 [] [.ref 8 (Aj n) 0,.ref 1 (B4 src) 0] rfl (fun k hk=>⟨⟨_,_,F363⟩,endsC3 n hb src k (hpin k hk)⟩) hpe
 have hlt2:=Ji (fun k:Int=>decide (E7 n k=(src:Int))) d.peers
 generalize Dq (fun k:Int=>decide (E7 n k=(src:Int))) d.peers=i at *
 refine oO ?_
 refine⟨E,hd0,hkd,?_⟩
 rw[hdd]
 conv=>whnf
 refine c0 q3 F362 ?_
 refine oO ?_
 refine⟨fun h=>?_,fun h=>?_⟩
 ·rw[if_pos (of_decide_eq_true h)]at hres
  subst hres
  refine oO ?_
  exact dN
 have h3:=of_decide_eq_false h
 clear h
 rw[if_neg h3]at hres
 have hki:i.toNat<d.peers.length:=by omega
 rw[Ak hki]at hres
 subst hres
 refine oO ?_
 refine⟨E,by omega,hki,?_⟩
 conv=>whnf
 exact dN
theorem Aj0 (n:Net) (hn:n.Fin) (b:List UInt8) (hb:b.length<100000) :
  Sy.Spec Tryz.prog 242 [Aj n,.sl 1 Ag b] [] (.tup [Aa (comeT n b).1,Aa (comeT n b).2.1,Bc (comeT n b).2.2.1,Aa (comeT n b).2.2.2]) []:=cT F242 Tryz.ntmps242 fun F hF=>by
 have hres:=comeT.eq_1 n b
 generalize comeT n b=res at *
 have hr:=B0 n hn
 conv=>whnf
 refine A3 2 8 (Aj n) E E E ?_
 refine oO ?_
 refine c0 hr F23 ?_
 cases hbn:Ae n
 ·rw[if_pos hbn]at hres
  subst hres
  refine oT ?_
  refine Ar 6 zF E (.cons (.refl _) (.cons (.refl _) (.cons (.refl _) (.cons .nil .nil)))) ?_
  exact dN
 rw[if_neg (by rw[hbn];decide)]at hres
 have q1:=Aml b hb
 have huo:=Tb b
 generalize unwrapT b=u at *
 obtain ⟨src,dst,vni,f,e⟩:=u
 dsimp only at hres q1 huo
 have hsrc:=huo.2.2.2.src
 refine oF ?_
 refine c0 q1 F308 ?_
 refine oO ?_
 refine⟨fun h=>?_,fun h=>?_⟩
 ·rw[if_pos (by simpa using h)]at hres
  subst hres
  refine oO ?_
  refine Ar 6 zF E (.cons (.refl _) (.cons (.refl _) (.cons (.refl _) (.cons .nil .nil)))) ?_
  exact dN
 rw[if_neg (by simpa using h)]at hres
 clear h
 have q2:=endsS n hn hbn src dst vni
 generalize endsT n src dst vni=en at *
 obtain ⟨fr,dom⟩:=en
 dsimp only at hres q2
 refine oO ?_
 refine c0 q2 F309 ?_
 refine oO ?_
 refine⟨fun h=>?_,fun h=>?_⟩
 ·rw[if_pos (of_decide_eq_true h)]at hres
  subst hres
  refine oO ?_
  refine Ar 6 zF E (.cons (.refl _) (.cons (.refl _) (.cons (.refl _) (.cons .nil .nil)))) ?_
  exact dN
 rw[if_neg (of_decide_eq_false h)]at hres
 clear h
 have qg:=Md f.src qn
 refine oO ?_
 refine c0 qg F226 ?_
 cases hg:Ed f.src
 rotate_left
 ·rw[if_pos hg]at hres
  subst hres
  refine oT ?_
  refine Ar 6 zF E (.cons (.refl _) (.cons (.refl _) (.cons (.refl _) (.cons .nil .nil)))) ?_
  exact dN
 rw[if_neg (by rw[hg];decide)]at hres
 subst hres
 refine oF ?_
 refine kW ?_
 exact dN
theorem Ai0 (n:Net) (hn:n.Fin) (hb:Ae n=true) (src dst:Nat) (vni:Int) :
  Sy.Spec Tryz.prog 324 [Aj n,B4 src,B4 dst,Aa vni] [] (.tup [Aa (endsT n src dst vni).1,Aa (endsT n src dst vni).2]) []:=cT F324 Tryz.ntmps324 fun F hF=>by
 have hres:=endsT.eq_1 n src dst vni
 dsimp only at hres
 generalize endsT n src dst vni=res at *
 have hsd:=hn.devices
 have hsm:=hn.domains
 unfold Ap at hsd hsm
 conv=>whnf
 refine A3 4 8 (Aj n) E E E ?_
 refine Ay n.devices.length (fun j=>∀ i (h:i<n.devices.length),i<j→decide (n.devices[i].vtep=(dst:Int))=false) (fun j=>[(1,B4 src),(2,B4 dst),(3,Aa vni),(4,.ref 8 (Aj n) 0),(10,Aa j)]) (fun _=>[]) [] (fun i h h2=>by omega) ⟨⟨E,E,E,E,E,E,E,E,E,E,Y⟩,Y,E,E⟩ ?_
 intro j hj hI
 refine oO ?_
 refine⟨fun h=>?_,fun h=>?_⟩
 ·have hlt:j<n.devices.length:=qA h
  have hj0:((j:Nat):Int).toNat<n.devices.length:=by simpa using hlt
  obtain ⟨d,hd⟩:∃ d,n.devices[j]=d:=⟨_,rfl⟩
  have e1:n.devices[((j:Nat):Int).toNat]'hj0=d:=hd
  clear h
  refine oO ?_
  refine⟨E,by omega,hj0,?_⟩
  rw[e1]
  conv=>whnf
  refine⟨fun h=>?_,fun h=>?_⟩
  ·have hne:¬ d.vtep=(dst:Int):=by simpa using h
   refine oO ?_
   refine iW ?_
   refine Av [] hI hlt (fun i hi h2=>?_) ⟨⟨E,E,E,E,E,E,E,E,E,E,Y⟩,Y,E,E⟩
   by_cases hij:i=j
   ·subst hij;rw[hd];exact decide_eq_false hne
   ·exact hI i hi qn
  have heq:d.vtep=(dst:Int):=by simpa using h
  clear h
  have hdev:Dq (fun d:Device=>decide (d.vtep=(dst:Int))) n.devices=(j:Int):=C3 hlt hI (by rw[hd];exact decide_eq_true heq)
  rw[hdev]at hres
  refine oO ?_
  refine Ay n.domains.length (fun k=>∀ i (h:i<n.domains.length),i<k→(decide (n.domains[i].dev=(j:Int)) && decide (n.domains[i].vni=vni))=false) (fun k=>[(1,B4 src),(3,Aa vni),(4,.ref 8 (Aj n) 0),(10,Aa j),(11,Aa k)]) (fun _=>[]) [] (fun i h h2=>by omega) ⟨⟨E,E,E,E,E,E,E,E,E,E,Y⟩,Y,E,E⟩ ?_
  intro k hk hK
  refine oO ?_
  refine⟨fun h=>?_,fun h=>?_⟩
  ·have hlk:k<n.domains.length:=qA h
   have hk0:((k:Nat):Int).toNat<n.domains.length:=by simpa using hlk
   have hpe:=hn.peers _ (List.getElem_mem hlk)
   have hpin:∀ z∈(n.domains[k]'hlk).peers,DomIn n z:=fun z hz=>Zw hb hlk hz
   obtain ⟨x,hx⟩:∃ x,n.domains[k]=x:=⟨_,rfl⟩
   have e2:n.domains[((k:Nat):Int).toNat]'hk0=x:=hx
   have e3:nth n.domains (k:Int)=x:=by rw[Ak hk0];exact hx
   rw[hx]at hpe hpin
   clear h
   have next:(decide (x.dev=(j:Int)) && decide (x.vni=vni))=false→∀ i (h:i<n.domains.length),i<k+1→(decide (n.domains[i].dev=(j:Int)) && decide (n.domains[i].vni=vni))=false:=fun hf i hi h2=>by
    by_cases hik:i=k
    ·subst hik;rw[hx];exact hf
    ·exact hK i hi qn
   refine oO ?_
   refine⟨E,by omega,hk0,?_⟩
   rw[e2]
   conv=>whnf
   refine⟨fun h=>?_,fun h=>?_⟩
   ·have hne:¬ x.dev=(j:Int):=by simpa using h
    refine oT ?_
    refine iW ?_
    exact Av [] hK hlk (next (by rw[decide_eq_false hne,Bool.false_and])) ⟨⟨E,E,E,E,E,E,E,E,E,E,Y⟩,Y,E,E⟩
   have hxd:x.dev=(j:Int):=by simpa using h
   clear h
   refine oO ?_
   refine⟨E,by omega,hk0,?_⟩
   rw[e2]
   conv=>whnf
   refine⟨fun h=>?_,fun h=>?_⟩
   ·have hne:¬ x.vni=vni:=by simpa using h
    refine oO ?_
    refine iW ?_
    exact Av [] hK hlk (next (by rw[decide_eq_false hne,Bool.and_false])) ⟨⟨E,E,E,E,E,E,E,E,E,E,Y⟩,Y,E,E⟩
   have hxv:x.vni=vni:=by simpa using h
   clear h
   have hdom:Dq (fun d:Domain=>decide (d.dev=(j:Int)) && decide (d.vni=vni)) n.domains=(k:Int):=C3 hlk hK (by rw[hx,decide_eq_true hxd,decide_eq_true hxv];rfl)
   rw[hdom,if_neg qn,e3]at hres
   unfold Ap at hpe
   refine oO ?_
   refine Ay x.peers.length (fun m=>∀ i (h:i<x.peers.length),i<m→decide (E7 n x.peers[i]=(src:Int))=false) (fun m=>[(1,B4 src),(4,.ref 8 (Aj n) 0),(11,Aa k),(12,Aa m)]) (fun _=>[]) [] (fun i h h2=>by omega) ⟨⟨E,E,E,E,E,E,E,E,Y⟩,Y,E,E⟩ ?_
   intro m hm0 hM
   refine oO ?_
   refine⟨E,by omega,hk0,?_⟩
   rw[e2]
   conv=>whnf
   refine⟨fun h=>?_,fun h=>?_⟩
   ·have hlm:m<x.peers.length:=qA h
    have hm1:((m:Nat):Int).toNat<x.peers.length:=by simpa using hlm
    obtain ⟨z,hz⟩:∃ z,x.peers[m]=z:=⟨_,rfl⟩
    have e4:x.peers[((m:Nat):Int).toNat]'hm1=z:=hz
    have qv:=Ti n hb z (hpin z (by rw[← hz];exact List.getElem_mem hlm))
    clear h
    refine oO ?_
    refine⟨E,by omega,hk0,?_⟩
    rw[e2]
    conv=>whnf
    refine⟨E,by omega,hm1,?_⟩
    rw[e4]
    conv=>whnf
    refine cD qv F322 ?_
    refine oD ?_
    refine kW ?_
    refine⟨fun h=>?_,fun h=>?_⟩
    ·have hzv:E7 n z=(src:Int):=by simpa using h
     have hidx:Dq (fun k:Int=>decide (E7 n k=(src:Int))) x.peers=(m:Int):=C3 hlm hM (by rw[hz];exact decide_eq_true hzv)
     have e5:nth x.peers (m:Int)=z:=by rw[Ak hm1];exact hz
     rw[hidx,if_neg qn,e5]at hres
     subst hres
     refine oO ?_
     refine⟨E,by omega,hk0,?_⟩
     rw[e2]
     conv=>whnf
     refine⟨E,by omega,hm1,?_⟩
     rw[e4]
     conv=>whnf
     exact dN
    ·have hne:¬ E7 n z=(src:Int):=by simpa using h
     refine oO ?_
     refine iW ?_
     refine Av [] hM hlm (fun i hi h2=>?_) ⟨⟨E,E,E,E,E,E,E,E,Y⟩,Y,E,E⟩
     by_cases him:i=m
     ·subst him;rw[hz];exact decide_eq_false hne
     ·exact hM i hi qn
   ·have hmm:m=x.peers.length:=qB h
    subst hmm
    have hidx:Dq (fun k:Int=>decide (E7 n k=(src:Int))) x.peers=-1:=Dk (fun i hi=>hM i hi hi)
    rw[hidx,if_pos qy]at hres
    subst hres
    refine oO ?_
    exact dN
  ·have hkk:k=n.domains.length:=qB h
   subst hkk
   have hdom:Dq (fun d:Domain=>decide (d.dev=(j:Int)) && decide (d.vni=vni)) n.domains=-1:=Dk (fun i hi=>hK i hi hi)
   rw[hdom,if_pos (.inr qy)]at hres
   subst hres
   refine oO ?_
   exact dN
 ·have hjj:j=n.devices.length:=qB h
  subst hjj
  have hdev:Dq (fun d:Device=>decide (d.vtep=(dst:Int))) n.devices=-1:=Dk (fun i hi=>hI i hi hi)
  rw[hdev,if_pos (.inl qy)]at hres
  subst hres
  refine oO ?_
  exact dN
theorem Ai1 (n:Net) (hn:n.Fin) (b:List UInt8) (hb:b.length<100000) :
  Sy.Spec Tryz.prog 261 [Aj n,.sl 1 Ag b] [] (.tup [Aa (comeT n b).1,Aa (comeT n b).2.1,Bc (comeT n b).2.2.1,Aa (comeT n b).2.2.2]) []:=cT F261 Tryz.ntmps261 fun F hF=>by
 have hres:=comeT.eq_1 n b
 generalize comeT n b=res at *
 have hr:=Dy n hn
 conv=>whnf
 refine A3 2 8 (Aj n) E E E ?_
 refine oO ?_
 refine c0 hr F10 ?_
 cases hbn:Ae n
 ·rw[if_pos hbn]at hres
  subst hres
  refine oT ?_
  refine Ar 6 zF E (.cons (.refl _) (.cons (.refl _) (.cons (.refl _) (.cons .nil .nil)))) ?_
  exact dN
 rw[if_neg (by rw[hbn];decide)]at hres
 have q1:=Ad4 b hb
 have huo:=Tb b
 generalize unwrapT b=u at *
 obtain ⟨src,dst,vni,f,e⟩:=u
 dsimp only at hres q1 huo
 have hsrc:=huo.2.2.2.src
 refine oF ?_
 refine c0 q1 F323 ?_
 refine oO ?_
 refine⟨fun h=>?_,fun h=>?_⟩
 ·rw[if_pos (by simpa using h)]at hres
  subst hres
  refine oO ?_
  refine Ar 6 zF E (.cons (.refl _) (.cons (.refl _) (.cons (.refl _) (.cons .nil .nil)))) ?_
  exact dN
 rw[if_neg (by simpa using h)]at hres
 clear h
 have q2:=Ai0 n hn hbn src dst vni
 generalize endsT n src dst vni=en at *
 obtain ⟨fr,dom⟩:=en
 dsimp only at hres q2
 refine oO ?_
 refine c0 q2 F324 ?_
 refine oO ?_
 refine⟨fun h=>?_,fun h=>?_⟩
 ·rw[if_pos (of_decide_eq_true h)]at hres
  subst hres
  refine oO ?_
  refine Ar 6 zF E (.cons (.refl _) (.cons (.refl _) (.cons (.refl _) (.cons .nil .nil)))) ?_
  exact dN
 rw[if_neg (of_decide_eq_false h)]at hres
 clear h
 have qg:=Jo f.src qn
 refine oO ?_
 refine c0 qg F186 ?_
 cases hg:Ed f.src
 rotate_left
 ·rw[if_pos hg]at hres
  subst hres
  refine oT ?_
  refine Ar 6 zF E (.cons (.refl _) (.cons (.refl _) (.cons (.refl _) (.cons .nil .nil)))) ?_
  exact dN
 rw[if_neg (by rw[hg];decide)]at hres
 subst hres
 refine oF ?_
 refine kW ?_
 exact dN
end Go.Sy.YteinjapglfkamaaGreat
namespace Go.Sy.YteinjapglfkamaaGreat
open Go.Proofs
set_option maxRecDepth 20000
set_option maxHeartbeats 4000000
theorem An4 {x:Int} (h0:0≤x) (h1:x<4294967297):IntKind.i64.wrap x=x:=by
 rw[IntKind.wrap_i64];omega
theorem Am6 (b:Int) (h:0≤b∧b≤32):Af7 b=((2 ^ (32-b).toNat-1:Nat):Int):=by
 obtain ⟨k,hk,hk2⟩:∃ k:Nat,(32-b).toNat=k∧k≤32:=⟨_,rfl,by omega⟩
 have h1:min (32-b).toNat IntKind.u32.bits=k:=by show min (32-b).toNat 32=k;omega
 have hp:=Nat.pow_le_pow_right (n:=2) qy hk2
 have e32:(2:Nat) ^ 32=4294967296:=rfl
 rw[e32]at hp
 have h0:=Nat.one_le_two_pow (n:=k)
 rw[Af7,h1,hk,IntKind.wrap_u32,IntKind.wrap_u32,show (2:Int) ^ k=((2 ^ k:Nat):Int) by rw[Int.natCast_pow];rfl]
 generalize 2 ^ k=q at *
 omega
theorem Aq6 (a b x:Int) (hb:0≤b∧b≤32) (ha:0≤a∧a<4294967296) (hx:0≤x∧x<4294967296):Abr a b x=true↔Dr a b≤x∧x≤lastI a b:=by
 obtain ⟨a,rfl⟩:=Int.eq_ofNat_of_zero_le ha.1
 obtain ⟨x,rfl⟩:=Int.eq_ofNat_of_zero_le hx.1
 obtain ⟨k,hk,hk2⟩:∃ k:Nat,(32-b).toNat=k∧k≤32:=⟨_,rfl,by omega⟩
 have h0:=Nat.one_le_two_pow (n:=k)
 rw[Abr,Am6 b hb,hk,masked a x k qn qn hk2,decide_eq_true_iff,Amy a x (2 ^ k) qn,K5 a k b hb hk,Acz a k b hb hk]
 omega
theorem Aqt (a b:Int) (ha:0≤a∧a<4294967296):0≤lastI a b∧lastI a b<4294967296:=by
 by_cases hb:0≤b∧b≤32
 ·obtain ⟨a,rfl⟩:=Int.eq_ofNat_of_zero_le ha.1
  obtain ⟨k,hk,hk2⟩:∃ k:Nat,(32-b).toNat=k∧k≤32:=⟨_,rfl,by omega⟩
  have h0:=Nat.one_le_two_pow (n:=k)
  rw[Acz a k b hb hk]
  have hd:a-a % 2 ^ k=2 ^ k * (a / 2 ^ k):=by have:=Nat.div_add_mod a (2 ^ k);omega
  have h32:2 ^ k * 2 ^ (32-k)=4294967296:=by
   rw[← Nat.pow_add,show k+(32-k)=32 by omega]
  have:a / 2 ^ k<2 ^ (32-k):=by rw[Nat.div_lt_iff_lt_mul qn,Nat.mul_comm,h32];omega
  have:2 ^ k * (a / 2 ^ k)+2 ^ k≤2 ^ k * 2 ^ (32-k):=by
   rw[← Nat.mul_succ];exact Nat.mul_le_mul_left _ this
  omega
 ·rw[lastI,if_neg hb];omega
theorem Aoc (a b:Int) (ha:0≤a∧a<4294967296):0≤Dr a b∧Dr a b<4294967296:=by
 by_cases hb:0≤b∧b≤32
 ·obtain ⟨a,rfl⟩:=Int.eq_ofNat_of_zero_le ha.1
  rw[K5 a _ b hb rfl]
  omega
 ·rw[Dr,if_neg hb];omega
end Go.Sy.YteinjapglfkamaaGreat
namespace Go.Sy.YteinjapglfkamaaGreat
open Go.Proofs
attribute [local irreducible] Go.Sy.G Go.Sy.DR
set_option maxRecDepth 20000
set_option maxHeartbeats 8000000
theorem Ap2 (a:Nat) (bits:Int) (ha:a<4294967296):Sy.Spec Tryz.prog 154 [Ir a bits] [] (B4 (lastI a bits)) []:=cT F154 Tryz.ntmps154 fun F hF=>by
 have hr:=Lx a bits
 have hl:=lastI.eq_1 a bits
 by_cases hb:0≤bits∧bits≤32
 ·have hf:=Wb a bits ha
  have hs:=Af9 a bits hb
  have hle:=Aoc a bits ⟨by omega,by omega⟩
  have hll:=Aqt a bits ⟨by omega,by omega⟩
  rw[decide_eq_true hb]at hr
  rw[if_pos hb]at hl
  obtain ⟨k,hk,hk2⟩:∃ k:Nat,(32-bits).toNat=k∧k≤32:=⟨_,rfl,by omega⟩
  have h1:=Nat.one_le_two_pow (n:=k)
  have hp:2 ^ k≤2 ^ 32:=Nat.pow_le_pow_right qy hk2
  have e32:(2:Nat) ^ 32=4294967296:=rfl
  rw[e32]at hp
  rw[hk]at hs hl
  rw[show (2:Int) ^ k=((2 ^ k:Nat):Int) by rw[Int.natCast_pow];rfl]at hl
  generalize 2 ^ k=q at *
  generalize Dr a bits=f at *
  generalize lastI a bits=l at *
  conv=>whnf
  refine A3 1 2 (Ir a bits) E E E ?_
  refine oO ?_
  refine c0 hr F212 ?_
  refine oF ?_
  refine cD hf F153 ?_
  refine oD ?_
  refine cD hs F213 ?_
  refine oD ?_
  rw[An4 hle.1 qn]
  refine iW ?_
  refine iW ?_
  refine kW ?_
  refine Aq E (.cons .tmp .nil) (congrArg (fun z=>SV.val (.int .u32 z)) ?_) E
  rw[IntKind.wrap_u32]
  omega
 ·rw[if_neg hb]at hl
  rw[hl]
  rw[decide_eq_false hb]at hr
  conv=>whnf
  refine A3 1 2 (Ir a bits) E E E ?_
  refine oO ?_
  refine c0 hr F212 ?_
  refine oT ?_
  exact dN
theorem Asq (a b x:Int) (hb:0≤b∧b≤32) (ha:0≤a∧a<4294967296) (hx:0≤x∧x<4294967296):Sy.Spec Tryz.prog 275 [Agm a b,B4 x] [] (Ab (Abr a b x)) []:=cT F275 Tryz.ntmps275 fun F hF=>by
 have hi:=Aq6 a b x hb ha hx
 generalize Abr a b x=r at *
 obtain ⟨y,hy⟩:=Int.eq_ofNat_of_zero_le ha.1
 have hr:=Lx a b
 have hf:=Wb y b qn
 have hl:=Ap2 y b qn
 rw[decide_eq_true hb]at hr
 rw[← hy]at hf hl
 generalize Dr a b=f at *
 generalize lastI a b=l at *
 conv=>whnf
 refine A3 2 2 (Agm a b) E E E ?_
 refine oO ?_
 refine c0 hr F212 ?_
 refine oT ?_
 refine c0 hf F153 ?_
 refine oO ?_
 refine⟨fun h=>?_,fun h=>?_⟩
 ·have h1:f≤x:=of_decide_eq_true h
  refine oO ?_
  refine c0 hl F154 ?_
  refine oO ?_
  refine Aq E (.cons .tmp .nil) (congrArg Ab ?_) E
  cases r
  ·refine(decide_eq_false (fun h2=>?_)).symm
   simpa using hi.2 ⟨h1,h2⟩
  ·exact(decide_eq_true (hi.1 E).2).symm
 ·have h1:¬ f≤x:=of_decide_eq_false h
  refine oO ?_
  refine Aq E (.cons .tmp .nil) (congrArg Ab ?_) E
  cases r
  ·rfl
  ·exact absurd (hi.1 E).1 h1
theorem Ana (n:Net) (hn:n.Fin) (i k:Int) (hi:0≤i∧i.toNat<n.vrfs.length) (hk:0≤k∧k.toNat<n.vrfs.length) :
  Sy.Spec Tryz.prog 276 [Aj n,Aa i,Aa k] [] (Ab (leaksB n i k)) []:=cT F276 Tryz.ntmps276 fun F hF=>by
 have hp1:=A8 i n.vrfs.length
 have hp2:=A8 k n.vrfs.length
 rw[Di ⟨hi.1,by omega⟩]at hp1
 rw[Di ⟨hk.1,by omega⟩]at hp2
 have him:=hn.imports _ (List.getElem_mem hk.2)
 have hex:=hn.exports _ (List.getElem_mem hi.2)
 unfold Ap at hex
 have hlk:=leaksB.eq_1 n i k
 rw[Ak hi.2,Ak hk.2,Aaf]at hlk
 generalize leaksB n i k=res at *
 conv=>whnf
 refine A3 3 8 (Aj n) E E E ?_
 refine oO ?_
 refine c0 hp1 F46 ?_
 refine oF ?_
 refine c0 hp2 F46 ?_
 refine oF ?_
 refine⟨fun h=>?_,fun h=>?_⟩
 ·rw[h,Bool.true_or]at hlk
  subst hlk
  refine oO ?_
  exact dN
 rw[h,Bool.false_or]at hlk
 refine oO ?_
 refine Ay (n.vrfs[i.toNat]'hi.2).exports.length (fun j=>∀ q (hq:q<(n.vrfs[i.toNat]'hi.2).exports.length),q<j→((n.vrfs[i.toNat]'hi.2).dev == (n.vrfs[k.toNat]'hk.2).dev && inB (n.vrfs[k.toNat]'hk.2).imports (n.vrfs[i.toNat]'hi.2).exports[q])=false) (fun j=>[(1,Aa i),(2,Aa k),(3,.ref 8 (Aj n) 0),(7,Aa j)]) (fun _=>[]) [] (fun q _ h=>absurd h qn) ⟨⟨E,E,E,E,E,E,E,E,Y⟩,Y,E,E⟩ ?_
 intro j hj hI
 refine oO ?_
 refine⟨E,hi.1,hi.2,?_⟩
 conv=>whnf
 refine⟨fun h=>?_,fun h=>?_⟩
 ·have hlt:j<(n.vrfs[i.toNat]'hi.2).exports.length:=by simpa using h
  have hj0:((j:Nat):Int).toNat<(n.vrfs[i.toNat]'hi.2).exports.length:=by simpa using hlt
  have hin:=E9 (n.vrfs[k.toNat]'hk.2).imports ((n.vrfs[i.toNat]'hi.2).exports[((j:Nat):Int).toNat]'hj0) him
  have hnx:((n.vrfs[i.toNat]'hi.2).dev == (n.vrfs[k.toNat]'hk.2).dev && inB (n.vrfs[k.toNat]'hk.2).imports ((n.vrfs[i.toNat]'hi.2).exports[((j:Nat):Int).toNat]'hj0))=false→∀ q (hq:q<(n.vrfs[i.toNat]'hi.2).exports.length),q<j+1→((n.vrfs[i.toNat]'hi.2).dev == (n.vrfs[k.toNat]'hk.2).dev && inB (n.vrfs[k.toNat]'hk.2).imports (n.vrfs[i.toNat]'hi.2).exports[q])=false:=fun hz q hq hqj=>by
   rcases Nat.lt_or_ge q j with h1 | h1
   ·exact hI q hq h1
   ·have:q=j:=by omega
    subst this;exact hz
  refine oO ?_
  refine⟨E,hi.1,hi.2,?_⟩
  conv=>whnf
  refine⟨E,hk.1,hk.2,?_⟩
  conv=>whnf
  refine⟨fun h=>?_,fun h=>?_⟩
  ·have hdv:=h
   rw[h,Bool.true_and]at hlk
   refine oD ?_
   refine⟨E,hk.1,hk.2,?_⟩
   conv=>whnf
   refine⟨E,hi.1,hi.2,?_⟩
   conv=>whnf
   refine⟨E,by omega,hj0,?_⟩
   conv=>whnf
   refine cD hin F36 ?_
   refine oD ?_
   refine kW ?_
   refine⟨fun h=>?_,fun h=>?_⟩
   ·have e:(n.vrfs[i.toNat]'hi.2).exports.any (inB (n.vrfs[k.toNat]'hk.2).imports)=true:=List.any_eq_true.2 ⟨_,List.getElem_mem hlt,h⟩
    rw[e]at hlk
    subst hlk
    refine oO ?_
    exact dN
   ·refine oO ?_
    refine iW ?_
    exact Av [] hI qn (hnx (by rw[hdv,h];rfl)) ⟨⟨E,E,E,E,E,E,E,E,Y⟩,Y,E,E⟩
  ·have hdv:=h
   rw[h,Bool.false_and]at hlk
   refine oD ?_
   refine⟨qq,?_⟩
   ((conv=>whnf);refine aF ?_;refine rg ?_;conv=>whnf)
   refine iW ?_
   exact Av [] hI qn (hnx (by rw[hdv];rfl)) ⟨⟨E,E,E,E,E,E,E,E,Y⟩,Y,E,E⟩
 ·have:j=(n.vrfs[i.toNat]'hi.2).exports.length:=qB h
  subst this
  have e:((n.vrfs[i.toNat]'hi.2).dev == (n.vrfs[k.toNat]'hk.2).dev && (n.vrfs[i.toNat]'hi.2).exports.any (inB (n.vrfs[k.toNat]'hk.2).imports))=false:=by
   cases hd:(n.vrfs[i.toNat]'hi.2).dev == (n.vrfs[k.toNat]'hk.2).dev
   ·rfl
   ·rw[Bool.true_and,List.any_eq_false]
    intro x hx
    obtain ⟨q,hq,rfl⟩:=List.getElem_of_mem hx
    have:=hI q hq hq
    rw[hd,Bool.true_and]at this
    simp[this]
  rw[e]at hlk
  subst hlk
  refine oO ?_
  exact dN
theorem Zf (n:Net) (hb:Ae n=true) (i:Int) (hi:InIrbs n i):Sy.Spec Tryz.prog 274 [Aj n,Aa i] [] (Aa (Eb n i)) []:=cT F274 Tryz.ntmps274 fun F hF=>by
 have hf:=(Dj hb hi.2).1
 rw[Eb,Ak hi.2,Ak hf.2]
 obtain ⟨x,hx⟩:∃ x,n.irbs[i.toNat]'hi.2=x:=⟨_,rfl⟩
 have hf2:(0≤x.domain∧x.domain.toNat<n.domains.length):=by rw[← hx];exact hf
 have e:n.domains[(n.irbs[i.toNat]'hi.2).domain.toNat]'hf.2=n.domains[x.domain.toNat]'hf2.2:=by simp only[hx]
 rw[e]
 obtain ⟨d,hd⟩:∃ d,n.domains[x.domain.toNat]'hf2.2=d:=⟨_,rfl⟩
 rw[hd]
 conv=>whnf
 refine⟨E,hi.1,hi.2,?_⟩
 rw[hx]
 conv=>whnf
 refine⟨E,hf2.1,hf2.2,?_⟩
 rw[hd]
 conv=>whnf
 refine kW ?_
 exact dN
theorem Aiu (n:Net) (irb a b:Int) (hk:InIrbs n irb) (ha:InIrbs n a) (hb:InIrbs n b) :
  Sy.Spec Tryz.prog 277 [Aj n,Aa irb,Aa a,Aa b] [] (Ab (decide (0<cmpR n irb a b))) []:=cT F277 Tryz.ntmps277 fun F hF=>by
 have hc:=cmpR.eq_1 n irb a b
 unfold Abj at hc
 rw[Ak hk.2,Ak ha.2,Ak hb.2]at hc
 generalize cmpR n irb a b=r at *
 conv=>whnf
 refine⟨E,ha.1,ha.2,?_⟩
 conv=>whnf
 refine⟨E,hb.1,hb.2,?_⟩
 conv=>whnf
 refine kW ?_
 refine⟨fun h=>?_,fun h=>?_⟩
 ·have h1:(n.irbs[a.toNat]'ha.2).bits≠(n.irbs[b.toNat]'hb.2).bits:=by simpa using h
  rw[if_pos h1]at hc
  subst hc
  refine oO ?_
  refine⟨E,ha.1,ha.2,?_⟩
  conv=>whnf
  refine⟨E,hb.1,hb.2,?_⟩
  conv=>whnf
  refine kW ?_
  refine Aq E (.cons .tmp .nil) (congrArg Ab ?_) E
  refine decide_eq_decide.2 ?_
  omega
 ·have h1:¬ (n.irbs[a.toNat]'ha.2).bits≠(n.irbs[b.toNat]'hb.2).bits:=by simpa using h
  rw[if_neg h1]at hc
  refine oO ?_
  refine⟨E,ha.1,ha.2,?_⟩
  conv=>whnf
  refine⟨E,hk.1,hk.2,?_⟩
  conv=>whnf
  refine⟨fun h=>?_,fun h=>?_⟩
  ·have h2:(n.irbs[a.toNat]'ha.2).vrf=(n.irbs[irb.toNat]'hk.2).vrf:=by simpa using h
   rw[if_pos h2]at hc
   refine oD ?_
   refine⟨E,hb.1,hb.2,?_⟩
   conv=>whnf
   refine⟨E,hk.1,hk.2,?_⟩
   conv=>whnf
   refine kW ?_
   refine Aq E (.cons .tmp .nil) (congrArg Ab ?_) E
   subst hc
   split<;>simp_all
  ·have h2:¬ (n.irbs[a.toNat]'ha.2).vrf=(n.irbs[irb.toNat]'hk.2).vrf:=by simpa using h
   rw[if_neg h2]at hc
   refine oD ?_
   refine kW ?_
   refine Aq E (.cons .tmp .nil) (congrArg Ab ?_) E
   subst hc
   split<;>simp_all
def Hc (c:Int→Int→Int) (l:List Int):Int:=if l=[] then -1 else Sn c l (l.length-1)
theorem Agv (c:Int→Int→Int) (l:List Int) (x:Int) (j:Nat) (h:j+1≤l.length):Sn c (l++[x]) j=Sn c l j:=by
 rw[Sn,Sn,List.drop_append_of_le_length qn,List.take_append_of_le_length (by simp;omega)]
 congr 1
 cases l with
 | nil=>simp at h
 | cons a l=>rfl
theorem Ak3 (c:Int→Int→Int) (l:List Int) (x:Int) (h:l≠[]):Hc c (l++[x])=if 0<c x (Hc c l) then x else Hc c l:=by
 have hl:0<l.length:=List.length_pos_iff.2 h
 rw[Hc,if_neg qz,Hc,if_neg h]
 have e:(l++[x]).length-1=(l.length-1)+1:=by simp;omega
 rw[e,Wi c (l++[x]) (l.length-1) (by simp;omega),Agv c l x (l.length-1) qn]
 have e2:(l++[x])[l.length-1+1]'(by simp;omega)=x:=by
  have:l.length-1+1=l.length:=by omega
  simp[this]
 rw[e2]
theorem Aop (c:Int→Int→Int) (x:Int):Hc c [x]=x:=by
 rw[Hc,if_neg qz];rfl
theorem Adk (c:Int→Int→Int) (l:List Int) (h:l≠[]):Hc c l∈l:=by
 have hl:0<l.length:=List.length_pos_iff.2 h
 rw[Hc,if_neg h]
 exact U6 c l hl _ qn
theorem filtI_in {p:Nat→Bool} {j:Nat} {x:Int} (h:x∈Ez p j):0≤x∧x<j:=by
 have:=filtI_mem.1 h
 omega
theorem Aju {n:Net} {irb dst:Int} (h:∀ i,i<n.irbs.length→H3 n irb dst i=false) :
  lookT n irb dst=if L4 n irb dst=[] then (0,false) else (Hc (cmpR n irb) (L4 n irb dst),true):=by
 have:¬ (List.range n.irbs.length).any (H3 n irb dst)=true:=fun ha=>by
  obtain ⟨i,hi,ht⟩:=List.any_eq_true.1 ha
  rw[h i (List.mem_range.1 hi)]at ht
  cases ht
 rw[lookT,if_neg this]
 split
 ·rfl
 ·rename_i hw
  rw[Hc,if_neg hw]
set_option maxHeartbeats 16000000 in
theorem Air (n:Net) (hn:n.Fin) (hb:Ae n=true) (hu:Addrs n) (irb dst:Int) (hk:InIrbs n irb) (hd:0≤dst∧dst<4294967296) :
  Sy.Spec Tryz.prog 214 [Aj n,Aa irb,B4 dst] [] (.tup [Aa (lookT n irb dst).1,Ab (lookT n irb dst).2]) []:=cT F214 Tryz.ntmps214 fun F hF=>by
 have hp:=A8 irb n.irbs.length
 rw[Di ⟨hk.1,by have:=hk.2;omega⟩]at hp
 have hlk:=Aju (n:=n) (irb:=irb) (dst:=dst)
 have hlk0:=lookT.eq_1 n irb dst
 have hwl:L4 n irb dst=Ez (La n irb dst) n.irbs.length:=rfl
 generalize lookT n irb dst=res at *
 have hsi:=hn.irbs
 unfold Ap at hsi
 have qk:=Zf n hb irb hk
 have hfk:=(Dj hb hk.2).2.1
 conv=>whnf
 refine A3 3 8 (Aj n) E E E ?_
 refine oO ?_
 refine c0 hp F46 ?_
 refine oF ?_
 refine Ay n.irbs.length (fun j=>∀ i,i<j→H3 n irb dst i=false) (fun j=>[(1,Aa irb),(2,B4 dst),(3,.ref 8 (Aj n) 0),(8,Aa (Hc (cmpR n irb) (Ez (La n irb dst) j))),(9,Aa j)]) (fun _=>[]) [] (fun i hi=>absurd hi qn) ⟨⟨E,E,E,E,E,E,E,E,E,E,Y⟩,Y,E,E⟩ ?_
 intro j hj hI
 refine oO ?_
 refine⟨fun h=>?_,fun h=>?_⟩
 ·have hlt:j<n.irbs.length:=by simpa using h
  have hj0:((j:Nat):Int).toNat<n.irbs.length:=by simpa using hlt
  have hij:InIrbs n (j:Int):=⟨by omega,hj0⟩
  have qj:=Zf n hb j hij
  have hsucc:=Od (La n irb dst) j
  have hta:H3 n irb dst j=(Eb n j == Eb n irb && (nth n.irbs j).addr == dst):=rfl
  have hwa:La n irb dst j=(Abr (nth n.irbs j).addr (nth n.irbs j).bits dst && Acb n irb j):=rfl
  have hse:Acb n irb j=(Eb n irb == Eb n j && leaksB n (nth n.irbs j).vrf (nth n.irbs irb).vrf):=rfl
  have enj:nth n.irbs (j:Int)=n.irbs[((j:Nat):Int).toNat]'hj0:=Ak (l:=n.irbs) (i:=(j:Int)) hj0
  rw[enj]at hta hwa hse
  rw[Ak hk.2]at hse
  have hfj:=Dj hb hj0
  have hua:=hu _ (List.getElem_mem hj0)
  have q1:=Asq (n.irbs[((j:Nat):Int).toNat]'hj0).addr (n.irbs[((j:Nat):Int).toNat]'hj0).bits dst hfj.2.2 hua hd
  have q2:=Ana n hn (n.irbs[((j:Nat):Int).toNat]'hj0).vrf (n.irbs[irb.toNat]'hk.2).vrf hfj.2.1 hfk
  have hnx:H3 n irb dst j=false→∀ i,i<j+1→H3 n irb dst i=false:=fun hz i hi=>by
   rcases Nat.lt_or_ge i j with h1 | h1
   ·exact hI i h1
   ·have:i=j:=by omega
    subst this;exact hz
  have hbs:=Ak3 (cmpR n irb) (Ez (La n irb dst) j) j
  have hbm:=Adk (cmpR n irb) (Ez (La n irb dst) j)
  have hbi:=fun x=>@filtI_in (La n irb dst) j x
  have hbo:=Aop (cmpR n irb) j
  have hbn:Hc (cmpR n irb) []=-1:=rfl
  generalize Ez (La n irb dst) j=u at *
  refine oO ?_
  refine cD qj F274 ?_
  refine oD ?_
  refine cD qk F274 ?_
  refine oD ?_
  refine kW ?_
  refine⟨fun h2=>?_,fun h2=>?_⟩
  ·have h3:Eb n j≠Eb n irb:=by simpa using h2
   have e1:H3 n irb dst j=false:=by rw[hta];simp[h3]
   have e2:La n irb dst j=false:=by rw[hwa,hse];simp[Ne.symm h3]
   rw[if_neg (by rw[e2];simp)]at hsucc
   refine oO ?_
   refine iW ?_
   exact Av [] hI qn (hnx e1) ⟨⟨E,E,E,E,E,E,congrArg (fun z=>Aa (Hc (cmpR n irb) z)) hsucc,E,E,E,Y⟩,Y,E,E⟩
  have h3:Eb n j=Eb n irb:=by simpa using h2
  refine oO ?_
  refine⟨E,hij.1,hj0,?_⟩
  conv=>whnf
  refine⟨fun h4=>?_,fun h4=>?_⟩
  ·have e1:H3 n irb dst j=true:=by rw[hta,h3,h4];simp
   rw[if_pos (List.any_eq_true.2 ⟨j,List.mem_range.2 hlt,e1⟩)]at hlk0
   subst hlk0
   refine oO ?_
   exact dN
  have e1:H3 n irb dst j=false:=by rw[hta,h4];simp
  obtain ⟨hv,hhv⟩:∃ hv,Abr (n.irbs[((j:Nat):Int).toNat]'hj0).addr (n.irbs[((j:Nat):Int).toNat]'hj0).bits dst=hv:=⟨_,rfl⟩
  obtain ⟨lv,hlv⟩:∃ lv,leaksB n (n.irbs[((j:Nat):Int).toNat]'hj0).vrf (n.irbs[irb.toNat]'hk.2).vrf=lv:=⟨_,rfl⟩
  rw[hhv]at q1 hwa
  rw[hlv]at q2 hse
  cases hv
  ·rw[if_neg (by rw[hwa];simp)]at hsucc
   refine oO ?_
   refine⟨E,hij.1,hj0,?_⟩
   conv=>whnf
   refine cD q1 F275 ?_
   (refine oD ?_;refine aT ?_;refine oD ?_)
   refine⟨qq,?_⟩
   ((conv=>whnf);refine aT ?_;refine rg ?_;conv=>whnf)
   refine iW ?_
   exact Av [] hI qn (hnx e1) ⟨⟨E,E,E,E,E,E,congrArg (fun z=>Aa (Hc (cmpR n irb) z)) hsucc,E,E,E,Y⟩,Y,E,E⟩
  cases lv
  ·rw[if_neg (by rw[hwa,hse];simp)]at hsucc
   refine oO ?_
   refine⟨E,hij.1,hj0,?_⟩
   conv=>whnf
   refine cD q1 F275 ?_
   (refine oD ?_;refine aF ?_;refine oD ?_)
   refine⟨E,hij.1,hj0,?_⟩
   conv=>whnf
   refine⟨E,hk.1,hk.2,?_⟩
   conv=>whnf
   refine cD q2 F276 ?_
   refine oD ?_
   refine⟨qq,?_⟩
   ((conv=>whnf);refine aT ?_;refine rg ?_;conv=>whnf)
   refine iW ?_
   exact Av [] hI qn (hnx e1) ⟨⟨E,E,E,E,E,E,congrArg (fun z=>Aa (Hc (cmpR n irb) z)) hsucc,E,E,E,Y⟩,Y,E,E⟩
  rw[if_pos (by rw[hwa,hse,h3];simp)]at hsucc
  refine oO ?_
  refine⟨E,hij.1,hj0,?_⟩
  conv=>whnf
  refine cD q1 F275 ?_
  (refine oD ?_;refine aF ?_;refine oD ?_)
  refine⟨E,hij.1,hj0,?_⟩
  conv=>whnf
  refine⟨E,hk.1,hk.2,?_⟩
  conv=>whnf
  refine cD q2 F276 ?_
  refine oD ?_
  refine⟨qq,?_⟩
  ((conv=>whnf);refine aF ?_;refine rg ?_;conv=>whnf)
  refine⟨fun h=>?_,fun h=>?_⟩
  ·have hlt0:Hc (cmpR n irb) u<0:=of_decide_eq_true h
   have hne:u=[]:=Classical.byContradiction fun hne=>by have:=hbi _ (hbm hne);omega
   subst hne
   refine oT ?_
   refine iW ?_
   exact Av [] hI qn (hnx e1) ⟨⟨E,E,E,E,E,E,congrArg Aa (by rw[hsucc];exact hbo),E,E,E,Y⟩,Y,E,E⟩
  have hge0:¬ Hc (cmpR n irb) u<0:=of_decide_eq_false h
  have hne:u≠[]:=fun e=>by rw[e]at hge0;exact hge0 (by rw[hbn];omega)
  have hbe:=hbi _ (hbm hne)
  have hbs2:=hbs hne
  rw[← hsucc]at hbs2
  have hbI:InIrbs n (Hc (cmpR n irb) u):=⟨hbe.1,by omega⟩
  have q3:=Aiu n irb j (Hc (cmpR n irb) u) hk hij hbI
  generalize Hc (cmpR n irb) u=b at *
  refine oO ?_
  refine c0 q3 F277 ?_
  by_cases hc:0<cmpR n irb j b
  ·rw[if_pos hc]at hbs2
   rw[decide_eq_true hc]
   refine oT ?_
   refine iW ?_
   exact Av [] hI qn (hnx e1) ⟨⟨E,E,E,E,E,E,congrArg Aa hbs2,E,E,E,Y⟩,Y,E,E⟩
  ·rw[if_neg hc]at hbs2
   rw[decide_eq_false hc]
   refine oF ?_
   refine iW ?_
   exact Av [] hI qn (hnx e1) ⟨⟨E,E,E,E,E,E,congrArg Aa hbs2,E,E,E,Y⟩,Y,E,E⟩
 ·have hje:j=n.irbs.length:=qB h
  subst hje
  have hlk2:=hlk (fun i hi=>hI i hi)
  rw[hwl]at hlk2
  have hbm:=Adk (cmpR n irb) (Ez (La n irb dst) n.irbs.length)
  have hbi:=fun x=>@filtI_in (La n irb dst) n.irbs.length x
  have hbn:Hc (cmpR n irb) []=-1:=rfl
  generalize Ez (La n irb dst) n.irbs.length=u at *
  by_cases hne:u=[]
  ·rw[if_pos hne]at hlk2
   subst hlk2 hne
   rw[hbn]
   refine oT ?_
   exact dN
  rw[if_neg hne]at hlk2
  have hbe:=hbi _ (hbm hne)
  generalize Hc (cmpR n irb) u=b at *
  subst hlk2
  refine oO ?_
  refine⟨fun h=>absurd (of_decide_eq_true h) qn,fun _=>?_⟩
  refine oO ?_
  exact dN
end Go.Sy.YteinjapglfkamaaGreat
namespace Go.Sy.YteinjapglfkamaaGreat
open Go.Proofs
attribute [local irreducible] Go.Sy.G Go.Sy.DR
set_option maxRecDepth 100000
set_option maxHeartbeats 4000000
theorem Al9 {n:Net} (hb:Ae n=true) {d:Int} (hd:DomIn n d) (hi:0≤(n.domains[d.toNat]'hd.2).irb) :
  ∃ h:(n.domains[d.toNat]'hd.2).irb.toNat<n.irbs.length,(n.irbs[(n.domains[d.toNat]'hd.2).irb.toNat]'h).domain=d:=by
 simp only[Ae,Bool.and_eq_true]at hb
 have:=allB_iff.1 hb.1.1.1.1.1.1.1.2 _ hd.2
 simp only[I1,Bool.and_eq_true,Bool.or_eq_true,beq_iff_eq]at this
 have h2:=this.1.2
 rcases h2 with h2 | ⟨h2,h3⟩
 ·omega
 ·have h4:=Ba h2
  have h5:(n.domains[d.toNat]'hd.2).irb.toNat<n.irbs.length:=by omega
  rw[Ak h5]at h3
  have:=hd.1
  exact⟨h5,by omega⟩
theorem Ata {n:Net} (hb:Ae n=true) {i:Nat} (hi:i<n.irbs.length):(nth n.domains (n.irbs[i]'hi).domain).irb=(i:Int):=by
 have:=Auc hb hi
 simp only[Wm,Bool.and_eq_true,beq_iff_eq]at this
 exact this.1.1.2
theorem Afd (n:Net) (hn:n.Fin) (hm0:n.Num) (dom:Int) (m:Nat) :
  Sy.Spec Tryz.prog 232 [Aj n,Aa dom,As m] [] (.tup [Aa (routerT n dom m).1,Ab (routerT n dom m).2]) []:=cT F232 Tryz.ntmps232 fun F hF=>by
 have hres:=routerT.eq_1 n dom m
 generalize routerT n dom m=res at *
 have hr:=B0 n hn
 conv=>whnf
 refine⟨fun h=>?_,fun h=>?_⟩
 ·have hp:Ai dom n.domains.length=false:=by
   cases hx:Ai dom n.domains.length
   ·rfl
   ·have:=Ba hx;have:=of_decide_eq_true h;omega
  rw[if_pos (.inl hp)]at hres
  subst hres
  (refine oT ?_;refine bT ?_)
  exact dN
 have h0:0≤dom:=qB h
 clear h
 refine oO ?_
 refine⟨fun h=>?_,fun h=>?_⟩
 ·have hp:Ai dom n.domains.length=false:=by
   cases hx:Ai dom n.domains.length
   ·rfl
   ·have:=Ba hx;have:=of_decide_eq_true h;omega
  rw[if_pos (.inl hp)]at hres
  subst hres
  refine oT ?_
  exact dN
 have h1:dom<n.domains.length:=qB h
 clear h
 have hpl:Ai dom n.domains.length=true:=Di ⟨h0,h1⟩
 refine oO ?_
 refine c0 hr F23 ?_
 cases hbn:Ae n
 ·rw[if_pos (.inr hbn)]at hres
  subst hres
  refine oT ?_
  exact dN
 rw[if_neg (by simp[hbn,hpl])]at hres
 have hd:=Ha hpl
 have e2:nth n.domains dom=n.domains[dom.toNat]'hd.2:=Ak hd.2
 have hir:=Al9 hbn hd
 obtain ⟨d,hdd⟩:∃ d,n.domains[dom.toNat]'hd.2=d:=⟨_,rfl⟩
 simp only[hdd]at e2 hir
 rw[e2]at hres
 refine oF ?_
 refine⟨E,hd.1,hd.2,?_⟩
 rw[hdd]
 conv=>whnf
 refine⟨fun h=>?_,fun h=>?_⟩
 ·rw[if_pos (.inl (of_decide_eq_true h))]at hres
  subst hres
  refine oT ?_
  exact dN
 have hi0:0≤d.irb:=qB h
 clear h
 obtain ⟨hi1,hi2⟩:=hir hi0
 have ha:=hm0.addr _ (List.getElem_mem hi1)
 rw[Ak hi1]at hres
 obtain ⟨x,hx⟩:∃ x,n.irbs[d.irb.toNat]'hi1=x:=⟨_,rfl⟩
 rw[hx]at ha hres
 obtain ⟨a,hae⟩:=Int.eq_ofNat_of_zero_le ha.1
 have qh:=Ac6 a qn
 rw[← hae]at qh
 refine oO ?_
 refine⟨E,hi0,hi1,?_⟩
 rw[hx]
 conv=>whnf
 refine c0 qh F44 ?_
 refine oO ?_
 refine⟨fun h=>?_,fun h=>?_⟩
 ·have hne:Ec x.addr≠m:=fun e=>by
   rw[e]at h
   simp at h
  rw[if_pos (.inr hne)]at hres
  subst hres
  refine oO ?_
  exact dN
 ·have heq:Ec x.addr=m:=by
   have:(Ec x.addr:Int)=(m:Int):=by simpa using h
   omega
  rw[if_neg (fun h=>h.elim qn (fun h2=>h2 heq))]at hres
  subst hres
  refine oO ?_
  exact dN
theorem Ad2 (n:Net) (hn:n.Fin) (hm0:n.Num) (hb:Ae n=true) (dom:Int) (hpl:Ai dom n.domains.length=true) (m:Nat) :
  Sy.Spec Tryz.prog 254 [Aj n,Aa dom,As m] [] (.tup [Aa (routerT n dom m).1,Ab (routerT n dom m).2]) []:=cT F254 Tryz.ntmps254 fun F hF=>by
 have hres:=routerT.eq_1 n dom m
 generalize routerT n dom m=res at *
 rw[if_neg (by simp[hb,hpl])]at hres
 have hd:=Ha hpl
 have hir:=Al9 hb hd
 have e2:nth n.domains dom=n.domains[dom.toNat]'hd.2:=Ak hd.2
 rw[e2]at hres
 have hs:=hn.irbs
 unfold Ap at hs
 conv=>whnf
 refine A3 3 8 (Aj n) E E E ?_
 refine Ay n.irbs.length (fun j=>∀ i (h:i<n.irbs.length),i<j→¬ (n.irbs[i].domain=dom∧Ec n.irbs[i].addr=m)) (fun j=>[(1,Aa dom),(2,As m),(3,.ref 8 (Aj n) 0),(8,Aa j)]) (fun _=>[]) [] (fun i h h2=>by omega) ⟨⟨E,E,E,E,E,E,E,E,Y⟩,Y,E,E⟩ ?_
 intro j hj hI
 refine oO ?_
 refine⟨fun h=>?_,fun h=>?_⟩
 ·have hlt:j<n.irbs.length:=qA h
  have hj0:((j:Nat):Int).toNat<n.irbs.length:=by simpa using hlt
  have hid:=Ata hb hlt
  have ha:=hm0.addr _ (List.getElem_mem hlt)
  obtain ⟨x,hx⟩:∃ x,n.irbs[j]=x:=⟨_,rfl⟩
  have e1:n.irbs[((j:Nat):Int).toNat]'hj0=x:=hx
  rw[hx]at hid ha
  obtain ⟨a,hae⟩:=Int.eq_ofNat_of_zero_le ha.1
  have qh:=Ma a qn
  rw[← hae]at qh
  have next:¬ (x.domain=dom∧Ec x.addr=m)→∀ i (h:i<n.irbs.length),i<j+1→¬ (n.irbs[i].domain=dom∧Ec n.irbs[i].addr=m):=fun hf i hi h2=>by
   by_cases hij:i=j
   ·subst hij;rw[hx];exact hf
   ·exact hI i hi qn
  clear h
  refine oO ?_
  refine⟨E,by omega,hj0,?_⟩
  rw[e1]
  conv=>whnf
  refine⟨fun h=>?_,fun h=>?_⟩
  ·have hxd:x.domain=dom:=by simpa using h
   clear h
   refine oO ?_
   refine⟨E,by omega,hj0,?_⟩
   rw[e1]
   conv=>whnf
   refine c0 qh F47 ?_
   refine oO ?_
   refine⟨fun h=>?_,fun h=>?_⟩
   ·have heq:Ec x.addr=m:=by
     have:(Ec x.addr:Int)=(m:Int):=by simpa using h
     omega
    rw[hxd,e2]at hid
    have e3:nth n.irbs (j:Int)=x:=by rw[Ak hj0];exact hx
    rw[hid,if_neg (fun h=>h.elim qn (fun h2=>h2 (by rw[e3];exact heq)))]at hres
    subst hres
    refine oO ?_
    exact dN
   ·have hne:¬ Ec x.addr=m:=fun e=>by rw[e]at h;simp at h
    refine oO ?_
    refine iW ?_
    exact Av [] hI hlt (next (fun h=>hne h.2)) ⟨⟨E,E,E,E,E,E,E,E,Y⟩,Y,E,E⟩
  ·have hne:¬ x.domain=dom:=by simpa using h
   refine oF ?_
   refine iW ?_
   exact Av [] hI hlt (next (fun h=>hne h.1)) ⟨⟨E,E,E,E,E,E,E,E,Y⟩,Y,E,E⟩
 ·have hjj:j=n.irbs.length:=qB h
  subst hjj
  have hr0:res=(0,false):=by
   by_cases hi0:(n.domains[dom.toNat]'hd.2).irb<0
   ·rw[if_pos (.inl hi0)]at hres;exact hres
   ·obtain ⟨hi1,hi2⟩:=hir qn
    rw[Ak hi1]at hres
    have:=hI _ hi1 hi1
    rw[if_pos (.inr (fun e=>this ⟨hi2,e⟩))]at hres
    exact hres
  subst hr0
  refine oO ?_
  exact dN
end Go.Sy.YteinjapglfkamaaGreat
