/- Parts of a proof. -/
import Derived.Test.YtolnneiipmfgaaaGreatDoorYC5
set_option linter.all false
set_option linter.unusedVariables false
set_option linter.unusedSimpArgs false
set_option linter.deprecated false
namespace Go.Sy
open Go.RowKit
theorem Spec.calls{P:Program}{f:FuncId}{A:List SV}{R:SV}(h:Sy.Spec P f A [] R []){w:World}{vs:List Value}(hA:RdL κ0 w A vs):Calls P f vs.toArray w λe w'=>∃v κ',e=.returned v∧Rd κ' w' R v∧Below w.heap.size w w':=by
 refine(h κ0 w vs (inv0 w) (λk hk=>yB rfl hk) hA (λp hp=>by cases hp)).mono ?_;rintro e w' ⟨v,κ',rfl,ctx,inv,hR,_⟩;exact⟨v,κ',E,hR,Abc ctx⟩
theorem Spec.calls_tup2{P:Program}{f:FuncId}{A:List SV}{a b:Value}(h:Sy.Spec P f A [] (.tup [.val a,.val b]) []){w:World}{vs:List Value}(hA:RdL κ0 w A vs):Calls P f vs.toArray w λe w'=>e=.returned (.tuple #[a,b])∧Below w.heap.size w w' :=
 (h.calls hA).mono λe w' ⟨v,κ',he,hv,hb⟩=>by
  simp only[Rd,RdL]at hv;obtain ⟨cs,rfl,_,_,rfl,rfl,_,_,rfl,rfl,rfl⟩:=hv;exact⟨he,hb⟩
theorem Spec.of_calls2{P:Program}{f:FuncId}{A:List SV}{H:Obs}{a b:Value}(h:∀(κ:Ka) (w:World) (vs:List Value),Inv κ w→RdL κ w A vs→H.ok κ w→Calls P f vs.toArray w λe w'=>e=.returned (.tuple #[a,b])∧Below w.heap.size w w'):Spec P f A H (.tup [.val a,.val b]) H:=by
 intro κ w vs hi _ hr ho;refine(h κ w vs hi hr ho).mono λe w' hw=>?_
 obtain ⟨he,hw⟩:=hw;have g:Grew w w':=⟨hw.os,hw.tape,hw.output,hw.size,hw.block⟩
 have st:=Aby hi g;exact⟨.tuple #[a,b],κ,he,(Ctx.refl κ w).step st.2 st.1,st.2,by simp[Rd,RdL],λp hp=>ObOK.step st.1 y_ p.2 (ho p hp)⟩
def Agt{w w':World}(h:Below w.heap.size w w'):KeepsOthers w w':=⟨h.size,λk o hk _=>(h.block k (wW.1 hk).1).trans hk⟩
def Ahz{A B:World}{row:Option Nat}{k:Nat}{v:Value}(h:A.cell? ⟨k,0,none⟩=some v)(hg:A.grownBy B row)(hr:row≠some k):B.cell? ⟨k,0,none⟩=some v∧B.frozen? ⟨k,0,none⟩=A.frozen? ⟨k,0,none⟩:=by
 obtain ⟨o,ho,_⟩:=cells_of_cell h;obtain ⟨_,_,_,_,h5⟩:=hg;have e:B.heap[k]? = A.heap[k]?:=h5 k (wW.1 ho).1 (λe=>hr e.symm);refine⟨(World.cell?_of_block e).trans h,?_⟩;unfold World.frozen?;rw[e]
def Var1(W:World)(k:Nat)(v:Value):Prop:=W.cell? ⟨k,0,none⟩=some v∧W.frozen? ⟨k,0,none⟩=false
theorem Var1.at{W:World}{B:Nat}{v:Value}{t:TypeId}(h:W.heap[B]? = some (.cells #[v] t (0,0))):Var1 W B v:=by
 constructor<;>simp[World.cell?,World.frozen?,h]
theorem Var1.below{A B:World}{k:Nat}{v:Value}(h:Var1 A k v)(hb:Below A.heap.size A B):Var1 B k v:=by
 obtain ⟨o,ho,_⟩:=cells_of_cell h.1;have e:B.heap[k]? = A.heap[k]?:=hb.block k (wW.1 ho).1;refine⟨(World.cell?_of_block e).trans h.1,?_⟩;rw[←h.2];unfold World.frozen?;rw[e]
theorem Var1.new(W:World)(v:Value)(t:TypeId){k:Nat}(hk:k=W.heap.size):Var1 (W.alloc (.cells #[v] t)) k v:=by
 subst hk;exact Var1.at (World.alloc_heap_new W _)
theorem Var1.grown{A B:World}{row:Option Nat}{k:Nat}{v:Value}(h:Var1 A k v)(hg:A.grownBy B row)(hr:row≠some k):Var1 B k v :=
 ⟨(Ahz h.1 hg hr).1,(Ahz h.1 hg hr).2.trans h.2⟩
theorem Var1.alloc{A:World}{k:Nat}{v:Value}(h:Var1 A k v)(o:Obj):Var1 (A.alloc o) k v:=h.grown (World.grownBy_alloc A o none) y_
theorem Var1.set{A:World}{k:Nat}{v:Value}(h:Var1 A k v)(u:Value):Var1 (A.setCell ⟨k,0,none⟩ u) k u :=
 ⟨World.cell?_setCell_same' _ _ _ (by rw[h.1];rfl),by rw[World.frozen?_setCell];exact h.2⟩
theorem Var1.other{A:World}{k b:Nat}{v:Value}(h:Var1 A k v)(hb:b≠k)(u:Value):Var1 (A.setCell ⟨b,0,none⟩ u) k v :=
 ⟨(World.cell?_setCell_other _ _ _ _ (by intro e;cases e;exact hb rfl)).trans h.1,by rw[World.frozen?_setCell];exact h.2⟩
end Go.Sy
namespace Go.Proofs
open Go.RowKit Go.Shelf Go.Sy Go.Sy.YtolnneiipmfgaaaGreatDoor
attribute [local go_sem] Oper.semAt_some
theorem Tryz.splitSeq_calls(s:ByteArray)(w:World):Calls Tryz.prog 159 #[.string s,.string ⟨#[46]⟩] w λe w'=>
  e=.returned (.func (.func 286) #[] #[.pointer (some ⟨w.heap.size+1,0,none⟩),.pointer (some ⟨w.heap.size,0,none⟩),.pointer (some ⟨w.heap.size+2,0,none⟩)]) ∧
   w'=((w.alloc (.cells #[.string s] 9)).alloc (.cells #[.string ⟨#[46]⟩] 9)).alloc (.cells #[.int .i64 0] 3):=by
 have q:Calls Tryz.prog 217 #[.string s,.string ⟨#[46]⟩,.int .i64 0] w λe w'=>
  e=.returned (.func (.func 286) #[] #[.pointer (some ⟨w.heap.size+1,0,none⟩),.pointer (some ⟨w.heap.size,0,none⟩),.pointer (some ⟨w.heap.size+2,0,none⟩)]) ∧
   w'=((w.alloc (.cells #[.string s] 9)).alloc (.cells #[.string ⟨#[46]⟩] 9)).alloc (.cells #[.int .i64 0] 3):=by
  refine(callsIn_wide (n:=3)).1 ?_;refine callsIn_of_wp Tryz.func217 E Y ?_ E;simp only[Tryz.ntmps217,uW,yM,xF,Nat.reduceAdd,Nat.reduceSub,Array.replicate_succ,Array.replicate_zero,List.push_toArray,List.append_toArray,wP,xY]
  gi_wp2
  go_ret
  exact⟨E,E⟩
 refine(callsIn_wide (n:=3)).1 ?_;refine callsIn_of_wp Tryz.func159 E Y ?_ E;simp only[Tryz.ntmps159,uW,yM,xF,Nat.reduceAdd,Nat.reduceSub,Array.replicate_succ,Array.replicate_zero,List.push_toArray,List.append_toArray,wP,xY]
 gi_wp2
 refine⟨Y,?_⟩;refine(callsIn_wide.2 q).mono ?_;rintro e w' ⟨rfl,rfl⟩
 gi_wp2
 go_ret
 exact⟨E,E⟩
def Aec:List ByteArray→Int
 |[]=>0
 |l=>l.foldl (λa x=>bits .or .u32 (IntKind.u32.wrap (a*2^8)) (IntKind.u32.wrap (smallT x 255).1)) 0
def Azg(x:ByteArray):Bool:=(smallT x 255).2
def D4(s:ByteArray):Int×Bool:=if (C2 46 s).length=4∧(C2 46 s).all Azg=true then (Aec (C2 46 s),true) else (0,false)
def Zb(l:List ByteArray)(x:ByteArray):Aec (l++[x])=bits .or .u32 (IntKind.u32.wrap (Aec l*2^8)) (IntKind.u32.wrap (smallT x 255).1):=by
 cases l with
 |nil=>rfl
 |cons y l=>simp[Aec]
set_option maxRecDepth 100000 in
set_option maxHeartbeats 4000000 in
theorem Tryz.addrRead_calls(s:ByteArray)(hs:s.size<100000)(w:World):Calls Tryz.prog 92 #[.string s] w λe w'=>e=.returned (.tuple #[.int .u32 (D4 s).1,.bool (D4 s).2])∧Below w.heap.size w w':=by
 refine(callsIn_wide (n:=5)).1 ?_;refine callsIn_of_wp_marks Tryz.func92 E Y ?_ E;simp only[Tryz.ntmps92,uW,yM,xF,Nat.reduceAdd,Nat.reduceSub,Array.replicate_succ,Array.replicate_zero,List.push_toArray,List.append_toArray,wP,xY]
 gi_wp2
 refine wpIn_wide.2 (wp_scope_straight ((wpIn_wide (n:=5)).1 ?_))
 gi_wp2
 refine wpIn_label ?_
 gi_wp2
 refine⟨Y,?_⟩;refine(callsIn_wide.2 (Tryz.splitSeq_calls s _)).mono ?_;rintro e w' ⟨rfl,rfl⟩
 gi_wp2
 obtain ⟨W0,ng⟩:∃W0,((((w.alloc (.cells #[.int .u32 0] 94)).alloc (.cells #[.int .i64 0] 3)).alloc (.cells #[.string s] 9)).alloc (.cells #[.string ⟨#[46]⟩] 9)).alloc (.cells #[.int .i64 0] 3)=W0:=⟨_,rfl⟩
 have bh:W0.heap.size=w.heap.size+5:=by rw[←ng];simp
 have hB0:Below w.heap.size w W0:=by
  rw[←ng];exact(((((Below.refl _ w).alloc (yD _) _).alloc Go.Sy.y_ _).alloc (by simp;omega) _).alloc (by simp;omega) _).alloc (by simp;omega) _
 have ca:Var1 W0 w.heap.size (.int .u32 0):=by rw[←ng];exact((((Var1.new _ _ _ rfl).alloc _).alloc _).alloc _).alloc _
 have ci:Var1 W0 (w.heap.size+1) (.int .i64 0):=by rw[←ng];exact(((Var1.new (w.alloc _) _ _ Go.Sy.y_).alloc _).alloc _).alloc _
 have cs:Var1 W0 (w.heap.size+2) (.string s):=by rw[←ng];exact((Var1.new ((w.alloc _).alloc _) _ _ Go.Sy.y_).alloc _).alloc _
 have cp:Var1 W0 (w.heap.size+3) (.string ⟨#[46]⟩):=by rw[←ng];exact(Var1.new (((w.alloc _).alloc _).alloc _) _ _ Go.Sy.y_).alloc _
 have cv:Var1 W0 (w.heap.size+4) (.int .i64 0):=by rw[←ng];exact Var1.new ((((w.alloc _).alloc _).alloc _).alloc _) _ _ Go.Sy.y_
 have cb:SeqBox W0 (w.heap.size+3) (w.heap.size+2) (w.heap.size+4) s:=⟨cp.1,cs.1,cv.1,cs.2⟩
 rw[ng];clear ng;have gm:∀{k:Nat} {W:World} {row:Option Nat},k≤w.heap.size+1→(∀r,row=some r→r=w.heap.size+2∨(W0.heap.size≤r∧∃o:Obj,W.heap[r]? = some o∧o.isCells=false))→row≠some k:=λhk hr e=>by
  rcases hr _ e with h|⟨h,_⟩<;>omega
 have ww:∀{W:World} {row:Option Nat},(∀r,row=some r→r=w.heap.size+2∨(W0.heap.size≤r∧∃o:Obj,W.heap[r]? = some o∧o.isCells=false))→∀r,row=some r→w.heap.size≤r:=λhr r e=>by
  rcases hr _ e with h|⟨h,_⟩<;>omega
 refine Xb E Go.Sy.q_ (gf:=286) (lb:=#[.pointer (some ⟨w.heap.size+3,0,none⟩),.pointer (some ⟨w.heap.size+2,0,none⟩),.pointer (some ⟨w.heap.size+4,0,none⟩)]) E Y (enters_of Tryz.func286 Go.Sy.z_ E)
  (Tryz.split_stops s hs 4 Go.Sy.q_ (w.heap.size+3) (w.heap.size+2) (w.heap.size+4) ⟨by omega,by omega⟩ W0 cb Go.Sy.q_) (λb hb=>by omega)
  (λh k=>⟨k.1.trans h.1,k.2.1.trans h.2.1,k.2.2.trans h.2.2⟩)
  (λW l o o' hl _ _ _=>⟨World.putObj_heap_other Go.Sy.q_,World.putObj_heap_other Go.Sy.q_,World.putObj_heap_other Go.Sy.q_⟩) (Below.refl _ _) (λ_=>rfl)
  (λpre W=>Var1 W w.heap.size (.int .u32 (Aec pre))∧Var1 W (w.heap.size+1) (.int .i64 pre.length)∧(pre.length≤4∧pre.all Azg=true)∧Below w.heap.size w W∧w.heap.size+5≤W.heap.size)
  (λc pre W=>c=.exit 0∧Var1 W (w.heap.size+1) (.int .i64 0)∧¬(pre.length≤4∧pre.all Azg=true)∧Below w.heap.size w W)
  (λpre A B row hs hg hr=>⟨hs.1.grown hg (gm Go.Sy.q_ hr),hs.2.1.grown hg (gm Go.Sy.q_ hr),hs.2.2.1,hs.2.2.2.1.grown hg hs.2.2.2.1.size (ww hr),wN hs.2.2.2.2 hg.size⟩)
  (λc pre A B row hs hg hr=>⟨hs.1,hs.2.1.grown hg (gm Go.Sy.q_ hr),hs.2.2.1,hs.2.2.2.grown hg hs.2.2.2.size (ww hr)⟩)
  ⟨ca,ci,⟨by simp,rfl⟩,hB0,by omega⟩
  (λ x=>{ tmps:=#[.string s,undef,.int .u32 0,.bool false,.pointer (some ⟨w.heap.size,0,none⟩),.pointer (some ⟨w.heap.size+1,0,none⟩),.string x,undef,undef,.string s,
   .func (.func 286) #[] #[.pointer (some ⟨w.heap.size+3,0,none⟩),.pointer (some ⟨w.heap.size+2,0,none⟩),.pointer (some ⟨w.heap.size+4,0,none⟩)],.string x,
   undef,undef,undef,undef,undef,undef,undef,undef,undef,undef,undef,undef,undef,undef,undef,undef,undef,undef,undef,undef,undef],defers:=[] }) ?assign ?body ?done ?stop
 case assign=>
  intro l x W K hK
  gi_wp2
  exact hK
 case body=>
  rintro l pre x W ⟨ha,hi,⟨gu,d8⟩,hB,hB5⟩ _;have q:=(Aia x 255).calls_tup2 (w:=W) (vs:=[.string x,.int .i64 255]) (by simp only[RdL];exact⟨_,_,rfl,by simp[Rd,Ap],_,_,rfl,by simp[Rd,Aa],rfl⟩);have ff:=Zb pre x;have kh:((pre++[x]).all Azg)=Azg x:=by rw[List.all_append,d8];simp
  have kc:(pre++[x]).length=pre.length+1:=by simp
  have hox:Azg x=(smallT x 255).2:=rfl;generalize smallT x 255=sm at *;obtain ⟨v,ok⟩:=sm;dsimp only at ff hox q
  gi_wp2
  refine⟨Y,?_⟩;refine(CallsIn.inRound l (callsIn_wide.2 q)).mono ?_;rintro e w' ⟨rfl,hb⟩;have ha':=ha.below hb;have hi':=hi.below hb;have hB':Below w.heap.size w w':=hB.trans (hb.mono hB.size);have cw:=Agt hb;have a1:=ha'.1;have a2:=ha'.2;have b1:=hi'.1;have b2:=hi'.2;have s1:∀(u v:Value),Below w.heap.size w ((w'.setCell ⟨w.heap.size+1,0,none⟩ u).setCell ⟨w.heap.size+1,0,none⟩ v):=λu v=>
   (hB'.setCell (p:=⟨w.heap.size+1,0,none⟩) (uZ _) u).setCell (p:=⟨w.heap.size+1,0,none⟩) (uZ _) v
  cases ok
  ·gi_wp2
   exact⟨cw.trans ((KeepsOthers.setCell _ _ _).trans (KeepsOthers.setCell _ _ _)),rfl,(hi'.set _).set _,(λe=>by rw[kh,hox]at e;cases e.2),s1 _ _⟩
  ·by_cases h4:pre.length+1≤4
   ·have hsn':Aec (pre++[x])=bits .or .u32 (Aec pre*256%4294967296) (v%4294967296):=by rw[ff,IntKind.wrap_u32,IntKind.wrap_u32];rfl
    gi_wp2
    refine⟨cw.trans ((KeepsOthers.setCell _ _ _).trans (KeepsOthers.setCell _ _ _)),⟨?_,?_,?_⟩,?_,?_,⟨by omega,by rw[kh,hox]⟩,?_,?_⟩
    ·rw[Below.heap_setCell _ _ _ _ Go.Sy.y_,Below.heap_setCell _ _ _ _ Go.Sy.y_];exact hb.block _ Go.Sy.q_
    ·rw[Below.heap_setCell _ _ _ _ Go.Sy.y_,Below.heap_setCell _ _ _ _ Go.Sy.y_];exact hb.block _ Go.Sy.q_
    ·rw[Below.heap_setCell _ _ _ _ Go.Sy.y_,Below.heap_setCell _ _ _ _ Go.Sy.y_];exact hb.block _ Go.Sy.q_
    ·rw[hsn'];exact(ha'.other Go.Sy.y_ _).set _
    ·rw[kc];exact(hi'.set _).other Go.Sy.y_ _
    ·exact(hB'.setCell (p:=⟨w.heap.size+1,0,none⟩) (uZ _) _).setCell (p:=⟨w.heap.size,0,none⟩) (yD _) _
    ·have:=hb.size;simp;omega
   ·gi_wp2
    exact⟨cw.trans ((KeepsOthers.setCell _ _ _).trans (KeepsOthers.setCell _ _ _)),E,(hi'.set _).set _,λe=>by omega,s1 _ _⟩
 case done=>
  rintro D xs W hD rfl ⟨ha,hi,⟨gu,d8⟩,hB,_⟩ hK;have a1:=ha.1;have a2:=ha.2;have b1:=hi.1;have b2:=hi.2;by_cases h4:(C2 46 s).length=4
  ·have hr:D4 s=(Aec (C2 46 s),true):=by rw[D4,zE ⟨h4,d8⟩]
   gi_wp2
   refine⟨by simp,.inl ⟨_,_,E,run_takeDeferred hK,?_⟩⟩;exact⟨_,results_tmp2 E _ _ _,by rw[hr];rfl,hB.trans (belowK_b (w:=w) (yD _) W D _ _ Go.Sy.q_ hK E E)⟩
  ·have hr:D4 s=(0,false):=by rw[D4,zD (λe=>h4 e.1)]
   gi_wp2
   refine⟨by simp,.inl ⟨_,_,E,run_takeDeferred hK,?_⟩⟩;exact⟨_,results_tmp2 E _ _ _,by rw[hr];rfl,hB.trans (belowK_b (w:=w) (yD _) W D _ _ Go.Sy.q_ hK E E)⟩
 case stop=>
  rintro D c pre W hD zl ⟨rfl,hi,d9,hB⟩ hK;have b1:=hi.1;have b2:=hi.2;have hr:D4 s=(0,false):=by
   rw[D4,zD];intro e;refine d9 ⟨by have:=zl.length_le;omega,?_⟩;rw[yV]at e⊢;exact λx hx=>e.2 x (zl.subset hx)
  gi_wp2
  refine⟨by simp,.inl ⟨_,_,E,run_takeDeferred hK,?_⟩⟩;exact⟨_,results_tmp2 E _ _ _,by rw[hr];rfl,hB.trans (belowK_b (w:=w) (yD _) W D _ _ Go.Sy.q_ hK E E)⟩
end Go.Proofs
namespace Go.Sy.YtolnneiipmfgaaaGreatDoor
open Go.Proofs Go.Proofs.Tryz
def Acq(s:ByteArray)(hs:s.size<100000):Sp 92 [Ap s] (.tup [A9 (D4 s).1,Ab (D4 s).2]) :=
 Spec.of_calls2 λκ w vs _ hr _=>by
  simp only[RdL]at hr;obtain ⟨v,r,rfl,hv,rfl⟩:=hr;simp only[Ap,Rd]at hv;subst hv;exact Tryz.addrRead_calls s hs w
attribute [local irreducible] Go.Sy.G Go.Sy.DR
set_option maxRecDepth 100000
set_option maxHeartbeats 4000000
def A2j(i:Int)(h0:0≤i)(h5:i≤5):Sp 212 [Aa i] (Bj (8*(5-i))):=cT F212 ntmps212 λF hF=>by
 conv=>whnf
 refine iW ?_;refine iW ?_;refine As E (.cons .tmp .nil) (zH (λz=>SV.val (.int .u64 z)) ?_) E;rw[IntKind.wrap_u64];omega
def be:Nat→Nat→List UInt8
 |0,_=>[]
 |k+1,m=>UInt8.ofNat (m/256^k)::be k m
def Dj(m:Nat):∀k,(be k m).length=k
 |0=>rfl
 |k+1=>by simp[be,Dj m k]
def Ano(m:Nat):∀(k j:Nat) (_h:j<k),(be k m).take (j+1)=(be k m).take j++[UInt8.ofNat (m/256^(k-1-j))]
 |0,j,h=>by omega
 |k+1,0,h=>by simp[be]
 |k+1,j+1,h=>by
  have:=Ano m k j q_;simp only[be,List.take_succ_cons,xY,this];rw[show k+1-1-(j+1)=k-1-j by omega]
def Aon(m k:Nat)(hk:k≤7):IntKind.u8.wrap ((m:Int).fdiv (2^(min (8*(k:Int)).toNat IntKind.u64.bits)))=((UInt8.ofNat (m/256^k)).toNat:Int):=by
 have h1:min (8*(k:Int)).toNat IntKind.u64.bits=8*k:=by simp[IntKind.bits];omega
 rw[h1,wL _ (by exact Int.pow_nonneg j_),IntKind.wrap_u8];have h2:(2:Int)^(8*k)=((256^k:Nat):Int):=by rw[Int.pow_mul];simp
 rw[h2];simp
def put2(l:List UInt8)(hl:l.length<1000000)(m:Nat):Sq 154 [.osl 0,Bj m] [(0,.row 1 Ak l)] (.osl 1) [(0,.non),(1,.row 1 Ak (l++be 6 m))]:=cT F154 ntmps154 λF hF=>by
 conv=>whnf
 refine Av2 0 1 [0] E E j_ (by simp;rfl) ?_;refine A8 6 (λj=>[(0,.osl 1),(1,Bj m),(6,Aa j)]) (λj=>[(0,.non),(1,.row 1 Ak (l++(be 6 m).take j))]) [(0,0),(1,1)] ⟨⟨E,E,E,E,E,E,Y⟩,⟨.inl E,E,.inl (zH (Ob.row 1 Ak) (xM l)),E,Y⟩,E,E⟩ ?_;intro j hj;refine oO ?_;constructor<;>intro h
 ·have ab:j<6:=qA h;refine oO ?_;refine c0 (A2j j q_ q_) F212 ?_;refine oO ?_;refine⟨by omega,?_⟩
  conv=>whnf
  refine Ah (Ag Γ.toTy 16 E E E E E (.row E) (.lit (l:=[UInt8.ofNat (m/256^(5-j))]) E ?_) y_ ?_ ?_) E E ?_
  ·have:=Aon m (5-j) q_;rw[show ((5-j:Nat):Int)=5-(j:Int) by omega]at this;simp only[xW,vU,Ak,←this]
  ·simp[Dj];omega
  ·simp[Dj];omega
  refine gE ?_;exact Az [(0,0),(1,16)] ab ⟨⟨E,E,E,E,E,E,Y⟩,⟨.inl E,E,.inl (zH (Ob.row 1 Ak) (by rw[Ano _ _ _ ab,xD])),E,Y⟩,E,E⟩
 ·have:j=6:=qB h;subst this;refine oO ?_;exact done E (.cons .tmp .nil) [(0,0),(1,1)] _ (λ_ h=>h) E E uU
def put2n(m:Nat):Sq 154 [.val (.slice none 0 0),Bj m] [] (.osl 0) [(0,.row 1 Ak (be 6 m))]:=cT F154 ntmps154 λF hF=>by
 conv=>whnf
 refine Ce 0 1000 1 Ak E E ?_;refine A8 6 (λj=>[(0,.osl 1000),(1,Bj m),(6,Aa j)]) (λj=>[(1000,.row 1 Ak ((be 6 m).take j))]) [] uU ?_;intro j hj;refine oO ?_;constructor<;>intro h
 ·have ab:j<6:=qA h;refine oO ?_;refine c0 (A2j j q_ q_) F212 ?_;refine oO ?_;refine⟨by omega,?_⟩
  conv=>whnf
  refine Ah (Ag Γ.toTy 16 E E E E E (.row E) (.lit (l:=[UInt8.ofNat (m/256^(5-j))]) E ?_) y_ ?_ ?_) E E ?_
  ·have:=Aon m (5-j) q_;rw[show ((5-j:Nat):Int)=5-(j:Int) by omega]at this;simp only[xW,vU,Ak,←this]
  ·simp[Dj];omega
  ·simp[Dj];omega
  refine gE ?_;exact Az [(1000,16)] ab ⟨⟨E,E,E,E,E,E,Y⟩,⟨.inl (zH (Ob.row 1 Ak) (Ano _ _ _ ab)),E,Y⟩,E,E⟩
 ·have:j=6:=qB h;subst this;refine oO ?_;exact done E (.cons .tmp .nil) [(0,1000)] _ (λ_ h=>h) E E uU
def A4y(d s:Nat)(t:Int)(body:List UInt8):SV:=.agg [Bj d,Bj s,Aa t,.sl 1 Ak body]
def frame(d s t:Nat)(body:List UInt8):List UInt8:=be 6 d++be 6 s++[UInt8.ofNat (t/256),UInt8.ofNat t]++body
def I2(t:Nat):[UInt8.ofNat (t/256),UInt8.ofNat t].map Ak=[SV.val (.int .u8 (IntKind.u8.wrap ((t:Int).fdiv (2^(min (Int.toNat 8) IntKind.i64.bits))))),SV.val (.int .u8 (IntKind.u8.wrap (t:Int)))]:=by
 have h1:IntKind.u8.wrap ((t:Int).fdiv (2^(min (Int.toNat 8) IntKind.i64.bits)))=((UInt8.ofNat (t/256)).toNat:Int):=by
  show IntKind.u8.wrap ((t:Int).fdiv 256)=_;rw[wL _ j_,IntKind.wrap_u8];simp
 have h2:IntKind.u8.wrap (t:Int)=((UInt8.ofNat t).toNat:Int):=by
  rw[IntKind.wrap_u8];simp
 rw[h1,h2];rfl
def Aqx(d s t:Nat)(body:List UInt8)(hd:d<281474976710656)(hs:s<281474976710656)(ht:t≤65535)(hb:body.length≤1504):Sq 83 [A4y d s t body] [] (.tup [.osl 0,Aa 0]) [(0,.row 1 Ak (frame d s t body))]:=cT F83 ntmps83 λF hF=>by
 conv=>whnf
 refine⟨λh=>yB (zO h) q_,λ_=>?_⟩;refine oO ?_;refine⟨λh=>yB (zO h) q_,λ_=>?_⟩;refine oF ?_;refine⟨λh=>yB (zO h) q_,λ_=>?_⟩;refine oO ?_;refine⟨λh=>yB (zO h) q_,λ_=>?_⟩;refine oO ?_;refine Bv (Ad [(0,31)] E F154 (put2n d) E Y E ⟨.inr E,Y⟩) z_ E ?_;refine oD ?_;refine Bv (Ad [(0,31),(1,34)] E F154 (put2 (be 6 d) (by simp[Dj]) s) E ⟨E,Y⟩ E ⟨.inl E,.inr E,Y⟩) z_ E ?_;refine gH ?_;refine⟨by decide,?_⟩
 conv=>whnf
 refine Bv (Ag Γ.toTy 44 E E E E E (.row E) (.lit (l:=[UInt8.ofNat (t/256),UInt8.ofNat t]) E (I2 t)) j_ ?_ ?_) z_ E ?_
 ·simp[Dj]
 ·simp[Dj]
 refine oD ?_;refine Bv (Ag Γ.toTy 47 E E E E E (.row E) .sl j_ ?_ ?_) z_ E ?_
 ·simp[Dj];omega
 ·simp[Dj];omega
 refine gH ?_;exact done E (.cons .tmp (.cons .tmp .nil)) [(0,47)] _ (λ_ h=>h) E E uU
end Go.Sy.YtolnneiipmfgaaaGreatDoor
namespace Go.Sy.YtolnneiipmfgaaaGreatDoor
structure FrameM where
 dst:Nat
 src:Nat
 typ:Nat
 body:List UInt8
def De(f:FrameM):SV:=A4y f.dst f.src f.typ f.body
structure StepM where
 kind:Int
 port:Int
 domain:Int
 at_:Int
 bytes:List UInt8
 up:List Bool
def Du(x:StepM):SV:=.agg [Aa x.kind,Aa x.port,Aa x.domain,Aa x.at_,.sl 1 Ak x.bytes,.sl 1 Ab x.up]
structure SeenM where
 port:Int
 origin:Int
 bytes:List UInt8
def Ej(x:SeenM):SV:=.agg [Aa x.port,Aa x.origin,.sl 1 Ak x.bytes]
def hostN(ip:Int):Nat:=2199023255552+ip.toNat
def I0(a bits:Int):Int:=if 0≤bits∧bits≤32 then a-a%2^(32-bits).toNat else 0
def H5(n:Nat):Nat:=if n=0 then 0 else (n-1)%65535+1
open Go.Proofs Go.Proofs.Tryz
attribute [local irreducible] Go.Sy.G Go.Sy.DR
set_option maxRecDepth 100000
set_option maxHeartbeats 4000000
def Oh(a bits:Int):SV:=.agg [A9 a,Aa bits]
def Aib(a bits:Int):Sp 220 [Oh a bits] (Ab (decide (0≤bits∧bits≤32))):=cT F220 ntmps220 λF hF=>by
 conv=>whnf
 (repeat' (first|(refine⟨λh=>?_,λh=>?_⟩<;>(repeat (first|simp only[zK]at h|simp only[yE]at h))<;>((refine oO ?_)))|(refine As rfl (.cons .tmp .nil) ?_ rfl)))
 all_goals (refine zH Ab ?_;clear hF;grind)
def Alc(a bits:Int)(h:0≤bits∧bits≤32):Sp 221 [Oh a bits] (A9 (2^(32-bits).toNat-1)):=cT F221 ntmps221 λF hF=>by
 conv=>whnf
 refine iW ?_;refine⟨by omega,?_⟩
 conv=>whnf
 refine As E (.cons .tmp .nil) ?_ E;refine zH (λz=>SV.val (.int .u32 z)) ?_;obtain ⟨k,hk,cq⟩:∃k:Nat,(32-bits).toNat=k∧k≤32:=⟨_,rfl,by omega⟩
 have h1:min (32-bits).toNat IntKind.u32.bits=k:=by show min (32-bits).toNat 32=k;omega
 rw[h1,hk,IntKind.wrap_u32,IntKind.wrap_u32];have h2:(2:Int)^k≤4294967296:=by
  have:=wX (n:=2) j_ cq;rw[show (2:Int)^k=((2^k:Nat):Int) by rw[uV];rfl];have e:(2:Nat)^32=4294967296:=rfl;rw[e]at this;omega
 have h0:(1:Int)≤2^k:=by
  have:=wY (n:=k);rw[show (2:Int)^k=((2^k:Nat):Int) by rw[uV];rfl];omega
 generalize (2:Int)^k=q at *;omega
def Ah5(a k:Nat)(ha:a<4294967296)(hk:k≤32):bits .andNot .u32 (a:Int) ((2^k-1:Nat):Int)=((a-a%2^k:Nat):Int):=by
 have hp:=wX (n:=2) j_ hk;have xe:(2:Nat)^32=4294967296:=rfl;rw[xe]at hp;have h1:=wY (n:=k);have x1:(BitVec.ofInt 32 (a:Int)).toNat=a:=by rw[BitVec.ofInt_natCast,BitVec.toNat_ofNat];exact xH q_
 have x2:(BitVec.ofInt 32 ((2^k-1:Nat):Int)).toNat=2^k-1:=by rw[BitVec.ofInt_natCast,BitVec.toNat_ofNat];exact xH q_
 have key:(BitVec.ofInt 32 (a:Int) &&& ~~~ BitVec.ofInt 32 ((2^k-1:Nat):Int)).toNat=a-a%2^k:=by
  have hd:a-a%2^k=2^k*(a/2^k):=by have:=uF a (2^k);omega
  rw[hd];refine Nat.eq_of_testBit_eq λi=>?_
  rw[BitVec.testBit_toNat,BitVec.getLsbD_and,BitVec.getLsbD_not,←BitVec.testBit_toNat,←BitVec.testBit_toNat,x1,x2,Nat.testBit_two_pow_sub_one,Nat.testBit_two_pow_mul,Nat.testBit_div_two_pow];by_cases hi:i<k
  ·have:¬i≥k:=by omega
   simp[hi,this]
  ·have h2:i≥k:=by omega
   have h3:i-k+k=i:=by omega
   by_cases h4:i<32
   ·simp[hi,h2,h4,h3]
   ·have h5:a.testBit i=false:=Nat.testBit_lt_two_pow (yW (by rw[←xe]at ha;exact ha) (wX j_ q_));rw[h3,h5];simp
 show IntKind.u32.wrap (((BitVec.ofInt 32 (a:Int) &&& ~~~ BitVec.ofInt 32 ((2^k-1:Nat):Int)).toNat:Nat):Int)=_;rw[key,IntKind.wrap_u32];omega
def Lj(a k:Nat)(bits:Int)(h:0≤bits∧bits≤32)(hk:(32-bits).toNat=k):I0 a bits=((a-a%2^k:Nat):Int):=by
 rw[I0,zE h,hk];have h1:=Nat.mod_le a (2^k);rw[show (2:Int)^k=((2^k:Nat):Int) by rw[uV];rfl];omega
def Aid(a:Nat)(bits:Int)(ha:a<4294967296):Sp 163 [Oh a bits] (A9 (I0 a bits)):=cT F163 ntmps163 λF hF=>by
 have hr:=Aib a bits;by_cases hb:0≤bits∧bits≤32
 ·have db:=Alc a bits hb;rw[zL hb]at hr;obtain ⟨k,hk,cq⟩:∃k:Nat,(32-bits).toNat=k∧k≤32:=⟨_,rfl,by omega⟩
  have hn:=Ah5 a k ha cq;have hf:=Lj a k bits hb hk;have h1:=wY (n:=k);have e2:(2:Int)^k-1=((2^k-1:Nat):Int):=by
   rw[show (2:Int)^k=((2^k:Nat):Int) by rw[uV];rfl];omega
  rw[hk,e2]at db;rw[hf,←hn];refine fW ?_;refine c0 hr F220 ?_;refine fU ?_
  first|refine cD db F221 ?_|refine c0 db F221 ?_
  refine fU ?_
  first|(refine⟨z_,?_⟩;(refine fW ?_))|skip
  exact dN
 ·rw[zI hb]at hr;have hf:I0 a bits=0:=by rw[I0,zD hb]
  rw[hf];refine fW ?_;refine c0 hr F220 ?_;exact gC
def Mk(a bits:Int):Int:=if 0≤bits∧bits≤32 then I0 a bits+2^(32-bits).toNat-1 else 0
def or_low(a k:Nat)(ha:a<4294967296)(hk:k≤32):bits .or .u32 (a:Int) ((2^k-1:Nat):Int)=((a-a%2^k+(2^k-1):Nat):Int):=by
 have hp:=wX (n:=2) j_ hk;have xe:(2:Nat)^32=4294967296:=rfl;rw[xe]at hp;have h1:=wY (n:=k);have x1:(BitVec.ofInt 32 (a:Int)).toNat=a:=by rw[BitVec.ofInt_natCast,BitVec.toNat_ofNat];exact xH q_
 have x2:(BitVec.ofInt 32 ((2^k-1:Nat):Int)).toNat=2^k-1:=by rw[BitVec.ofInt_natCast,BitVec.toNat_ofNat];exact xH q_
 have hd:a-a%2^k=2^k*(a/2^k):=by have:=uF a (2^k);omega
 have lr:=xP (i:=k) (b:=2^k-1) q_ (a/2^k);have key:(BitVec.ofInt 32 (a:Int)|||BitVec.ofInt 32 ((2^k-1:Nat):Int)).toNat=a-a%2^k+(2^k-1):=by
  rw[hd,lr];refine Nat.eq_of_testBit_eq λi=>?_
  rw[BitVec.testBit_toNat,BitVec.getLsbD_or,←BitVec.testBit_toNat,←BitVec.testBit_toNat,x1,x2,Nat.testBit_or,Nat.testBit_two_pow_sub_one,Nat.testBit_two_pow_mul,Nat.testBit_div_two_pow];by_cases hi:i<k
  ·simp[hi]
  ·have h2:i≥k:=by omega
   have h3:i-k+k=i:=by omega
   simp[hi,h2,h3]
 show IntKind.u32.wrap (((BitVec.ofInt 32 (a:Int)|||BitVec.ofInt 32 ((2^k-1:Nat):Int)).toNat:Nat):Int)=_;have ab:(BitVec.ofInt 32 (a:Int)|||BitVec.ofInt 32 ((2^k-1:Nat):Int)).toNat<4294967296:=BitVec.isLt _;rw[key]at ab;rw[key,IntKind.wrap_u32];omega
def Ace(a k:Nat)(bits:Int)(h:0≤bits∧bits≤32)(hk:(32-bits).toNat=k):Mk a bits=((a-a%2^k+(2^k-1):Nat):Int):=by
 rw[Mk,zE h,hk,Lj a k bits h hk];have h1:=wY (n:=k);rw[show (2:Int)^k=((2^k:Nat):Int) by rw[uV];rfl];omega
def Acr(a:Nat)(bits:Int)(ha:a<4294967296):Sp 164 [Oh a bits] (A9 (Mk a bits)):=cT F164 ntmps164 λF hF=>by
 have hr:=Aib a bits;by_cases hb:0≤bits∧bits≤32
 ·have db:=Alc a bits hb;rw[zL hb]at hr;obtain ⟨k,hk,cq⟩:∃k:Nat,(32-bits).toNat=k∧k≤32:=⟨_,rfl,by omega⟩
  have hn:=or_low a k ha cq;have hf:=Ace a k bits hb hk;have h1:=wY (n:=k);have e2:(2:Int)^k-1=((2^k-1:Nat):Int):=by
   rw[show (2:Int)^k=((2^k:Nat):Int) by rw[uV];rfl];omega
  rw[hk,e2]at db;rw[hf,←hn];refine fW ?_;refine c0 hr F220 ?_;refine fU ?_
  first|refine cD db F221 ?_|refine c0 db F221 ?_
  refine fU ?_
  first|(refine⟨z_,?_⟩;(refine fW ?_))|skip
  exact dN
 ·rw[zI hb]at hr;have hf:Mk a bits=0:=by rw[Mk,zD hb]
  rw[hf];refine fW ?_;refine c0 hr F220 ?_;exact gC
def A50(a b:Nat)(ha:a<4294967296)(hb:b<4294967296):bits .xor .u32 (a:Int) (b:Int)=((a^^^b:Nat):Int):=by
 have x1:(BitVec.ofInt 32 (a:Int)).toNat=a:=by rw[BitVec.ofInt_natCast,BitVec.toNat_ofNat];exact xH q_
 have x2:(BitVec.ofInt 32 (b:Int)).toNat=b:=by rw[BitVec.ofInt_natCast,BitVec.toNat_ofNat];exact xH q_
 show IntKind.u32.wrap (((BitVec.ofInt 32 (a:Int)^^^BitVec.ofInt 32 (b:Int)).toNat:Nat):Int)=_;have ab:(BitVec.ofInt 32 (a:Int)^^^BitVec.ofInt 32 (b:Int)).toNat<4294967296:=BitVec.isLt _;rw[BitVec.toNat_xor,x1,x2]at ab⊢;rw[IntKind.wrap_u32];omega
def A3v(a x k:Nat)(ha:a<4294967296)(hx:x<4294967296)(hk:k≤32):(bits .andNot .u32 (bits .xor .u32 (a:Int) (x:Int)) ((2^k-1:Nat):Int)==0)=decide (a/2^k=x/2^k):=by
 have hxl:a^^^x<4294967296:=Nat.xor_lt_two_pow (n:=32) ha hx;rw[A50 a x ha hx,Ah5 _ k hxl hk];have hd:(a^^^x)-(a^^^x)%2^k=2^k*((a^^^x)/2^k):=by have:=uF (a^^^x) (2^k);omega
 rw[hd,Nat.xor_div_two_pow];have h1:=wY (n:=k);by_cases h:a/2^k=x/2^k
 ·rw[h,Nat.xor_self];simp
 ·rw[zI h];have:a / 2 ^ k ^^^ x / 2 ^ k≠0:=λ e=>h (by
   have:=zH (λ z=>z ^^^ x / 2 ^ k) e;simpa [Nat.xor_assoc] using this)
  rw[zR];intro e;have e:=Int.natCast_eq_zero.1 e;rcases Nat.mul_eq_zero.1 e with e|e
  ·omega
  ·exact this e
def Ayn(a x q:Nat)(hq:0<q):(a/q=x/q)↔(a-a%q≤x∧x≤a-a%q+(q-1)):=by
 have h1:=uF a q;have hd:a-a%q=q*(a/q):=by omega
 rw[hd];constructor
 ·intro e;have h2:=uF x q;have h3:=tX x hq;rw[←e]at h2;omega
 ·rintro ⟨h2,h3⟩;symm;rw[Nat.div_eq_iff hq];generalize a/q=m at *;have:q*m=m*q:=vB ..;constructor<;>omega
def Ds(n:Net):Prop:=∀x∈n.irbs,0≤x.addr∧x.addr<4294967296
end Go.Sy.YtolnneiipmfgaaaGreatDoor
namespace Go.Sy.YtolnneiipmfgaaaGreatDoor
def Au0{α:Type}{l:List α}{i:Nat}{d:α}(h:i<l.length):l.getD i d=l[i]:=by simp[List.getD,h]
def Aqq{n:Nat}(h:n≤65535):H5 n=n:=by
 unfold H5;split<;>omega
def Au2{n:Nat}(h:65535<n):H5 (n/65536+n%65536)=H5 n∧n/65536+n%65536<n:=by
 unfold H5;rw[zD q_,zD q_];omega
def A0k(a x:Nat)(hx:x≤65535):H5 (a+x)=if 65535<H5 a+x then H5 a+x-65535 else H5 a+x:=by
 unfold H5;split<;>split<;>split<;>omega
def Aqr(n:Nat):H5 n≤65535:=by
 unfold H5;split<;>omega
def O8(l:List UInt8):Nat→Nat
 |0=>0
 |j+1=>O8 l j+((l.getD (2*j) 0).toNat*256+(l.getD (2*j+1) 0).toNat)
def Av3(l:List UInt8):∀j,O8 l j≤65535*j
 |0=>yD _
 |j+1=>by
  have ih:=Av3 l j;have h1:=(l.getD (2*j) 0).toNat_lt;have h2:=(l.getD (2*j+1) 0).toNat_lt;rw[O8];omega
def Ajm(l:List UInt8):Nat:=65535-H5 (O8 l (l.length/2))
def E2(n:Nat):(UInt8.ofNat n).toNat=n%256:=by simp
open Go.Proofs Go.Proofs.Tryz
attribute [local irreducible] Go.Sy.G Go.Sy.DR
set_option maxRecDepth 100000
set_option maxHeartbeats 4000000
def Lk(a b:Nat)(ha:a<9223372036854775808)(hb:b<9223372036854775808):bits .and .i64 (a:Int) (b:Int)=((a&&&b:Nat):Int):=by
 have hx:a&&&b<2^63:=Nat.lt_of_le_of_lt Nat.and_le_left ha;have h1:(BitVec.ofInt 64 (a:Int)).toNat=a:=by
  rw[BitVec.ofInt_natCast,BitVec.toNat_ofNat];exact xH q_
 have h2:(BitVec.ofInt 64 (b:Int)).toNat=b:=by
  rw[BitVec.ofInt_natCast,BitVec.toNat_ofNat];exact xH q_
 show IntKind.i64.wrap ((BitVec.ofInt 64 (a:Int)&&&BitVec.ofInt 64 (b:Int)).toNat:Int)=_;rw[BitVec.toNat_and,h1,h2,IntKind.wrap_i64];omega
def Ez(a b:Nat)(ha:a<9223372036854775808)(hb:b<9223372036854775808):bits .or .i64 (a:Int) (b:Int)=((a|||b:Nat):Int):=by
 have hx:a|||b<2^63:=Nat.or_lt_two_pow q_ q_;have h1:(BitVec.ofInt 64 (a:Int)).toNat=a:=by
  rw[BitVec.ofInt_natCast,BitVec.toNat_ofNat];exact xH q_
 have h2:(BitVec.ofInt 64 (b:Int)).toNat=b:=by
  rw[BitVec.ofInt_natCast,BitVec.toNat_ofNat];exact xH q_
 show IntKind.i64.wrap ((BitVec.ofInt 64 (a:Int)|||BitVec.ofInt 64 (b:Int)).toNat:Int)=_;rw[BitVec.toNat_or,h1,h2,IntKind.wrap_i64];omega
def Awd(n k:Nat)(hk:k<64):(n:Int).fdiv (2^(min (Int.toNat (k:Int)) IntKind.i64.bits))=((n/2^k:Nat):Int):=by
 have h1:min (Int.toNat (k:Int)) IntKind.i64.bits=k:=by simp[IntKind.bits];omega
 rw[h1,wL _ (by exact Int.pow_nonneg j_)];simp
def A7u(n:Nat)(h:n<9223372036854775808):bits .and .i64 (n:Int) 65535=((n%65536:Nat):Int):=by
 have:=Lk n 65535 h j_;rw[show ((65535:Nat):Int)=65535 from rfl]at this;rw[this];have h2:=uN n 16;rw[show 2^16-1=65535 from rfl,show 2^16=65536 from rfl]at h2;rw[h2]
def A0u(n:Nat)(h:n<9223372036854775808):Sq 373 [.ptr 0 0] [(0,.box [Aa n])] (.tup []) [(0,.box [Aa (n/65536+n%65536:Nat)])]:=cT F373 ntmps373 λF hF=>by
 have e1:(n:Int).fdiv (2^(min (Int.toNat 16) IntKind.i64.bits))=((n/65536:Nat):Int):=Awd n 16 j_;have e2:=A7u n h
 conv=>whnf
 first|(refine⟨by omega,?_⟩;(conv=>whnf))|skip
 rw[e1,e2];refine iW ?_;exact A4 E .nil [] [(0,.box [Aa (n/65536+n%65536:Nat)])] (λ_ h=>h) E E uU
def A17(n:Nat)(h:n<9223372036854775808):Sp 347 [Aa n] (Aa (H5 n)):=cT F347 ntmps347 λF hF=>by
 conv=>whnf
 refine Wl (α:={m:Nat // H5 m=H5 n∧m≤n}) (λm=>[(3,.clo (.func 373) [] [.ptr 1 0]),(1,.ptr 1 0)]) (λm=>[(1,.box [Aa m.1])]) (λm=>m.1) ⟨n,E,yD _⟩ []
  uU ?_
 rintro ⟨m,h1,h2⟩;dsimp only;refine oO ?_;constructor<;>intro h3
 ·have tz:65535<m:=by have:=zO h3;omega
  obtain ⟨g1,g2⟩:=Au2 tz;refine oO ?_;refine Ah (Au [(0,1)] (Av E E F373) (A0u m q_) E ⟨E,Y⟩ E ⟨.inl E,Y⟩) E E ?_;refine oO ?_;exact Ye (α:={m:Nat // H5 m=H5 n∧m≤n}) (x:=⟨m,h1,h2⟩) ⟨m/65536+m%65536,by rw[g1,h1],by omega⟩ [] g2 uU
 ·have tz:m≤65535:=by have:=zT h3;omega
  have e:H5 n=m:=by rw[←h1,Aqq tz]
  refine oO ?_;refine As E (.cons .tmp .nil) ?_ E;exact zH (λz:Nat=>Aa z) e
def I8(a b:UInt8):bits .or .i64 (IntKind.i64.wrap ((IntKind.i64.wrap (a.toNat:Int))*2^min (Int.toNat 8) IntKind.i64.bits)) (IntKind.i64.wrap (b.toNat:Int))=((a.toNat*256+b.toNat:Nat):Int):=by
 have h1:=a.toNat_lt;have h2:=b.toNat_lt;have e1:IntKind.i64.wrap (a.toNat:Int)=(a.toNat:Int):=by rw[IntKind.wrap_i64];omega
 have e2:IntKind.i64.wrap (b.toNat:Int)=(b.toNat:Int):=by rw[IntKind.wrap_i64];omega
 rw[e1,e2];have h3:IntKind.i64.wrap ((a.toNat:Int)*2^min (Int.toNat 8) IntKind.i64.bits)=((a.toNat*256:Nat):Int):=by
  show IntKind.i64.wrap ((a.toNat:Int)*256)=_;rw[IntKind.wrap_i64];omega
 rw[h3,Ez _ _ q_ q_];congr 1;have h:=xP (i:=8) (b:=b.toNat) q_ a.toNat;rw[vB a.toNat 256];exact h.symm
def Av9(l:List UInt8)(hl:l.length<100000)(h2:l.length%2=0):Sp 284 [.sl 1 Ak l] (Aa (H5 (O8 l (l.length/2)))):=cT F284 ntmps284 λF hF=>by
 conv=>whnf
 refine A8 (l.length/2) (λj=>[(0,.sl 1 Ak l),(3,Aa (O8 l j)),(4,Aa (2*(j:Int)))]) (λ_=>[]) [] uU ?_;intro j hj;have hw:=Av3 l j;refine gE ?_;constructor<;>intro h
 ·have ab:2*j+1<l.length:=qA h;have hs:O8 l (j+1)=O8 l j+((l[2*j]'q_).toNat*256+(l[2*j+1]'ab).toNat):=by
   rw[O8,Au0 (show 2*j<l.length by omega),Au0 ab]
  have e1:l[(2*(j:Int)).toNat]'q_=l[2*j]'q_:=by congr 1
  have e2:l[(2*(j:Int)+1).toNat]'q_=l[2*j+1]'ab:=by congr 1
  have hp:=I8 (l[2*j]'q_) (l[2*j+1]'ab);have gv:=(l[2*j]'q_).toNat_lt;have dw:=(l[2*j+1]'ab).toNat_lt;rw[←e1,←e2]at hp hs;rw[←e1]at gv;rw[←e2]at dw;refine oO ?_;refine⟨E,by omega,by omega,?_⟩
  conv=>whnf
  refine⟨by omega,?_⟩
  conv=>whnf
  refine iW ?_;refine⟨E,by omega,by omega,?_⟩
  conv=>whnf
  refine⟨(by rw[hp];unfold I64;omega),?_⟩
  conv=>whnf
  refine kW ?_;refine iW ?_;refine Az [] q_ ⟨⟨E,E,zH (λz=>SV.val (.int .i64 z)) ?_,E,zH (λz=>SV.val (.int .i64 z)) ?_,E,Y⟩,Y,E,E⟩
  ·rw[hp,hs];omega
  ·omega
 have er:j=l.length/2:=by
  have:=zT h;omega
 have kf:¬bits .and .i64 (l.length:Int) 1=1:=by
  have:=Lk l.length 1 q_ j_;rw[show ((1:Nat):Int)=1 from rfl]at this;rw[this,Nat.and_one_is_mod,h2];decide
 have hd:=A17 (O8 l j) q_;rw[er]at hd⊢;clear er;refine oO ?_;refine⟨λh=>yB (zO h) kf,λ_=>?_⟩;refine oO ?_;refine c0 hd F347 ?_;exact gF
def sumOfS(l:List UInt8)(hl:l.length<100000)(h2:l.length%2=0):Sp 211 [.sl 1 Ak l] (Aa (Ajm l)):=cT F211 ntmps211 λF hF=>by
 have ha:=Av9 l hl h2;have hle:=Aqr (O8 l (l.length/2))
 conv=>whnf
 refine c0 ha F284 ?_;refine gE ?_;refine As E (.cons .tmp .nil) ?_ E;refine zH Aa ?_;rw[Ajm];omega
def A3l(n:Nat):SV:=Aa n
def Ok(l:List Nat):List UInt8:=l.flatMap λn=>[UInt8.ofNat (n/256),UInt8.ofNat n]
def Ais(l:List Nat):(Ok l).length=2*l.length:=by
 induction l with
 |nil=>rfl
 |cons a l ih=>simp only[Ok,vP,zQ,yM,xF]at ih⊢;omega
def Apb(l:List Nat)(n:Nat):Ok (l++[n])=Ok l++[UInt8.ofNat (n/256),UInt8.ofNat n]:=by simp[Ok]
def Alv(a b:Int)(h:0≤a∧a≤b):Sp 209 [Aa a,Aa b] (Ab true):=cT F209 ntmps209 λF hF=>by
 conv=>whnf
 refine⟨λ_=>?_,λh2=>yB (zT h2) q_⟩;refine oO ?_;refine As E (.cons .tmp .nil) ?_ E;exact zH Ab (zL h.2).symm
def A4a(l:List Nat)(hl:l.length<100000):Sq 210 [.val (.slice none 0 0),.sl 1 A3l l] [] (.osl 0) [(0,.row 1 Ak (Ok l))]:=cT F210 ntmps210 λF hF=>by
 conv=>whnf
 refine Ce 0 1000 1 Ak E E ?_;refine A8 l.length (λj=>[(0,.osl 1000),(7,.sl 1 A3l l),(8,Aa l.length),(9,Aa j)]) (λj=>[(1000,.row 1 Ak (Ok (l.take j)))]) [] uU ?_;intro j hj;have a7:=Ais (l.take j);refine oO ?_;constructor<;>intro h
 ·have ab:j<l.length:=by simpa using h
  have e1:l[(j:Int).toNat]'q_=l[j]:=rfl;have ag:Ok (l.take (j+1))=Ok (l.take j)++[UInt8.ofNat (l[j]/256),UInt8.ofNat l[j]]:=by
   rw[yC ab,Apb]
  obtain ⟨n,hn⟩:∃n,l[j]=n:=⟨_,rfl⟩
  rw[hn]at e1 ag;have jz:=I2 n;refine oO ?_;refine⟨E,by omega,by omega,?_⟩;rw[e1]
  conv=>whnf
  refine⟨by omega,?_⟩
  conv=>whnf
  refine Ah (Ag Γ.toTy 20 E E E E E (.row E) (.lit (e:=Ak) (l:=[UInt8.ofNat (n/256),UInt8.ofNat n]) E jz) y_ (by simp[a7];omega) (by simp[a7];omega)) E E ?_;refine gE ?_;exact Az [(1000,20)] ab ⟨⟨E,E,E,E,E,E,E,E,Y⟩,⟨.inl (zH (Ob.row 1 Ak) ag),E,Y⟩,E,E⟩
 ·have er:j=l.length:=by
   have:¬j<l.length:=by simpa using h
   omega
  subst er;rw[yN];refine oO ?_;exact done E (.cons .tmp .nil) [(0,1000)] [(0,.row 1 Ak (Ok l))] (λ_ h=>h) E E uU
def u8_of(n:Nat):IntKind.u8.wrap (n:Int)=((UInt8.ofNat n).toNat:Int):=by
 rw[IntKind.wrap_u8];simp
def Ae4{x:Int}(h0:0≤x)(h1:x<18446744073709551616):IntKind.u64.wrap x=x:=by rw[IntKind.wrap_u64];omega
def Aki(ip:Nat)(h:ip<4294967296):Sp 151 [A9 ip] (Bj (hostN ip)):=cT F151 ntmps151 λF hF=>by
 conv=>whnf
 refine As E (.cons .tmp .nil) ?_ E;refine zH (λz=>SV.val (.int .u64 z)) ?_;have e:IntKind.u64.wrap (ip:Int)=ip:=Ae4 q_ q_;rw[e];have hb:=bits_or_u64_nat 2199023255552 ip j_ q_;rw[show ((2199023255552:Nat):Int)=2199023255552 from rfl]at hb;rw[hb,hostN,zZ];have h2:=xP (i:=32) (b:=ip) q_ 512;rw[show 2^32*512=2199023255552 from rfl]at h2;rw[←h2]
def tagIsS(d s:Nat)(t:Int)(body:List UInt8)(ht:t≠33024):Sp 153 [A4y d s t body] (Ab false):=cT F153 ntmps153 λF hF=>by
 conv=>whnf
 refine As E (.cons .tmp .nil) ?_ E;exact zH Ab (zR.2 ht).symm
def A6t(v:Nat)(hv:v<9223372036854775808):bits .or .i64 (IntKind.i64.wrap (0*2^min (Int.toNat 12) IntKind.i64.bits)) (v:Int)=v:=by
 have h:=Ez 0 v j_ hv;rw[Nat.zero_or]at h;exact h
def A6d(d s t v:Nat)(body:List UInt8)(ht:t≠33024)(ht2:t≤65535)(hv:v≤4094)(hb:body.length≤1500):Sp 82 [A4y d s t body,Aa v,Aa 0] (.tup [A4y d s 33024 ([UInt8.ofNat (v/256),UInt8.ofNat v,UInt8.ofNat (t/256),UInt8.ofNat t]++body),Aa 0]):=cT F82 ntmps82 λF hF=>by
 have hor:=A6t v q_;have tb1:=I2 v;have tb2:=I2 t
 conv=>whnf
 refine c0 (tagIsS d s t body q_) F153 ?_
 (refine oF ?_;refine bF ?_)
 refine⟨λh=>yB (zO h) q_,λ_=>?_⟩
 (refine oF ?_;refine bF ?_;refine bF ?_)
 refine⟨λh=>yB (zO h) q_,λ_=>?_⟩;refine oO ?_;refine⟨λh=>yB (zO h) q_,λ_=>?_⟩;refine oO ?_;refine⟨by omega,?_⟩
 conv=>whnf
 rw[hor];refine⟨by omega,?_⟩
 conv=>whnf
 refine⟨by omega,?_⟩
 conv=>whnf
 refine Bv (Ag Γ.toTy 70 E E E E E (.lit (e:=Ak) (l:=[UInt8.ofNat (v/256),UInt8.ofNat v,UInt8.ofNat (t/256),UInt8.ofNat t]) E ?_) .sl y_ (by simp;omega) (by simp;omega)) z_ E ?_
 ·have h1:=List.cons.inj tb1;have h2:=List.cons.inj tb2;have h3:=List.cons.inj h1.2;have h4:=List.cons.inj h2.2;simp only[xW,vU];rw[h1.1,h3.1,h2.1,h4.1]
 refine gH ?_;refine Aj 70 E ?_;exact dN
end Go.Sy.YtolnneiipmfgaaaGreatDoor
namespace Go.Sy.YtolnneiipmfgaaaGreatDoor
open Go.Proofs Go.Proofs.Tryz
def Hz(l:List UInt8):Nat:=l.foldl (λn c=>n*256+c.toNat) 0
def Ajh(l:List UInt8)(c:UInt8):Hz (l++[c])=Hz l*256+c.toNat:=by
 rw[Hz,xN];rfl
def S4:∀(k:Nat) (l:List UInt8),l.length=k→Hz l<256^k
 |0,l,h=>by rw[vE.1 h];decide
 |k+1,l,h=>by
  have af:l≠[]:=λe=>by rw[e]at h;cases h
  have e:=vV af;have h1:=S4 k l.dropLast (by rw[uX];omega);have h2:=(l.getLast af).toNat_lt;rw[←e,Ajh,tQ];omega
def Axx(l:List UInt8){j:Nat}(h:j<l.length):Hz (l.take (j+1))=Hz (l.take j)*256+l[j].toNat:=by
 rw[yC h,Ajh]
def A58(m:Nat)(c:UInt8)(h:m<1099511627776):bits .or .u64 (IntKind.u64.wrap ((m:Int)*2^min (Int.toNat 8) IntKind.u64.bits)) (IntKind.u64.wrap (c.toNat:Int))=((m*256+c.toNat:Nat):Int):=by
 have hc:=c.toNat_lt;have e1:IntKind.u64.wrap ((m:Int)*2^min (Int.toNat 8) IntKind.u64.bits)=((m*256:Nat):Int):=by
  show IntKind.u64.wrap ((m:Int)*256)=_;rw[IntKind.wrap_u64];omega
 have e2:IntKind.u64.wrap (c.toNat:Int)=(c.toNat:Int):=by rw[IntKind.wrap_u64];omega
 rw[e1,e2,bits_or_u64_nat _ _ q_ q_];congr 1;have h:=xP (i:=8) (b:=c.toNat) q_ m;rw[vB m 256];exact h.symm
def Dx(m:Nat):Bool:=decide (m/1099511627776%2=1)
def A7v(m k:Nat):m&&&2^k=if m/2^k%2=1 then 2^k else 0:=by
 apply Nat.eq_of_testBit_eq;intro i;rw[Nat.testBit_and,Nat.testBit_two_pow];by_cases hi:k=i
 ·subst hi;rw[zL rfl,uA,Nat.testBit_eq_decide_div_mod_eq];split
  ·rename_i h;rw[zL h,Nat.testBit_two_pow_self]
  ·rename_i h;rw[zI h,Nat.zero_testBit]
 ·rw[zI hi,wK];split
  ·rw[Nat.testBit_two_pow,zI hi]
  ·rw[Nat.zero_testBit]
def Akk(m:Nat)(h:m<18446744073709551616):(bits .and .u64 (m:Int) 1099511627776 != 0)=Dx m:=by
 have e:=bits_and_u64_nat m 1099511627776 h j_;rw[show ((1099511627776:Nat):Int)=1099511627776 from rfl]at e;rw[e,show (1099511627776:Nat)=2^40 from rfl,A7v,Dx,show (1099511627776:Nat)=2^40 from rfl];split
 ·rename_i h;rw[zL h];rfl
 ·rename_i h;rw[zI h];rfl
attribute [local irreducible] Go.Sy.G Go.Sy.DR
set_option maxRecDepth 20000
set_option maxHeartbeats 4000000
def e_link{n:Net}(h:Ac n=true){i:Nat}(hi:i<n.links.length):(0≤n.links[i].a∧n.links[i].a.toNat<n.ports.length)∧(0≤n.links[i].b∧n.links[i].b.toNat<n.ports.length):=by
 simp only[Ac,zG]at h;have:=allB_iff.1 h.1.1.1.1.2 i hi;simp only[Mj,Ai,zG,zK]at this;omega
def Ek{n:Net}{i:Int}(h:0≤Bb n i):(0≤i∧i.toNat<n.ports.length)∧Ac n=true∧(Bb n i).toNat<n.ports.length:=by
 unfold Bb at h⊢;split at h
 ·rename_i hc;rw[zE hc];have hk:i.toNat<n.ports.length:=by omega
  have e1:nth n.ports i=n.ports[i.toNat]:=Af hk;rw[e1]at hc h⊢;have hq:=E7 hc.2.2 hk hc.2.1;have e2:nth n.links n.ports[i.toNat].link=n.links[n.ports[i.toNat].link.toNat]:=Af hq.1;have hl:=e_link hc.2.2 hq.1;rw[e2]at h⊢;refine⟨by omega,hc.2.2,?_⟩;split
  ·exact hl.2.2
  ·exact hl.1.2
 ·omega
def Dq(n:Net)(i v:Int):Int:=if v=(nth n.ports i).native then (nth n.ports (Bb n i)).native else if inB (nth n.ports (Bb n i)).tagged v=true then v else 0
def crossT(n:Net)(i v:Int):Int×Int×Bool :=
 if 0≤Bb n i∧Cw (nth n.ports i) v=true∧Dq n i v≠0 then (Bb n i,Dq n i v,true) else (0,0,false)
def Apz(n:Net)(hn:n.Fin)(i v:Int):Sp 279 [Ao n,Aa i,Aa v] (.tup [Aa (crossT n i v).1,Aa (crossT n i v).2.1,Ab (crossT n i v).2.2]):=cT F279 ntmps279 λF hF=>by
 have q:=Aac n hn i;have l4:=Ek (n:=n) (i:=i);have hc:=crossT.eq_1 n i v;unfold Dq at hc;generalize crossT n i v=r at *;obtain ⟨far,eu⟩:∃far,Bb n i=far:=⟨_,rfl⟩
 rw[eu]at q l4 hc;refine fW ?_;refine c0 q F271 ?_;refine fU ?_;constructor<;>intro h
 ·have h1:far<0:=zO h;rw[zD q_]at hc;subst hc;exact gC
 have h1:0≤far:=qB h;obtain ⟨⟨dg,hk⟩,hb,wb⟩:=l4 h1;have e1:nth n.ports i=n.ports[i.toNat]:=Af hk;have e2:nth n.ports far=n.ports[far.toNat]:=Af wb;rw[e1,e2]at hc;have ht1:=hn.tagged _ (zJ hk);have ht2:=hn.tagged _ (zJ wb);obtain ⟨p,hp⟩:∃p,n.ports[i.toNat]=p:=⟨_,rfl⟩
 obtain ⟨o,ho⟩:∃o,n.ports[far.toNat]=o:=⟨_,rfl⟩
 rw[hp]at hc ht1;rw[ho]at hc ht2;have xd:=Z9 p v ht1;have nj:=Eb o.tagged v ht2;refine Ba 3 8 (Ao n) E E E ?_;refine fU ?_;refine⟨E,dg,hk,?_⟩;rw[hp];refine fW ?_;refine c0 xd F131 ?_;cases bx:Cw p v
 ·rw[zD (by simp[bx])]at hc;subst hc;exact gC
 refine fU ?_;refine⟨E,h1,wb,?_⟩;rw[ho];refine fW ?_;refine⟨E,dg,hk,?_⟩;rw[hp];refine fW ?_;constructor<;>intro h
 ·have h2:v=p.native:=by simpa using h
  rw[zE h2]at hc;refine fU ?_;constructor<;>intro h
  ·have h3:o.native=0:=by simpa using h
   rw[zD (λhh=>hh.2.2 h3)]at hc;subst hc;exact gC
  ·have h3:o.native≠0:=by simpa using h
   rw[zE ⟨h1,bx,h3⟩]at hc;subst hc;exact gC
 have h2:¬v=p.native:=by simpa using h
 rw[zD h2]at hc;refine fU ?_;refine c0 nj F74 ?_;cases ar:inB o.tagged v
 ·rw[ar,zD y_]at hc;subst hc;exact gC
 rw[ar,zE rfl]at hc;refine fU ?_;constructor<;>intro h
 ·have h3:v=0:=by simpa using h
  rw[zD (λhh=>hh.2.2 h3)]at hc;subst hc;exact gC
 ·have h3:v≠0:=by simpa using h
  rw[zE ⟨h1,bx,h3⟩]at hc;subst hc;exact gC
def linkDomT(n:Net)(i v:Int):Int×Bool:=if (crossT n i v).2.2=true then (B6 n (nth n.ports (crossT n i v).1).dev (crossT n i v).2.1,true) else (0,false)
def Aa3{n:Net}{i v:Int}(h:(crossT n i v).2.2=true):0≤(crossT n i v).1∧(crossT n i v).1.toNat<n.ports.length:=by
 unfold crossT at h⊢;split at h
 ·rename_i hc;rw[zE hc];exact⟨hc.1,(Ek hc.1).2.2⟩
 ·cases h
def Aad(n:Net)(hn:n.Fin)(i v:Int):Sp 206 [Ao n,Aa i,Aa v] (.tup [Aa (linkDomT n i v).1,Ab (linkDomT n i v).2]):=cT F206 ntmps206 λF hF=>by
 have q:=Apz n hn i v;have l4:=Aa3 (n:=n) (i:=i) (v:=v);have hc:=linkDomT.eq_1 n i v;generalize linkDomT n i v=r at *;generalize crossT n i v=x at *;obtain ⟨far,to,ok⟩:=x;refine fW ?_;refine c0 q F279 ?_;cases ok
 ·rw[zD y_]at hc;subst hc;exact gC
 rw[zE rfl]at hc;have hf:=l4 rfl;dsimp only at hf hc;have e2:nth n.ports far=n.ports[far.toNat]:=Af hf.2;rw[e2]at hc;obtain ⟨o,ho⟩:∃o,n.ports[far.toNat]'hf.2=o:=⟨_,rfl⟩
 rw[ho]at hc;have q2:=Ks n hn o.dev to;subst hc;refine Ba 3 8 (Ao n) E E E ?_;refine fU ?_;refine⟨E,hf.1,hf.2,?_⟩;rw[ho];refine fW ?_;refine cD q2 F141 ?_;refine fU ?_;refine⟨z_,?_⟩;refine fW ?_;exact dN
def Ou(l:List Int)(p:Int→Bool)(f:FuncId)(first cap:List SV)(hc:(SV.clo (.func f) first cap).inn []=true)(hf:∀x∈l,Hb prog f (first++[Aa x]++cap) (Ab (p x)))(hl:Am l):Sp 341 [.sl 1 Aa l,.clo (.func f) first cap] (Aa (Br p l)):=cT F341 ntmps341 λF hF=>by
 unfold Am at hl;have ar:∀x:Int,B8 [] (first++[Aa x]++cap)=true:=λx=>C9 hc rfl
 conv=>whnf
 refine Bi l.length (λj=>H8 (λ_ x=>!(p x)) l j) (λj=>[(0,.sl 1 Aa l),(1,.clo (.func f) first cap),(7,Aa l.length),(8,Aa j)]) (λ_=>[]) [] (Bo _ _) ⟨⟨E,E,Bd _,hc,E,E,E,E,Y⟩,Y,E,E⟩ ?_;intro j hj hI;refine oO ?_;constructor<;>intro h
 ·have h:=zO h;have an:j<l.length:=by omega
  refine oO ?_;refine⟨E,by omega,by omega,?_⟩
  conv=>whnf
  refine Eg (hf l[j] (zJ an)) E E E (by simp only[ar];rfl) E E ?_;refine oO ?_;constructor<;>intro h2
  ·refine oO ?_;refine As E (.cons .tmp .nil) (zH Aa ?_) E;exact Co an (λi hi bc=>by simpa using hI i hi bc) h2
  ·refine gE ?_;exact Bc [] hI an (Bl hI an (by simp[h2])) ⟨⟨E,E,Bd _,hc,E,E,E,E,Y⟩,Y,E,E⟩
 ·have h:=zT h;refine oO ?_;refine As E (.cons .tmp .nil) (zH Aa ?_) E;exact Di (λi hi=>by simpa using hI i hi q_)
def Aa5(l:List Int)(p:Int→Bool)(f:FuncId)(first cap:List SV)(hc:(SV.clo (.func f) first cap).inn []=true)(hf:∀x∈l,Hb prog f (first++[Aa x]++cap) (Ab (p x)))(hl:Am l):Sp 389 [.sl 1 Aa l,.clo (.func f) first cap] (Ab (decide (0≤Br p l))):=cT F389 ntmps389 λF hF=>by
 have h0:B8 [] [.sl 1 Aa l,.clo (.func f) first cap]=true:=by simp only[B8,hc];rfl
 conv=>whnf
 refine Mn (Ou l p f first cap hc hf hl) F341 E E (by simp only[h0];rfl) E E ?_;exact gF
def Ag1(l:List Irb)(p:Irb→Bool)(f:FuncId)(first cap:List SV)(hc:(SV.clo (.func f) first cap).inn []=true)(hf:∀x∈l,Hb prog f (first++[Cb x]++cap) (Ab (p x)))(hl:Am l):Sp 345 [.sl 5 Cb l,.clo (.func f) first cap] (Aa (Br p l)):=cT F345 ntmps345 λF hF=>by
 unfold Am at hl;have ar:∀x:Irb,B8 [] (first++[Cb x]++cap)=true:=λx=>C9 hc rfl
 refine fW ?_;refine Bi l.length (λj=>H8 (λ_ x=>!(p x)) l j) (λj=>[(0,.sl 5 Cb l),(1,.clo (.func f) first cap),(7,Aa l.length),(8,Aa j)]) (λ_=>[]) [] (Bo _ _) ⟨⟨E,E,Bd _,hc,E,E,E,E,Y⟩,Y,E,E⟩ ?_;intro j hj hI;refine fU ?_;constructor<;>intro h
 ·have h:=zO h;have an:j<l.length:=by omega
  refine fU ?_;refine⟨E,by omega,by omega,?_⟩;refine fW ?_;refine Eg (hf l[j] (zJ an)) E E E (by simp only[ar];rfl) E E ?_;refine fU ?_;constructor<;>intro h2
  ·refine fU ?_;refine As E (.cons .tmp .nil) (zH Aa ?_) E;exact Co an (λi hi bc=>by simpa using hI i hi bc) h2
  ·refine gG ?_;exact Bc [] hI an (Bl hI an (by simp[h2])) ⟨⟨E,E,Bd _,hc,E,E,E,E,Y⟩,Y,E,E⟩
 ·have h:=zT h;refine fU ?_;refine As E (.cons .tmp .nil) (zH Aa ?_) E;exact Di (λi hi=>by simpa using hI i hi q_)
def K7(l:List Irb)(p:Irb→Bool)(f:FuncId)(first cap:List SV)(hc:(SV.clo (.func f) first cap).inn []=true)(hf:∀x∈l,Hb prog f (first++[Cb x]++cap) (Ab (p x)))(hl:Am l):Sp 281 [.sl 5 Cb l,.clo (.func f) first cap] (Ab (decide (0≤Br p l))):=cT F281 ntmps281 λF hF=>by
 have h0:B8 [] [.sl 5 Cb l,.clo (.func f) first cap]=true:=by simp only[B8,hc];rfl
 refine fW ?_;refine Mn (Ag1 l p f first cap hc hf hl) F345 E E (by simp only[h0];rfl) E E ?_;exact gC
def A52(v:Vrf)(hv:Am v.imports)(t:Int):Sp 388 [Aa t,.ref 5 (Ck v) 0] (Ab (inB v.imports t)):=cT F388 ntmps388 λF hF=>by
 have q:=Eb v.imports t hv
 conv=>whnf
 refine c0 q F74 ?_;exact gF
def Aul(n:Net)(i k:Int):Bool:=i==k||(nth n.vrfs i).dev==(nth n.vrfs k).dev&&decide (0≤Br (inB (nth n.vrfs k).imports) (nth n.vrfs i).exports)
def Ar2(n:Net)(hn:n.Fin)(hb:Ac n=true)(i k:Int)(hi:0≤i∧i.toNat<n.vrfs.length)(hk:0≤k∧k.toNat<n.vrfs.length):Sp 369 [Ao n,Aa i,Aa k] (Ab (Aul n i k)):=cT F369 ntmps369 λF hF=>by
 have hr:=A0 n hn;rw[hb]at hr;have him:=hn.imports _ (zJ hk.2);have hex:=hn.exports _ (zJ hi.2);rw[Aul,Af hi.2,Af hk.2];obtain ⟨a,ha⟩:∃a,n.vrfs[i.toNat]'hi.2=a:=⟨_,rfl⟩
 obtain ⟨b,hbb⟩:∃b,n.vrfs[k.toNat]'hk.2=b:=⟨_,rfl⟩
 rw[ha]at hex⊢;rw[hbb]at him⊢;have q:=Aa5 a.exports (inB b.imports) 388 [] [.ref 5 (Ck b) 0] rfl (λt _=>⟨⟨_,_,F388⟩,A52 b him t⟩) hex
 conv=>whnf
 refine⟨λh=>yB (zO h) q_,λ_=>?_⟩;refine oO ?_;refine⟨λh=>yB (zO h) q_,λ_=>?_⟩;refine oO ?_;refine⟨λh=>yB (zO h) q_,λ_=>?_⟩;refine oO ?_;refine⟨λh=>yB (zO h) q_,λ_=>?_⟩;refine oO ?_;refine c0 hr F20 ?_;refine oF ?_;refine⟨E,hi.1,hi.2,?_⟩;rw[ha]
 conv=>whnf
 refine⟨E,hk.1,hk.2,?_⟩;rw[hbb]
 conv=>whnf
 refine kW ?_;constructor<;>intro h
 ·rw[h,tR];exact gF
 rw[h,uB];refine oO ?_;constructor<;>intro h
 ·rw[h,yF];refine Ba 8 5 (Ck b) E E E ?_;refine oO ?_;refine c0 q F389 ?_;exact gF
 ·rw[h,yG];exact gF
def Qy(n:Net)(i:Int):Int:=(nth n.domains (nth n.irbs i).domain).dev
def A8h{n:Net}(h:Ac n=true){i:Nat}(hi:i<n.irbs.length):Ai0 n i n.irbs[i]=true:=by
 simp only[Ac,zG]at h;exact allB_iff.1 h.2 i hi
def E8{n:Net}(h:Ac n=true){i:Nat}(hi:i<n.irbs.length):(0≤n.irbs[i].domain∧n.irbs[i].domain.toNat<n.domains.length)∧(0≤n.irbs[i].vrf∧n.irbs[i].vrf.toNat<n.vrfs.length)∧(0≤n.irbs[i].bits∧n.irbs[i].bits≤32):=by
 have:=A8h h hi;simp only[Ai0,Ai,zG,zK]at this;omega
def Ms(n:Net)(hb:Ac n=true)(i:Int)(hi:0≤i∧i.toNat<n.irbs.length):Sp 326 [Ao n,Aa i] (Aa (Qy n i)):=cT F326 ntmps326 λF hF=>by
 have hf:=(E8 hb hi.2).1;rw[Qy,Af hi.2];obtain ⟨x,hx⟩:∃x,n.irbs[i.toNat]'hi.2=x:=⟨_,rfl⟩
 rw[hx]at hf⊢;rw[Af hf.2];obtain ⟨d,hd⟩:∃d,n.domains[x.domain.toNat]'hf.2=d:=⟨_,rfl⟩
 rw[hd]
 conv=>whnf
 refine⟨E,hi.1,hi.2,?_⟩;rw[hx]
 conv=>whnf
 refine⟨E,hf.1,hf.2,?_⟩;rw[hd]
 conv=>whnf
 refine kW ?_;exact dN
def Awh(n:Net)(i k:Int):Bool:=Qy n i==Qy n k&&Aul n (nth n.irbs k).vrf (nth n.irbs i).vrf
def As7(n:Net)(hn:n.Fin)(hb:Ac n=true)(i k:Int)(hi:0≤i∧i.toNat<n.irbs.length)(hk:0≤k∧k.toNat<n.irbs.length):Sp 328 [Ao n,Aa i,Aa k] (Ab (Awh n i k)):=cT F328 ntmps328 λF hF=>by
 have q1:=Ms n hb i hi;have q2:=Ms n hb k hk;have f1:=(E8 hb hi.2).2.1;have f2:=(E8 hb hk.2).2.1;have q3:=Ar2 n hn hb _ _ f2 f1;rw[Awh,Af hi.2,Af hk.2];obtain ⟨x,hx⟩:∃x,n.irbs[i.toNat]'hi.2=x:=⟨_,rfl⟩
 obtain ⟨y,hy⟩:∃y,n.irbs[k.toNat]'hk.2=y:=⟨_,rfl⟩
 rw[hx,hy]at q3;rw[hx,hy];generalize Qy n i=di at *;generalize Qy n k=dk at *
 conv=>whnf
 refine cD q1 F326 ?_;refine oD ?_;refine cD q2 F326 ?_;refine oD ?_;constructor<;>intro h
 ·rw[h,yF];refine oD ?_;refine⟨E,hk.1,hk.2,?_⟩;rw[hy]
  conv=>whnf
  refine⟨E,hi.1,hi.2,?_⟩;rw[hx]
  conv=>whnf
  refine cD q3 F369 ?_;refine gH ?_;exact dN
 ·rw[h,yG];refine gH ?_;exact dN
abbrev Awo(a b:Int):SV:=.agg [A9 a,Aa b]
def Ay9(a b:Int)(h:0≤b∧b≤32):Sp 220 [Awo a b] (Ab true):=cT F220 ntmps220 λF hF=>by
 conv=>whnf
 refine⟨λ_=>?_,λh2=>yB (zT h2) q_⟩;refine oO ?_;refine As E (.cons .tmp .nil) (zH Ab ?_) E;simp;omega
def Aow(b:Int):Int:=IntKind.u32.wrap (IntKind.u32.wrap (1*2^(min (32-b).toNat IntKind.u32.bits))-1)
def A25(a b:Int)(h:0≤b∧b≤32):Sp 221 [Awo a b] (A9 (Aow b)):=cT F221 ntmps221 λF hF=>by
 conv=>whnf
 refine iW ?_;refine⟨by omega,?_⟩
 conv=>whnf
 exact dN
def Aqm(a b x:Int):Bool:=bits .andNot .u32 (bits .xor .u32 a x) (Aow b)==0
def Aic(a b x:Int)(h:0≤b∧b≤32):Sp 327 [Awo a b,A9 x] (Ab (Aqm a b x)):=cT F327 ntmps327 λF hF=>by
 have q1:=Ay9 a b h;have q2:=A25 a b h;rw[Aqm];generalize Aow b=r at *
 conv=>whnf
 refine cD q1 F220 ?_
 (refine oD ?_;refine aT ?_;refine oD ?_)
 refine cD q2 F221 ?_;refine gH ?_;exact dN
def Agj(c:Int→Int→Int)(l:List Int)(j:Nat):Int:=((l.drop 1).take j).foldl (λm x=>if 0<c x m then x else m) (nth l 0)
def Aj3(c:Int→Int→Int)(l:List Int)(j:Nat)(h:j+1<l.length):Agj c l (j+1)=if 0<c l[j+1] (Agj c l j) then l[j+1] else Agj c l j:=by
 have hl:j<(l.drop 1).length:=by rw[yQ];omega
 rw[Agj,yC hl,xN];have e:(l.drop 1)[j]=l[j+1]:=by rw[vQ];congr 1;omega
 simp only[vG,tJ,e];rfl
def Aaa(c:Int→Int→Int)(l:List Int)(h:0<l.length):∀j,j+1≤l.length→Agj c l j∈l
 |0,_=>by
  rw[Agj,List.take_zero,tJ,Af (l:=l) (i:=0) (by simpa using h)];exact zJ _
 |j+1,hj=>by
  rw[Aj3 c l j q_];split
  ·exact zJ _
  ·exact Aaa c l h j q_
def A3u(l:List Int)(c:Int→Int→Int)(f:FuncId)(first cap:List SV)(hc:(SV.clo (.func f) first cap).inn []=true)(h0:0<l.length)(hl:Am l)(hf:∀x∈l,∀y∈l,Hb prog f (first++[Aa x,Aa y]++cap) (Aa (c x y))):Sp 330 [.sl 1 Aa l,.clo (.func f) first cap] (Aa (Agj c l (l.length-1))):=cT F330 ntmps330 λF hF=>by
 unfold Am at hl;have ar:∀x y:Int,B8 [] (first++[Aa x,Aa y]++cap)=true:=λx y=>C9 hc rfl
 have em:=Aaa c l h0;have ag:=Aj3 c l;have hz:Agj c l 0=l[0]:=by rw[Agj,List.take_zero,tJ,Af (l:=l) (i:=0) (by simpa using h0)];rfl
 generalize Agj c l=m at *
 conv=>whnf
 refine⟨λh=>yB (zO h) q_,λ_=>?_⟩;refine oO ?_;refine⟨E,by omega,by simpa using h0,?_⟩
 conv=>whnf
 refine A8 (l.length-1) (λj=>[(0,.sl 1 Aa l),(1,.clo (.func f) first cap),(5,Aa (m j)),(6,Aa ((j:Int)+1))]) (λ_=>[]) []
  ⟨⟨rfl,rfl,Bd _,hc,zH Aa hz,rfl,rfl,rfl,trivial⟩,trivial,rfl,rfl⟩ ?_
 intro j hj;have r8:=em j q_;have th:=ag j;refine oO ?_;constructor<;>intro h
 ·have ab:j+1<l.length:=qA h;have th:=th ab;have hk:((j:Int)+1).toNat<l.length:=by omega
  have e1:l[((j:Int)+1).toNat]'hk=l[j+1]:=by congr 1
  obtain ⟨x,hx⟩:∃x,l[j+1]=x:=⟨_,rfl⟩
  have hxm:x∈l:=hx▸zJ ab;rw[hx]at e1 th;refine oO ?_;refine⟨E,by omega,hk,?_⟩;rw[e1]
  conv=>whnf
  refine Eg (hf x hxm (m j) r8) E E E (by simp only[ar];rfl) E E ?_;refine oO ?_;constructor<;>intro h2
  ·rw[zE (zO h2)]at th;refine oO ?_;refine⟨E,by omega,hk,?_⟩;rw[e1]
   conv=>whnf
   refine iW ?_;exact Az [] q_ ⟨⟨E,E,Bd _,hc,zH Aa th,E,zH Aa q_,E,Y⟩,Y,E,E⟩
  ·rw[zD (zT h2)]at th;refine gE ?_;exact Az [] q_ ⟨⟨E,E,Bd _,hc,zH Aa th,E,zH Aa q_,E,Y⟩,Y,E,E⟩
 ·have:j=l.length-1:=qB h;subst this;exact gF
def Ame(n:Net)(irb i:Int):Int:=if (nth n.irbs i).vrf=(nth n.irbs irb).vrf then 1 else 0
abbrev InIrbs(n:Net)(i:Int):Prop:=0≤i∧i.toNat<n.irbs.length
def Apw(n:Net)(irb i:Int)(hi:InIrbs n i)(hk:InIrbs n irb):Sp 329 [Aa i,.ref 8 (Ao n) 0,.ref 1 (Aa irb) 0] (Aa (Ame n irb i)):=cT F329 ntmps329 λF hF=>by
 rw[Ame,Af hi.2,Af hk.2];obtain ⟨x,hx⟩:∃x,n.irbs[i.toNat]'hi.2=x:=⟨_,rfl⟩
 obtain ⟨y,hy⟩:∃y,n.irbs[irb.toNat]'hk.2=y:=⟨_,rfl⟩
 rw[hx,hy]
 conv=>whnf
 refine⟨E,hi.1,hi.2,?_⟩;rw[hx]
 conv=>whnf
 refine⟨E,hk.1,hk.2,?_⟩;rw[hy]
 conv=>whnf
 refine kW ?_;constructor<;>intro h
 ·rw[zE (by simpa using h)];exact gF
 ·rw[zD (by simpa using h)];exact gF
def A0z(n:Net)(irb a b:Int):Int:=if (nth n.irbs a).bits≠(nth n.irbs b).bits then (nth n.irbs a).bits-(nth n.irbs b).bits else Ame n irb a-Ame n irb b
def Awr(n:Net)(irb i:Int):0≤Ame n irb i∧Ame n irb i≤1:=by
 unfold Ame;split<;>omega
def A31(n:Net)(hb:Ac n=true)(irb a b:Int)(hk:InIrbs n irb)(ha:InIrbs n a)(dw:InIrbs n b):Sp 331 [Aa a,Aa b,.ref 8 (Ao n) 0,.ref 1 (.clo (.func 329) [] [.ref 8 (Ao n) 0,.ref 1 (Aa irb) 0]) 0] (Aa (A0z n irb a b)):=cT F331 ntmps331 λF hF=>by
 have fa:=(E8 hb ha.2).2.2;have fb:=(E8 hb dw.2).2.2;have q1:=Apw n irb a ha hk;have q2:=Apw n irb b dw hk;have l1:=Awr n irb a;have l2:=Awr n irb b;rw[A0z,Af ha.2,Af dw.2];obtain ⟨x,hx⟩:∃x,n.irbs[a.toNat]'ha.2=x:=⟨_,rfl⟩
 obtain ⟨y,hy⟩:∃y,n.irbs[b.toNat]'dw.2=y:=⟨_,rfl⟩
 rw[hx]at fa⊢;rw[hy]at fb⊢;generalize Ame n irb a=oa at *;generalize Ame n irb b=ob at *
 conv=>whnf
 refine⟨E,ha.1,ha.2,?_⟩;rw[hx]
 conv=>whnf
 refine⟨E,dw.1,dw.2,?_⟩;rw[hy]
 conv=>whnf
 refine kW ?_;constructor<;>intro h
 ·rw[zE (by simpa using h)];refine gE ?_;exact dN
 ·rw[zD (by simpa using h)];refine oO ?_;refine Avq ⟨⟨_,_,F329⟩,q1⟩ E E E E z_ E ?_;refine oD ?_;refine Avq ⟨⟨_,_,F329⟩,q2⟩ E E E E z_ E ?_;refine oD ?_;refine iW ?_;refine kW ?_;exact dN
def Abr(n:Net)(irb dst:Int)(i:Nat):Bool:=Qy n i==Qy n irb&&(nth n.irbs i).addr==dst
def Abm(n:Net)(irb dst:Int)(i:Nat):Bool:=Aqm (nth n.irbs i).addr (nth n.irbs i).bits dst&&Awh n irb i
def Ue(n:Net)(irb dst:Int):List Int:=Ml (Abm n irb dst) n.irbs.length
def lookT(n:Net)(irb dst:Int):Int×Bool :=
 if (List.range n.irbs.length).any (Abr n irb dst)=true then (0,false)
 else if Ue n irb dst=[] then (0,false) else (Agj (A0z n irb) (Ue n irb dst) ((Ue n irb dst).length-1),true)
def Awy(n:Net)(hn:n.Fin)(hb:Ac n=true)(irb dst:Int)(hk:InIrbs n irb):Sp 263 [Ao n,Aa irb,A9 dst] (.tup [Aa (lookT n irb dst).1,Ab (lookT n irb dst).2]):=cT F263 ntmps263 λF hF=>by
 have ak:=lookT.eq_1 n irb dst;generalize lookT n irb dst=r at *;have zm:=hn.irbs;unfold Am at zm;have qk:=Ms n hb irb hk
 conv=>whnf
 refine Ba 3 8 (Ao n) E E E ?_;refine Ba 4 1 (Aa irb) E E E ?_;refine Ce 8 1000 1 Aa E E ?_;refine Bi n.irbs.length (λj=>∀i,i<j→Abr n irb dst i=false) (λj=>[(2,A9 dst),(3,.ref 8 (Ao n) 0),(4,.ref 1 (Aa irb) 0),(8,.osl 1000),(13,.sl 5 Cb n.irbs),(14,Aa n.irbs.length),(15,Aa j)]) (λj=>[(1000,.row 1 Aa (Ml (Abm n irb dst) j))]) [] (λi hi=>yB hi q_)
  uU ?_
 intro j hj hI;refine oO ?_;constructor<;>intro h
 ·have ab:j<n.irbs.length:=by simpa using h
  have bc:InIrbs n (j:Int):=⟨by omega,by simpa using ab⟩
  have qj:=Ms n hb j bc;have ag:=Ahg (Abm n irb dst) j;have iy:=I6 (Abm n irb dst) j;have xf:Abr n irb dst j=(Qy n j==Qy n irb&&(nth n.irbs j).addr==dst):=rfl;have hwa:Abm n irb dst j=(Aqm (nth n.irbs j).addr (nth n.irbs j).bits dst&&Awh n irb j):=rfl;have enj:nth n.irbs (j:Int)=n.irbs[j]:=Af (l:=n.irbs) (i:=(j:Int)) (by simpa using ab);have hf:=(E8 hb ab).2.2;have e1:n.irbs[(j:Int).toNat]'q_=n.irbs[j]:=rfl;rw[enj]at xf hwa;obtain ⟨x,hx⟩:∃x,n.irbs[j]=x:=⟨_,rfl⟩
  rw[hx]at e1 xf hwa hf;have q1:=Aic x.addr x.bits dst hf;have q2:=As7 n hn hb irb j hk bc;rw[hwa]at ag;obtain ⟨u,hu⟩:∃u,Ml (Abm n irb dst) j=u:=⟨_,rfl⟩
  rw[hu]at ag iy⊢;refine oO ?_;refine⟨E,by omega,by omega,?_⟩;rw[e1]
  conv=>whnf
  refine cD qj F326 ?_;refine oD ?_;refine cD qk F326 ?_;refine oD ?_;constructor<;>intro h2
  ·rw[h2,yF]at xf;refine gH ?_;constructor<;>intro h3
   ·have:(List.range n.irbs.length).any (Abr n irb dst)=true:=wV.2 ⟨j,by simpa using ab,xf.trans h3⟩;rw[zE this]at ak;subst ak;exact gF
   ·have sy:=xf.trans h3;refine oO ?_;refine c0 q1 F327 ?_;refine oO ?_;constructor<;>intro h4
    ·rw[h4,yF]at ag;refine oO ?_;refine c0 q2 F328 ?_;refine oO ?_;constructor<;>intro h5
     ·rw[zE h5]at ag;refine oO ?_;refine Ah (Ag Γ.toTy 47 E E E E E (.row E) (.lit (e:=Aa) (l:=[(j:Int)]) E E) y_ (by simp;omega) (by simp;omega)) E E ?_;refine gE ?_;exact Bc [(1000,47)] hI ab (λi hi=>if e:i=j then (by rw[e];exact sy) else hI i q_) ⟨⟨E,E,E,E,E,E,E,E,E,E,E,E,E,E,Y⟩,⟨.inl (zH (Ob.row 1 Aa) ag),E,Y⟩,E,E⟩
     ·rw[zD (by simp[h5])]at ag;refine gE ?_;exact Bc [] hI ab (λi hi=>if e:i=j then (by rw[e];exact sy) else hI i q_) ⟨⟨E,E,E,E,E,E,E,E,E,E,E,E,E,E,Y⟩,⟨.inl (zH (Ob.row 1 Aa) ag),E,Y⟩,E,E⟩
    ·rw[zD (by simp[h4])]at ag;refine oF ?_;refine iW ?_;exact Bc [] hI ab (λi hi=>if e:i=j then (by rw[e];exact sy) else hI i q_) ⟨⟨E,E,E,E,E,E,E,E,E,E,E,E,E,E,Y⟩,⟨.inl (zH (Ob.row 1 Aa) ag),E,Y⟩,E,E⟩
  ·have sy:Abr n irb dst j=false:=by rw[xf,h2,yG]
   refine oD ?_;refine⟨z_,?_⟩
   ((conv=>whnf);refine aF ?_;refine rg ?_;conv=>whnf)
   refine c0 q1 F327 ?_;refine oO ?_;constructor<;>intro h4
   ·rw[h4,yF]at ag;refine oO ?_;refine c0 q2 F328 ?_;refine oO ?_;constructor<;>intro h5
    ·rw[zE h5]at ag;refine oO ?_;refine Ah (Ag Γ.toTy 47 E E E E E (.row E) (.lit (e:=Aa) (l:=[(j:Int)]) E E) y_ (by simp;omega) (by simp;omega)) E E ?_;refine gE ?_;exact Bc [(1000,47)] hI ab (λi hi=>if e:i=j then (by rw[e];exact sy) else hI i q_) ⟨⟨E,E,E,E,E,E,E,E,E,E,E,E,E,E,Y⟩,⟨.inl (zH (Ob.row 1 Aa) ag),E,Y⟩,E,E⟩
    ·rw[zD (by simp[h5])]at ag;refine gE ?_;exact Bc [] hI ab (λi hi=>if e:i=j then (by rw[e];exact sy) else hI i q_) ⟨⟨E,E,E,E,E,E,E,E,E,E,E,E,E,E,Y⟩,⟨.inl (zH (Ob.row 1 Aa) ag),E,Y⟩,E,E⟩
   ·rw[zD (by simp[h4])]at ag;refine oF ?_;refine iW ?_;exact Bc [] hI ab (λi hi=>if e:i=j then (by rw[e];exact sy) else hI i q_) ⟨⟨E,E,E,E,E,E,E,E,E,E,E,E,E,E,Y⟩,⟨.inl (zH (Ob.row 1 Aa) ag),E,Y⟩,E,E⟩
 ·have:j=n.irbs.length:=qB h;subst this;have dp:¬(List.range n.irbs.length).any (Abr n irb dst)=true:=λh=>by
   obtain ⟨i,h1,h2⟩:=wV.1 h;rw[hI i (by simpa using h1)]at h2;cases h2
  rw[zD dp]at ak;have ar:∀y∈Ue n irb dst,InIrbs n y:=λy hy=>by
   have:=(Sn (p:=Abm n irb dst) (j:=n.irbs.length)).1 hy;exact⟨this.1,by omega⟩
  have sh:=I6 (Abm n irb dst) n.irbs.length;have hwe:Ml (Abm n irb dst) n.irbs.length=Ue n irb dst:=rfl;rw[hwe]at sh⊢;have q:∀h0:0<(Ue n irb dst).length,_:=λh0=>A3u (Ue n irb dst) (A0z n irb) 331 [] [.ref 8 (Ao n) 0,.ref 1 (.clo (.func 329) [] [.ref 8 (Ao n) 0,.ref 1 (Aa irb) 0]) 0] rfl h0 (by unfold Am;omega) (λy hy z hz=>⟨⟨_,_,F331⟩,A31 n hb irb y z hk (ar y hy) (ar z hz)⟩)
  generalize Ue n irb dst=l at *;refine Aj 1000 E ?_;refine oO ?_;constructor<;>intro h3
  ·have h4:l=[]:=by simpa using h3
   rw[zE h4]at ak;subst ak;exact gF
  ·have h4:¬l=[]:=by simpa using h3
   rw[zD h4]at ak;have q:=q (xV.2 h4);subst ak;refine oO ?_;refine Ba 11 1 (.clo (.func 329) [] [.ref 8 (Ao n) 0,.ref 1 (Aa irb) 0]) E E E ?_;refine oO ?_;refine c0 q F330 ?_;exact gF
def Al0(n:Net)(hn:n.Fin)(hb:Ac n=true)(irb dst:Int)(hk:InIrbs n irb):Sp 280 [Ao n,Aa irb,A9 dst] (.tup [Aa (lookT n irb dst).1,Ab (lookT n irb dst).2]):=cT F280 ntmps280 λF hF=>by
 have hr:=A0 n hn;rw[hb]at hr;have q:=Awy n hn hb irb dst hk;generalize lookT n irb dst=r at *;refine fW ?_;refine⟨λh=>yB (zO h) q_,λ_=>?_⟩;refine fU ?_;refine⟨λh=>yB (zO h) q_,λ_=>?_⟩;refine fU ?_;refine c0 hr F20 ?_;refine fU ?_;refine c0 q F263 ?_;exact gC
def Vq{n:Net}{irb dst:Int}(h:(lookT n irb dst).2=true):InIrbs n (lookT n irb dst).1:=by
 unfold lookT at h⊢;split at h
 ·cases h
 rename_i h1;rw[zD h1];split at h
 ·cases h
 rename_i h2;rw[zD h2];have hm:=Aaa (A0z n irb) (Ue n irb dst) (xV.2 h2) ((Ue n irb dst).length-1) (by have:=xV.2 h2;omega);have:=(Sn (p:=Abm n irb dst) (j:=n.irbs.length)).1 hm;exact⟨this.1,by omega⟩
end Go.Sy.YtolnneiipmfgaaaGreatDoor
namespace Go.Sy.YtolnneiipmfgaaaGreatDoor
open Go.Proofs Go.Proofs.Tryz
set_option maxRecDepth 20000
set_option maxHeartbeats 4000000
def Wx{x:Int}(h0:0≤x)(h1:x<4294967297):IntKind.i64.wrap x=x:=by
 rw[IntKind.wrap_i64];omega
def Axz{x:Int}(h0:0≤x)(h1:x<4294967296):IntKind.u32.wrap x=x:=by
 rw[IntKind.wrap_u32];omega
def Ajt(b:Int)(h:0≤b∧b≤32):Aow b=((2^(32-b).toNat-1:Nat):Int):=by
 obtain ⟨k,hk,cq⟩:∃k:Nat,(32-b).toNat=k∧k≤32:=⟨_,rfl,by omega⟩
 have h1:min (32-b).toNat IntKind.u32.bits=k:=by show min (32-b).toNat 32=k;omega
 have hp:=wX (n:=2) j_ cq;have xe:(2:Nat)^32=4294967296:=rfl;rw[xe]at hp;have h0:=wY (n:=k);rw[Aow,h1,hk,IntKind.wrap_u32,IntKind.wrap_u32,show (2:Int)^k=((2^k:Nat):Int) by rw[uV];rfl];generalize 2^k=q at *;omega
def A4o(a b x:Int)(hb:0≤b∧b≤32)(ha:0≤a∧a<4294967296)(hx:0≤x∧x<4294967296):Aqm a b x=true↔I0 a b≤x∧x≤Mk a b:=by
 obtain ⟨a,rfl⟩:=xK ha.1;obtain ⟨x,rfl⟩:=xK hx.1;obtain ⟨k,hk,cq⟩:∃k:Nat,(32-b).toNat=k∧k≤32:=⟨_,rfl,by omega⟩
 have h0:=wY (n:=k);rw[Aqm,Ajt b hb,hk,A3v a x k q_ q_ cq,decide_eq_true_iff,Ayn a x (2^k) q_,Lj a k b hb hk,Ace a k b hb hk];omega
def Aag(a b:Int)(ha:0≤a∧a<4294967296):0≤Mk a b∧Mk a b<4294967296:=by
 by_cases hb:0≤b∧b≤32
 ·obtain ⟨a,rfl⟩:=xK ha.1;obtain ⟨k,hk,cq⟩:∃k:Nat,(32-b).toNat=k∧k≤32:=⟨_,rfl,by omega⟩
  have h0:=wY (n:=k);rw[Ace a k b hb hk];have hd:a-a%2^k=2^k*(a/2^k):=by have:=uF a (2^k);omega
  have h32:2^k*2^(32-k)=4294967296:=by
   rw[←Nat.pow_add,show k+(32-k)=32 by omega]
  have:a/2^k<2^(32-k):=by rw[Nat.div_lt_iff_lt_mul q_,vB,h32];omega
  have:2^k*(a/2^k)+2^k≤2^k*2^(32-k):=by
   rw[←Nat.mul_succ];exact Nat.mul_le_mul_left _ this
  omega
 ·rw[Mk,zD hb];omega
def Aku(a b:Int)(ha:0≤a∧a<4294967296):0≤I0 a b∧I0 a b<4294967296:=by
 by_cases hb:0≤b∧b≤32
 ·obtain ⟨a,rfl⟩:=xK ha.1;rw[Lj a _ b hb rfl];omega
 ·rw[I0,zD hb];omega
attribute [local irreducible] Go.Sy.G Go.Sy.DR
def Azy{n:Net}{irb dst:Int}(h:(lookT n irb dst).2=true):Abm n irb dst (lookT n irb dst).1.toNat=true:=by
 unfold lookT at h⊢;split at h
 ·cases h
 rename_i h1;rw[zD h1];split at h
 ·cases h
 rename_i h2;rw[zD h2];have hm:=Aaa (A0z n irb) (Ue n irb dst) (xV.2 h2) ((Ue n irb dst).length-1) (by have:=xV.2 h2;omega);exact((Sn (p:=Abm n irb dst) (j:=n.irbs.length)).1 hm).2.2
def Ayo(x:Int)(i:Irb):Sp 346 [Cb i,.ref 1 (A9 x) 0] (Ab (i.addr==x)):=cT F346 ntmps346 λF hF=>by
 refine fW ?_;exact dN
def Ayp(x:Int)(i:Irb):Sp 282 [Cb i,.ref 1 (A9 x) 0] (Ab (i.addr==x)):=cT F282 ntmps282 λF hF=>by
 refine fW ?_;exact dN
def Ma(n:Net)(a:Int):Bool:=decide (0≤Br (λi:Irb=>i.addr==a) n.irbs)
def pastI(n:Net)(a led:Int):Int:=if Ma n a=true then a+1 else Mk (nth n.irbs led).addr (nth n.irbs led).bits+1
def Arc(n:Net)(hn:n.Fin)(hu:Ds n)(a led:Int)(ha:0≤a∧a<4294967296)(hl:Ma n a=false→InIrbs n led):Sp 283 [Ao n,A9 a,Aa led] (Aa (pastI n a led)):=cT F283 ntmps283 λF hF=>by
 have ak:=pastI.eq_1 n a led;generalize pastI n a led=res at *;have q7:=K7 n.irbs (λi:Irb=>i.addr==a) 346 [] [.ref 1 (A9 a) 0] rfl (λi _=>⟨⟨_,_,F346⟩,Ayo a i⟩) hn.irbs;have ht:decide (0≤Br (λi:Irb=>i.addr==a) n.irbs)=Ma n a:=rfl;rw[ht]at q7;generalize Ma n a=tk at *;refine fW ?_;refine Ba 3 8 (Ao n) E E E ?_;refine Ba 4 1 (A9 a) E E E ?_;refine fU ?_;refine c0 q7 F281 ?_;cases tk;rotate_left
 ·rw[zE rfl]at ak;subst ak;refine fU ?_;rw[Wx q_ q_];refine iL ?_;refine fW ?_;exact dN
 rw[zD y_]at ak;have pc:=hl rfl;rw[Af pc.2]at ak;have nh:=hu _ (zJ pc.2);obtain ⟨x,hx⟩:∃x,n.irbs[led.toNat]'pc.2=x:=⟨_,rfl⟩
 rw[hx]at ak nh;obtain ⟨y,hy⟩:=xK nh.1;have q:=Acr y x.bits q_;have hle:=Aag x.addr x.bits nh;rw[←hy]at q;generalize Mk x.addr x.bits=z at *;subst ak;refine fU ?_;refine⟨E,pc.1,pc.2,?_⟩;rw[hx];refine fW ?_
 first|refine cD q F164 ?_|refine c0 q F164 ?_
 refine fU ?_;rw[Wx q_ q_];refine iL ?_;refine fW ?_;exact dN
def A26{n:Net}(hu:Ds n)(hb:Ac n=true){irb a:Int}(ha:0≤a∧a<4294967296)(h:Ma n a=false→(lookT n irb a).2=true):a<pastI n a (lookT n irb a).1∧pastI n a (lookT n irb a).1≤4294967296:=by
 rw[pastI];split
 ·omega
 rename_i ht;have h2:=h (by simpa using ht);have hw:=Azy h2;have hi:=Vq h2;have e:((lookT n irb a).1.toNat:Int)=(lookT n irb a).1:=by have:=hi.1;omega
 rw[Abm,zG,e]at hw;rw[Af hi.2]at hw⊢;have nh:=hu _ (zJ hi.2);have so:=(E8 hb hi.2).2.2;have h3:=(A4o _ _ _ so nh ha).1 hw.1;have h4:=Aag _ (n.irbs[(lookT n irb a).1.toNat]'hi.2).bits nh;omega
def addrGo(n:Net)(irb to e:Int)(x:Int):Int×Bool :=
 if x≤e then
  if (lookT n irb x).2=true∧(lookT n irb x).1=to∧Ma n x=false then (x,true)
  else if (lookT n irb x).2=false∧Ma n x=false then (0,false)
  else if x<pastI n x (lookT n irb x).1 then addrGo n irb to e (pastI n x (lookT n irb x).1) else (0,false)
 else (0,false)
 termination_by (e+1-x).toNat
 decreasing_by omega
def addrT(n:Net)(irb to:Int):Int×Bool :=
 if (0≤irb∧irb<n.irbs.length)∧(0≤to∧to<n.irbs.length)∧Ac n=true then
  addrGo n irb to (Mk (nth n.irbs to).addr (nth n.irbs to).bits) (I0 (nth n.irbs to).addr (nth n.irbs to).bits) else (0,false)
def Ahy(n:Net)(hn:n.Fin)(hu:Ds n)(irb to:Int):Sp 207 [Ao n,Aa irb,Aa to] (.tup [A9 (addrT n irb to).1,Ab (addrT n irb to).2]):=cT F207 ntmps207 λF hF=>by
 have ak:=addrT.eq_1 n irb to;generalize addrT n irb to=res at *;have hr:=A0 n hn;have zm:=hn.irbs;unfold Am at zm;refine fW ?_;constructor<;>intro h
 ·rw[zD (qA h)]at ak;subst ak;exact gC
 have h1:¬irb<0:=zT h;refine fU ?_;constructor<;>intro h
 ·rw[zD (qA h)]at ak;subst ak;exact gC
 have h2:¬to<0:=zT h;refine Ba 3 8 (Ao n) E E E ?_;refine fU ?_;constructor<;>intro h
 ·rw[zD (qA h)]at ak;subst ak;exact gC
 have h3:irb<n.irbs.length:=qB h;refine fU ?_;constructor<;>intro h
 ·rw[zD (qA h)]at ak;subst ak;exact gC
 have h4:to<n.irbs.length:=qB h;refine fU ?_;refine c0 hr F20 ?_;cases hb:Ac n
 ·rw[zD (by simp[hb])]at ak;subst ak;exact gC
 rw[zE ⟨⟨by omega,h3⟩,⟨by omega,h4⟩,hb⟩]at ak;have kl:InIrbs n to:=⟨by omega,by omega⟩
 have hii:InIrbs n irb:=⟨by omega,by omega⟩
 rw[Af kl.2]at ak;have nh:=hu _ (zJ kl.2);obtain ⟨x,hx⟩:∃x,n.irbs[to.toNat]'kl.2=x:=⟨_,rfl⟩
 rw[hx]at ak nh;obtain ⟨y,hy⟩:=xK nh.1;have q1:=Aid y x.bits q_;have q2:=Acr y x.bits q_;have hf:=Aku x.addr x.bits nh;have hle:=Aag x.addr x.bits nh;rw[←hy]at q1 q2;generalize Mk x.addr x.bits=e at *;generalize I0 x.addr x.bits=s at *;refine fU ?_;refine⟨E,kl.1,kl.2,?_⟩;rw[hx];refine fW ?_;refine cD q1 F163 ?_;refine fU ?_;refine cD q2 F164 ?_;refine fU ?_;refine⟨z_,?_⟩;refine fW ?_;refine Cj (λz:Int=>0≤z∧z≤4294967296∧res=addrGo n irb to e z) (λz=>[(1,Aa irb),(2,Aa to),(3,.ref 8 (Ao n) 0),(9,Aa z),(10,Aa e)]) (λ_=>[]) (λz=>(e+1-z).toNat) s [] ⟨hf.1,by omega,ak⟩
  ⟨⟨rfl,rfl,rfl,rfl,rfl,rfl,zH Aa (Wx (x:=s) q_ q_).symm,rfl,zH Aa (Wx (x:=e) q_ q_).symm,rfl,trivial⟩,trivial,rfl,rfl⟩ ?_
 clear ak;rintro z ⟨bu,hz1,ak⟩;refine fU ?_;constructor<;>intro h
 ·have h5:z≤e:=zO h;rw[addrGo,zE h5]at ak;have wc:0≤z∧z<4294967296:=by omega
  have q6:=Al0 n hn hb irb z hii;have zt:=A26 (irb:=irb) hu hb wc;have l4:=Vq (n:=n) (irb:=irb) (dst:=z);have q8:=λled hl=>Arc n hn hu z led wc hl
  have q7:=K7 n.irbs (λi:Irb=>i.addr==z) 282 [] [.ref 1 (A9 z) 0] rfl (λi _=>⟨⟨_,_,F282⟩,Ayp z i⟩) hn.irbs;have ht:decide (0≤Br (λi:Irb=>i.addr==z) n.irbs)=Ma n z:=rfl;rw[ht]at q7;clear ht;generalize Ma n z=tk at *;generalize lookT n irb z=ld at *;obtain ⟨led,ok⟩:=ld;dsimp only at *;refine fU ?_;rw[Axz wc.1 wc.2];refine c0 q6 F280 ?_;refine Ba 11 1 (A9 z) E E E ?_;refine fU ?_;refine c0 q7 F281 ?_;cases ok
  ·cases tk
   ·rw[zD y_,zE ⟨rfl,rfl⟩]at ak;subst ak;exact gC
   ·rw[zD y_,zD y_,zE (zt (λh=>by cases h)).1]at ak;have hg:=zt (λh=>by cases h);have q:=q8 led (λh=>by cases h);generalize pastI n z led=nx at *;refine fU ?_;refine c0 q F283 ?_;refine fU ?_;exact Ax nx [] ⟨by omega,hg.2,ak⟩ q_ uU
  ·have q:=q8 led (λ_=>l4 rfl);have hg:=zt (λ_=>rfl);cases tk
   ·by_cases dt:led=to
    ·subst dt;rw[zE ⟨rfl,rfl,rfl⟩]at ak;subst ak;refine fU ?_;constructor<;>intro h
     ·exact gC
     ·simp at h
    ·rw[zD (by simp[dt]),zD y_,zE hg.1]at ak;generalize pastI n z led=nx at *;refine fU ?_;refine⟨λh=>yB (by simpa using h) dt,λh=>?_⟩;refine fU ?_;refine c0 q F283 ?_;refine fU ?_;exact Ax nx [] ⟨by omega,hg.2,ak⟩ q_ uU
   ·rw[zD y_,zD y_,zE hg.1]at ak;generalize pastI n z led=nx at *;refine fU ?_;constructor<;>intro h
    ·refine fU ?_;refine c0 q F283 ?_;refine fU ?_;exact Ax nx [] ⟨by omega,hg.2,ak⟩ q_ uU
    ·refine fU ?_;refine c0 q F283 ?_;refine fU ?_;exact Ax nx [] ⟨by omega,hg.2,ak⟩ q_ uU
 ·have h5:¬z≤e:=zT h;rw[addrGo,zD h5]at ak;subst ak;exact gC
end Go.Sy.YtolnneiipmfgaaaGreatDoor
namespace Go.Sy.YtolnneiipmfgaaaGreatDoor
open Go.Proofs Go.Proofs.Tryz
def Lq(a b:ByteArray):(a==b)=true↔a=b:=by
 cases a with
 |mk a=>
  cases b with
  |mk b=>
   show (a==b)=true↔_;simp
instance:LawfulBEq ByteArray where
 eq_of_beq h:=(Lq _ _).1 h
 rfl:=(Lq _ _).2 rfl
def A37(c:UInt8):Bool:=decide (97≤c.toNat)&&decide (c.toNat≤122)
def A8d:List UInt8→Bool
 |[]=>false
 |c::l=>A37 c&&l.all λc=>A37 c||Lb c
def A1(s:ByteArray):Bool:=A8d s.data.toList&&decide (s.size≤12)
def Aab(s:ByteArray)(i:Nat):Bool:=decide (digI (Bu s (3*i))≤15)&&decide (digI (Bu s (3*i+1))≤15)&&(decide (5≤i)||decide ((Bu s (3*i+2)).toNat=58))
def Xh(s:ByteArray):Nat→Int
 |0=>0
 |i+1=>Xh s i*256+digI (Bu s (3*i))*16+digI (Bu s (3*i+1))
def macR(s:ByteArray):Int×Bool:=if s.size=17∧(List.range 6).all (Aab s)=true then (Xh s 6,true) else (0,false)
def Kx(m:Int):Bool:=decide (m%281474976710656/4294967296=512)
def statB(m:Int):Bool:=decide (m≤281474976710655)&&!(Kx m)&&!(Dx m.toNat)
def I5(one:ByteArray→Int×Bool):List Int→List ByteArray→List Int×Bool
 |out,[]=>(out,true)
 |out,p::r=>if (one p).2=false∨out.length=16∨(∃x,out.getLast? = some x∧(one p).1≤x) then ([],false) else I5 one (out++[(one p).1]) r
def Ig(one:ByteArray→Int×Bool)(s:ByteArray):List Int×Bool:=I5 one [] (C2 44 s)
def A7r:ByteArray:=⟨#[45]⟩
def listR(bf:Int)(s:ByteArray):List Int×Bool:=if s=A7r then ([],true) else Ig (λp=>numR p 1 bf) s
def Ee(s:ByteArray):List Int×Bool:=Ig D4 s
def prefixR(s:ByteArray):(Int×Int)×Bool :=
 if (cutT 47 s).2.2=false∨(D4 (cutT 47 s).1).2=false∨(smallT (cutT 47 s).2.1 32).2=false then ((0,0),false) else (((D4 (cutT 47 s).1).1,(smallT (cutT 47 s).2.1 32).1),true)
def subnetB(a bits:Int):Bool:=decide (1≤bits)&&decide (bits≤30)&&decide (a≠I0 a bits)&&decide (a≠Mk a bits)
def Bt:List (Bool×Int)→Int
 |[]=>0
 |(b,e)::l=>if b=true then e else Bt l
def At(cur:Int)(b:Bool)(e:Int):Int:=if b=true∧cur=0 then e else cur
def kindL(s:ByteArray):Int :=
 if s=⟨#[100,101,118,105,99,101]⟩ then 1 else if s=⟨#[112,111,114,116]⟩ then 2 else if s=⟨#[108,105,110,107]⟩ then 3 else if s=⟨#[115,116,97,116,105,99]⟩ then 4
 else if s=⟨#[118,116,101,112]⟩ then 5 else if s=⟨#[118,110,105]⟩ then 6 else if s=⟨#[102,108,111,111,100]⟩ then 7 else if s=⟨#[118,114,102]⟩ then 8 else if s=⟨#[105,114,98]⟩ then 9 else 0
def Hy:ByteArray:=⟨#[97,99,99,101,115,115]⟩
def Hi:ByteArray:=⟨#[116,114,117,110,107]⟩
def wdT(w:List ByteArray)(i:Nat):ByteArray:=(w[i]?).getD ⟨#[]⟩
def manyB(k:Int)(w:List ByteArray):Bool :=
 if k=0 then false
 else if k=2 then (if w.length<6 then false else if wdT w 4=Hy then decide (w.length=6) else if wdT w 4=Hi then decide (w.length=7) else decide (w.length≤7))
 else if k=3∨k=4∨k=8∨k=9 then decide (w.length=5) else if k=5 then decide (w.length=3) else decide (w.length=4)
def membersB(vlan:Int)(tagged:List Int):Bool:=(decide (0<vlan)||!tagged.isEmpty)&&!(tagged.contains vlan)
def lineZ:LineM:=⟨0,0,⟨#[]⟩,⟨#[]⟩,⟨#[]⟩,⟨#[]⟩,⟨#[]⟩,0,0,0,0,0,0,[],[],[],[]⟩
def C3(s:ByteArray):Int×Bool:=numR s 1 4094
def S3(s:ByteArray):Int×Bool:=numR s 1 16777215
def Em(w:List ByteArray):Int×List Int×List (Bool×Int) :=
 if wdT w 4=Hy then ((C3 (wdT w 5)).1,[],[(!(C3 (wdT w 5)).2,21)])
 else if wdT w 4=Hi then
  (if wdT w 5=A7r then (0,(listR 4094 (wdT w 6)).1,[(!(listR 4094 (wdT w 6)).2,21)])
   else ((C3 (wdT w 5)).1,(listR 4094 (wdT w 6)).1,[(!(C3 (wdT w 5)).2,21),(!(listR 4094 (wdT w 6)).2,21)]))
 else (0,[],[])
def B9(w:List ByteArray)(row:Int):LineM×List (Bool×Int) :=
 let n:=λi=>(!(A1 (wdT w i)),(20:Int))
 let k:=kindL (wdT w 0)
 if k=1 then ({lineZ with row:=row,kind:=1,dev:=wdT w 1,num:=(numR (wdT w 2) 0 65535).1,mac:=(macR (wdT w 3)).1},[n 1,(!(numR (wdT w 2) 0 65535).2,21),(!((macR (wdT w 3)).2&&statB (macR (wdT w 3)).1),21)])
 else if k=2 then ({ lineZ with row:=row,kind:=2,dev:=wdT w 1,port:=wdT w 2,cost:=(numR (wdT w 3) 1 65535).1,vlan:=(Em w).1,tagged:=(Em w).2.1 },
  [n 1,n 2,(!(numR (wdT w 3) 1 65535).2,21),(decide (wdT w 4≠Hy) && decide (wdT w 4≠Hi),20)]++(Em w).2.2++[(!(membersB (Em w).1 (Em w).2.1),21)])
 else if k=3 then ({lineZ with row:=row,kind:=3,dev:=wdT w 1,port:=wdT w 2,peer:=wdT w 3,far:=wdT w 4},[n 1,n 2,n 3,n 4])
 else if k=4 then ({lineZ with row:=row,kind:=4,dev:=wdT w 1,vlan:=(C3 (wdT w 2)).1,mac:=(macR (wdT w 3)).1,port:=wdT w 4},[n 1,(!(C3 (wdT w 2)).2,21),(!((macR (wdT w 3)).2&&statB (macR (wdT w 3)).1),21),n 4])
 else if k=5 then ({lineZ with row:=row,kind:=5,dev:=wdT w 1,addr:=(D4 (wdT w 2)).1},[n 1,(!((D4 (wdT w 2)).2&&decide ((D4 (wdT w 2)).1≠0)),21)])
 else if k=6 then ({lineZ with row:=row,kind:=6,dev:=wdT w 1,vlan:=(C3 (wdT w 2)).1,num:=(S3 (wdT w 3)).1},[n 1,(!(C3 (wdT w 2)).2,21),(!(S3 (wdT w 3)).2,21)])
 else if k=7 then ({lineZ with row:=row,kind:=7,dev:=wdT w 1,num:=(S3 (wdT w 2)).1,addrs:=(Ee (wdT w 3)).1},[n 1,(!(S3 (wdT w 2)).2,21),(!((Ee (wdT w 3)).2&&decide ((Ee (wdT w 3)).1.head? ≠ some 0)),21)])
 else if k=8 then ({lineZ with row:=row,kind:=8,dev:=wdT w 1,name:=wdT w 2,imports:=(listR 65535 (wdT w 3)).1,exports:=(listR 65535 (wdT w 4)).1},[n 1,n 2,(!(listR 65535 (wdT w 3)).2,21),(!(listR 65535 (wdT w 4)).2,21)])
 else ({ lineZ with row:=row,kind:=9,dev:=wdT w 1,vlan:=(C3 (wdT w 2)).1,name:=wdT w 3,addr:=(prefixR (wdT w 4)).1.1,bits:=(prefixR (wdT w 4)).1.2 },
  [n 1,(!(C3 (wdT w 2)).2,21),n 3,(!((prefixR (wdT w 4)).2 && subnetB (prefixR (wdT w 4)).1.1 (prefixR (wdT w 4)).1.2),21)])
def Cp(w:List ByteArray)(row:Int):LineM×Int :=
 if w=[]∨manyB (kindL (wdT w 0)) w=false then (lineZ,22) else if Bt (B9 w row).2≠0 then (lineZ,Bt (B9 w row).2) else ((B9 w row).1,0)
def Jc(cur:List UInt8):List ByteArray:=if cur=[] then [] else [mkT cur]
def He:List UInt8→List UInt8→List ByteArray
 |cur,[]=>Jc cur
 |cur,c::r=>if c=35 then Jc cur else if c=32∨c=9 then Jc cur++He [] r else He (cur++[c]) r
def Anw(c:UInt8):Bool:=decide (32<c.toNat)&&decide (c.toNat≤126)&&decide (c.toNat≠35)
def wordB(s:ByteArray):Bool:=decide (0<s.size)&&decide (s.size≤40)&&s.data.toList.all Anw
def wordsT(row:ByteArray):List ByteArray×Int:=if (He [] row.data.toList).all wordB=true then (He [] row.data.toList,0) else ([],20)
def L9:Nat→List ByteArray→List LineM→List LineM×Int×Int
 |_,[],out=>(out,0,0)
 |i,r::rs,out=>
  if (wordsT r).2≠0 then ([],(i:Int)+1,(wordsT r).2) else if (wordsT r).1=[] then L9 (i+1) rs out
  else if (Cp (wordsT r).1 ((i:Int)+1)).2≠0 then ([],(i:Int)+1,(Cp (wordsT r).1 ((i:Int)+1)).2) else L9 (i+1) rs (out++[(Cp (wordsT r).1 ((i:Int)+1)).1])
def textT(b:List UInt8):List LineM×Int×Int:=if (rowsT b).2≠0 then ([],0,(rowsT b).2) else L9 0 (rowsT b).1 []
def M7(a b:LineM):Bool :=
 a.row == b.row && (a.kind == b.kind && (a.dev == b.dev && (a.port == b.port && (a.peer == b.peer && (a.far == b.far && (a.name == b.name && (a.mac == b.mac && (a.addr == b.addr && (a.bits == b.bits &&
 (a.vlan == b.vlan && (a.num == b.num && (a.cost == b.cost && (a.tagged == b.tagged && (a.imports == b.imports && (a.exports == b.exports && a.addrs == b.addrs)))))))))))))))
def Cs(n lo hi:Int):Bool:=decide (lo≤n)&&decide (n≤hi)
abbrev Ev(l:List Int)(hi:Int):Bool:=U5 l hi
def La(l:List Int):Bool:=(List.range l.length).all (λi=>decide (l.getD i 0≠0)&&(i==0||decide (l.getD (i-1) 0<l.getD i 0)))&&(decide (0<l.length)&&decide (l.length≤16))
def Bm(l:LineM):LineM×Bool :=
 let u:LineM:={lineZ with row:=l.row,kind:=l.kind,dev:=l.dev}
 if l.kind=1 then ({u with num:=l.num,mac:=l.mac},Cs l.num 0 65535&&statB l.mac)
 else if l.kind=2 then ({u with port:=l.port,cost:=l.cost,vlan:=l.vlan,tagged:=l.tagged},A1 l.port&&(Cs l.cost 1 65535&&(Cs l.vlan 0 4094&&(Ev l.tagged 4094&&membersB l.vlan l.tagged))))
 else if l.kind=3 then ({u with port:=l.port,peer:=l.peer,far:=l.far},A1 l.port&&(A1 l.peer&&A1 l.far))
 else if l.kind=4 then ({u with vlan:=l.vlan,mac:=l.mac,port:=l.port},Cs l.vlan 1 4094&&(statB l.mac&&A1 l.port))
 else if l.kind=5 then ({u with addr:=l.addr},decide (l.addr≠0))
 else if l.kind=6 then ({u with vlan:=l.vlan,num:=l.num},Cs l.vlan 1 4094&&Cs l.num 1 16777215)
 else if l.kind=7 then ({u with num:=l.num,addrs:=l.addrs},Cs l.num 1 16777215&&La l.addrs)
 else if l.kind=8 then ({u with name:=l.name,imports:=l.imports,exports:=l.exports},A1 l.name&&(Ev l.imports 65535&&Ev l.exports 65535))
 else if l.kind=9 then ({u with vlan:=l.vlan,name:=l.name,addr:=l.addr,bits:=l.bits},Cs l.vlan 1 4094&&(A1 l.name&&subnetB l.addr l.bits))
 else (u,false)
def Cq(l:LineM):Bool:=(Bm l).2&&(A1 l.dev&&M7 (Bm l).1 l)
attribute [local irreducible] Go.Sy.G Go.Sy.DR
structure Bx(Q:Prop):Prop where out:Q
def sE{α:Sort _}{a b:α}{K:Prop}(e:a=b)(h:K):a=b∧K:=⟨e,h⟩
def xE{α:Sort _}{a b:α}{K:a=b→Prop}(e:a=b)(h:K e):∃e:a=b,K e:=⟨e,h⟩
def sL{a b:Int}{K:Prop}(e:a≤b)(h:K):a≤b∧K:=⟨e,h⟩
def xL{a b:Int}{K:a≤b→Prop}(e:a≤b)(h:K e):∃e:a≤b,K e:=⟨e,h⟩
def sM{a b:Nat}{K:Prop}(e:a≤b)(h:K):a≤b∧K:=⟨e,h⟩
def sT{a b:Nat}{K:Prop}(e:a<b)(h:K):a<b∧K:=⟨e,h⟩
def xT{a b:Nat}{K:a<b→Prop}(e:a<b)(h:K e):∃e:a<b,K e:=⟨e,h⟩
def sN{a b:Int}{K:Prop}(e:a≠b)(h:K):a≠b∧K:=⟨e,h⟩
def sI{a:Int}{K:Prop}(e:I64 a)(h:K):I64 a∧K:=⟨e,h⟩
def ct{p q:Prop}{b:Bool}(h:q)(e:b=true→False:=by
 intro _h
 first | exact yB _h j_ | exact tM (Eq.trans (Eq.symm (by with_reducible assumption)) _h) | (simp at _h;done) | (simp at _h;omega)):(b=true→p)∧(b=false→q):=⟨λ x=>(e x).elim,λ _=>h⟩
def cf{p q:Prop}{b:Bool}(h:p)(e:b=false→False:=by
 intro _h
 first | exact yB _h j_ | exact tM (Eq.trans (Eq.symm _h) (by with_reducible assumption)) | (simp at _h;done) | (simp at _h;omega)):(b=true→p)∧(b=false→q):=⟨λ _=>h,λ x=>(e x).elim⟩
def S{P Q:Prop}(h:Q)(e:Bx Q→P:=by
 intro hb
 first|refine rg ?_|refine rd z_ ?_|skip
 conv=>whnf
 repeat (first
  |((first|refine aF ?_|refine aT ?_|refine ct ?_|refine cf ?_);(first|refine rg ?_|refine rd z_ ?_);(conv=>whnf))
  | ((first | refine⟨(by kernel_rfl:Am9 _ _=true),?_⟩ | refine sI (by unfold I64;omega) ?_);(conv=>whnf)))
 exact hb.out):P:=e ⟨h⟩
def T{P Q:Prop}(h:Q)(e:Bx Q→P:=by
 intro hb;refine S ?_
 repeat ((first|refine sE (by exact rfl) ?_|refine sL (by first|omega|decide) ?_|refine xL (by first|omega|decide) ?_|refine sT (by first|omega|decide) ?_|refine xT (by first|omega|decide) ?_|refine sM (by first|omega|decide) ?_|refine sN (by first|omega|decide) ?_|refine xE (by exact rfl) ?_);refine S ?_)
 exact hb.out):P:=e ⟨h⟩
def D{P:Prop}(h:P:=by
 apply As
 ·exact E
 ·(repeat (first|exact ResVs.nil|(apply ResVs.cons;(first|exact .tmp|exact .cell rfl rfl rfl rfl))))
 ·exact E
 ·exact E):P:=h
def U{P:Prop}(h:P:=by
 refine⟨?_,?_,E,E⟩
 ·repeat (first|exact trivial|exact rfl|refine⟨rfl,rfl,?_⟩)
 ·repeat (first | exact trivial | refine⟨.inl rfl,rfl,?_⟩ | refine⟨.inr rfl,rfl,?_⟩)):P:=h
def doneE{P:Program}{fn:Func}{F:Fr}{R:SV}{H':Obs}{Γ:Go.Sy.Ty P}{n:Nat}{bn:List Nat}{hbn:∀k,F.k0 k≠.new→k∈bn}{k:List KI}{s:SS}{rs:List ResultVar}(hf:fn.results=rs.toArray){xs:List SV}(hx:ResVs Γ.get s rs xs)(hR:R.ren (Bg [])=Aja xs)(ot:R.inn (Obs.keys H')=true)(a8:Sub ⟨P,Γ,F,n,Xm P fn F R H',bn,hbn⟩ s [] [] H'):G ⟨P,Γ,F,n,Xm P fn F R H',bn,hbn⟩ (.code .ret::k) s:=done hf hx [] H' (λ_ h=>h) hR ot a8
def doneF{P:Program}{fn:Func}{F:Fr}{R:SV}{H':Obs}{Γ:Go.Sy.Ty P}{n:Nat}{bn:List Nat}{hbn:∀k,F.k0 k≠.new→k∈bn}{s:SS}{rs:List ResultVar}(hf:fn.results=rs.toArray){xs:List SV}(hx:ResVs Γ.get s rs xs)(hR:R.ren (Bg [])=Aja xs)(ot:R.inn (Obs.keys H')=true)(a8:Sub ⟨P,Γ,F,n,Xm P fn F R H',bn,hbn⟩ s [] [] H'):G ⟨P,Γ,F,n,Xm P fn F R H',bn,hbn⟩ [] s:=A4 hf hx [] H' (λ_ h=>h) hR ot a8
def E0{P:Prop}(h:P:=by
 first|apply doneE|apply doneF
 ·exact E
 ·(repeat (first|exact ResVs.nil|(apply ResVs.cons;(first|exact .tmp|exact .cell rfl rfl rfl rfl))))
 ·exact E
 ·exact E
 ·exact U):P:=h
def W{P:Prop}(h:P:=by
 repeat (first | exact trivial | exact rfl | refine⟨rfl,?_⟩)):P:=h
def V{P:Prop}(h:P:=by
 repeat (first | exact trivial | refine⟨.inl rfl,?_⟩ | refine⟨.inr rfl,?_⟩)):P:=h
def C{P:Program}{f:FuncId}{fn:Func}{c:Code}{A:List SV}{R:SV}{Z Q:Prop}(hs:Sy.Spec P f A [] R [])(hf:Fun P f fn c)(h:Q)(e:Sy.Spec P f A [] R []→Fun P f fn c→Bx Q→Z:=by
 intro hs hf hb
 first|refine Mn hs hf rfl rfl rfl rfl rfl ?_|refine A5e hs hf rfl rfl rfl z_ rfl ?_
 refine T ?_;exact hb.out):Z:=e hs hf ⟨h⟩
def X{C:Cx}{k:List KI}{s:SS}{all:Array Oper}{o:Oper}{rest:List Oper}{V:Up}{Q:Prop}(hg:Good C.P o s V)(h:Q)(hd:V8 C.n o=true:=by exact rfl)(hw:Ew C.n all o s=some true:=by exact rfl)(e:Bx Q→G C (.ops all rest::k) (s.upd o.dst V):=by
 intro hb;refine T ?_;exact hb.out):G C (.ops all (o::rest)::k) s:=Ah hg hd hw (e ⟨h⟩)
def Xd{C:Cx}{k:List KI}{s:SS}{all:Array Oper}{done:List Stp}{o:Oper}{rest:List Oper}{V:Up}{Q:Prop}(hg:Good C.P o s V)(h:Q)(hi:all[done.length]? = some o:=by kernel_rfl)(hw:Ew C.n all o s=some true:=by exact rfl)(hn:(Kb o || Qx o)=false:=by exact rfl)(e:Bx Q→DR C k all (done++[⟨done.length,o,V,true⟩]) rest (s.upd o.dst V):=by
 intro hb;refine T ?_;exact hb.out):DR C k all done (o::rest) s:=Bv hg hi hw (e ⟨h⟩) hn
def Xe{C:Cx}{k:List KI}{s:SS}{all:Array Oper}{done:List Stp}{o:Oper}{rest:List Oper}{V:Up}{Q:Prop}(hg:Good C.P o s V)(h:Q)(hk:KeepL s V.objs:=by exact W)(hi:all[done.length]? = some o:=by kernel_rfl)(hw:Ew C.n all o s=some true:=by exact rfl)(hn:(Kb o || Qx o)=false:=by exact rfl)(e:Bx Q→DR C k all (done++[⟨done.length,o,⟨V.v,V.rd++V.ws,[]⟩,true⟩]) rest (s.upd o.dst ⟨V.v,V.rd++V.ws,[]⟩):=by
 intro hb;refine T ?_;exact hb.out):DR C k all done (o::rest) s:=stepD2 hg hk hi hw (e ⟨h⟩) hn
def gA{S0 F0 S1 F1 P Q:Prop}(s0:S0)(t0:F0)(s1:S1)(t1:F1)(h:Q)(e:S0→F0→S1→F1→Bx Q→P:=by intro s0 t0 s1 t1 b;refine T ?_;refine C s0 t0 ?_;refine C s1 t1 ?_;exact b.out):P:=e s0 t0 s1 t1 ⟨h⟩
def gB{P:Prop}(e:P:=by refine T ?_;exact D):P:=e
def gD{S0 F0 P Q:Prop}(s0:S0)(t0:F0)(h:Q)(e:S0→F0→Bx Q→P:=by intro s0 t0 b;refine T ?_;refine C s0 t0 ?_;exact b.out):P:=e s0 t0 ⟨h⟩
def gI{S0 F0 S1 F1 P Q:Prop}(s0:S0)(t0:F0)(s1:S1)(t1:F1)(h:Q)(e:S0→F0→S1→F1→Bx Q→P:=by intro s0 t0 s1 t1 b;refine C s0 t0 ?_;refine C s1 t1 ?_;exact b.out):P:=e s0 t0 s1 t1 ⟨h⟩
set_option maxRecDepth 100000
set_option maxHeartbeats 4000000
def Ayg{s:ByteArray}(h:s.size=0):s=⟨#[]⟩:=by
 have h2:s.data.toList.length=0:=h;exact Ahk (zX h2)
def Az4(s:ByteArray)(hs:s.size≤1000000):Sp 46 [Ap s] (Ab (wordB s)):=cT F46 ntmps46 λF hF=>by
 have bh:s.data.toList.length=s.size:=rfl;have hw:=wordB.eq_1 s;obtain ⟨r,hr⟩:∃r,wordB s=r:=⟨_,rfl⟩
 rw[hr]at hw⊢;refine T ?_;refine Bi s.size (λj=>H8 (λ_ c=>Anw c) s.data.toList j) (λj=>[(0,Ap s),(5,Aa s.size),(6,Aa j)]) (λ_=>[]) [] (Bo _ _) U ?_;intro j hj hI;refine T ?_;constructor<;>intro h
 ·have ab:j<s.data.toList.length:=qA h;have hb:Bu s j=s.data.toList[j]:=Ae3 ab;have dp:=λh=>@all_at' _ Anw s.data.toList j ab h
  have gy:=λh=>Bl (p:=λ_ c=>Anw c) hI ab h
  rw[←hb]at dp gy;clear h;have hx:Anw (Bu s j)=(decide (32<(Bu s j).toNat)&&decide ((Bu s j).toNat≤126)&&decide ((Bu s j).toNat≠35)):=rfl;by_cases h1:32<(Bu s j).toNat
  ·by_cases h2:(Bu s j).toNat≤126
   ·by_cases h3:(Bu s j).toNat=35
    ·rw[dp (by rw[hx];simp[h3]),wK]at hw;subst hw;exact gB
    ·refine T ?_;exact Bc [] hI q_ (gy (by rw[hx];simp[h1,h2,h3])) U
   ·rw[dp (by rw[hx];simp[h2]),wK]at hw;subst hw;exact gB
  ·rw[dp (by rw[hx];simp[h1]),wK]at hw;subst hw;exact gB
 ·have cm:j=s.size:=qB h;subst cm;rw[Acp hI (yD _),uA]at hw;clear h;by_cases h0:s.size=0
  ·have hs:=Ayg h0;have he:(s==(⟨#[]⟩:ByteArray))=true:=(Lq _ _).2 hs;have hw:r=false:=by rw[hw,h0];rfl
   have dq:(!(s==(⟨#[]⟩:ByteArray)))=false:=by rw[he];rfl
   subst hw;exact gB
  ·have he:(s==(⟨#[]⟩:ByteArray))=false:=by
    cases he:(s==(⟨#[]⟩:ByteArray))
    ·rfl
    ·exact yB (by rw[(Lq _ _).1 he];rfl) h0
   have dq:(!(s==(⟨#[]⟩:ByteArray)))=true:=by rw[he];rfl
   by_cases h4:s.size≤40
   ·have hw:r=true:=by rw[hw];simp[h4];omega
    subst hw;refine T ?_;refine As E (.cons .tmp .nil) (zH Ab ?_) E;exact(zL q_).symm
   ·have hw:r=false:=by rw[hw];simp[h4]
    subst hw;refine T ?_;refine As E (.cons .tmp .nil) (zH Ab ?_) E;exact(zI q_).symm
abbrev strO(row:ByteArray)(f:Nat)(l:List ByteArray):Obs:=[(1,.box [Aa f]),(2,.box [.osl 3]),(3,.row 1 Ap l),(4,.box [Ap row])]
abbrev strN(row:ByteArray)(f:Nat)(l:List ByteArray):Obs:=[(1,.box [Aa f]),(2,.box [.osl 5]),(3,.non),(5,.row 1 Ap l),(4,.box [Ap row])]
def A19(row:ByteArray)(f i:Nat)(l:List ByteArray)(xg:f≤i)(hi:i≤row.size)(hs:row.size≤1000000)(hl:l.length≤1000000):Sq 121 [Aa i,.ptr 1 0,.ptr 2 0,.ptr 4 0] (strO row f l) (.tup []) (strN row (i+1) (l++Jc ((row.data.toList.take i).drop f))):=cT F121 ntmps121 λF hF=>by
 have bh:row.data.toList.length=row.size:=rfl;have hx:row.extract f i=mkT ((row.data.toList.take i).drop f):=by rw[←E4,Kt]
 refine T ?_;constructor<;>intro h
 ·have h1:f<i:=qA h;have af:(row.data.toList.take i).drop f≠[]:=λe=>by
   have:=zH List.length e;rw[yQ,zY]at this;simp at this;omega
  rw[Jc,zD af,←hx];refine T ?_;refine⟨⟨by omega,by omega,by omega⟩,?_⟩;refine T ?_;refine Xd (Ag Γ.toTy 14 E E E E E (.row E) (.lit (e:=Ap) (l:=[row.extract f i]) E E) y_ (by simp;omega) (by simp;omega)) ?_;refine T ?_;exact A4 E .nil [(5,14)] (strN row (i+1) (l++[row.extract f i])) (λ_ h=>h) E E U
 ·have h1:¬f<i:=qB h;have he:(row.data.toList.take i).drop f=[]:=vI (by rw[zY];omega);rw[he,Jc,zE rfl,xM];refine Wk 3 1000 E E j_ ?_;refine T ?_;exact A4 E .nil [(5,1000)] (strN row (i+1) l) (λ_ h=>h) E E U
def Ar8(row:ByteArray)(hs:row.size≤100000):Sp 45 [Ap row] (.sl 1 Ap (He [] row.data.toList)):=cT F45 ntmps45 λF hF=>by
 have bh:row.data.toList.length=row.size:=rfl;refine T ?_;refine Sz 3 0 1000 1 Ap E E E E ?_;refine T ?_;refine Cj (λx:List ByteArray×Nat×Nat=>He [] row.data.toList=x.1++He ((row.data.toList.take x.2.2).drop x.2.1) (row.data.toList.drop x.2.2)∧x.2.1≤x.2.2∧x.2.2≤row.size∧x.1.length≤x.2.2)
  (λx=>[(1,.ptr 1 0),(3,.ptr 3 0),(5,.clo (.func 121) [] [.ptr 4 0,.ptr 3 0,.ptr 1 0]),(6,Aa x.2.2)]) (λx=>[(1,.box [Ap row]),(3,.box [.osl 1000]),(4,.box [Aa x.2.1]),(1000,.row 1 Ap x.1)]) (λx=>row.size-x.2.2) ([],0,0) [] ⟨rfl,by simp,by simp,by simp⟩ U ?_
 rintro ⟨l,f,i⟩ ⟨hI,xg,his,hlen⟩;dsimp only at hI xg his hlen⊢;have q:=λi xg hi=>A19 row f i l xg hi q_ q_
 refine T ?_;constructor<;>intro h
 ·have ab:i<row.size:=qA h;have kv:i<row.data.toList.length:=ab;have hb:Bu row i=row.data.toList[i]:=Ae3 kv;have ep:row.data.toList.drop i=row.data.toList[i]::row.data.toList.drop (i+1):=yK kv;have gw:(row.data.toList.take (i+1)).drop f=(row.data.toList.take i).drop f++[row.data.toList[i]]:=by
   rw[yC kv,List.drop_append_of_le_length (by rw[zY];omega)]
  rw[←hb]at ep gw;have q:=q i xg q_;clear h;rw[ep,He]at hI;have hlf:(l++Jc ((row.data.toList.take i).drop f)).length≤i+1:=by
   rw[Jc];split<;>simp<;>omega
  have e0:(row.data.toList.take (i+1)).drop (i+1)=[]:=vI (by rw[zY];omega);have h35:Bu row i=35↔(Bu row i).toNat=35:=⟨λe=>by rw[e];rfl,λe=>UInt8.toNat_inj.1 e⟩
  have h32:Bu row i=32↔(Bu row i).toNat=32:=⟨λe=>by rw[e];rfl,λe=>UInt8.toNat_inj.1 e⟩
  have h9:Bu row i=9↔(Bu row i).toNat=9:=⟨λe=>by rw[e];rfl,λe=>UInt8.toNat_inj.1 e⟩
  by_cases c1:(Bu row i).toNat=35
  ·rw[zE (h35.2 c1)]at hI;rw[hI];refine T ?_;refine X (Au [(1,4),(2,3),(3,1000),(4,1),(5,900)] (Av E E F121) q E W E V) ?_;refine Aj 900 E ?_;exact gB
  ·rw[zD (λe=>c1 (h35.1 e))]at hI;by_cases c2:(Bu row i).toNat=32∨(Bu row i).toNat=9
   ·rw[zE (c2.elim (λe=>.inl (h32.2 e)) (λe=>.inr (h9.2 e)))]at hI;by_cases c3:(Bu row i).toNat=32
    ·refine T ?_;refine X (Au [(1,4),(2,3),(3,1000),(4,1),(5,900)] (Av E E F121) q E W E V) ?_;refine Ax (l++Jc ((row.data.toList.take i).drop f),i+1,i+1) [(1000,900)] ⟨?_,yD _,ab,hlf⟩ (by dsimp only;omega) U;dsimp only;rw[hI,xD,e0]
    ·refine T ?_;refine X (Au [(1,4),(2,3),(3,1000),(4,1),(5,900)] (Av E E F121) q E W E V) ?_;refine Ax (l++Jc ((row.data.toList.take i).drop f),i+1,i+1) [(1000,900)] ⟨?_,yD _,ab,hlf⟩ (by dsimp only;omega) U;dsimp only;rw[hI,xD,e0]
   ·simp only[uL]at c2;rw[zD (by rw[h32,h9];omega)]at hI;refine T ?_;refine Ax (l,f,i+1) [] ⟨?_,by dsimp only;omega,ab,by dsimp only;omega⟩ (by dsimp only;omega) U;dsimp only;rw[hI,gw]
 ·have s4:i=row.size:=qB h;subst s4;have q:=q row.size xg q_;have fu:row.data.toList.drop row.size=[]:=by rw[←bh,wQ]
  rw[fu,He]at hI;rw[hI];clear h;refine T ?_;refine X (Au [(1,4),(2,3),(3,1000),(4,1),(5,900)] (Av E E F121) q E W E V) ?_;refine Aj 900 E ?_;exact gB
def Qa:∀(l cur:List UInt8),(He cur l).length≤l.length+1
 |[],cur=>by rw[He,Jc];split<;>simp
 |c::l,cur=>by
  rw[He];have h1:=Qa l [];have h2:=Qa l (cur++[c]);have h3:(Jc cur).length≤1:=by rw[Jc];split<;>simp
  split
  ·simp;omega
  ·split
   ·simp;omega
   ·simp;omega
def S2:∀(l cur:List UInt8),∀s∈He cur l,s.size≤cur.length+l.length
 |[],cur,s,hs=>by
  rw[He,Jc]at hs;split at hs
  ·cases hs
  ·simp at hs;rw[hs,Is];simp
 |c::l,cur,s,hs=>by
  have h3:∀s∈Jc cur,s.size≤cur.length:=λs hs=>by
   rw[Jc]at hs;split at hs
   ·cases hs
   ·simp at hs;rw[hs,Is];exact yD _
  rw[He]at hs;split at hs
  ·have:=h3 s hs;omega
  ·split at hs
   ·rcases yL.1 hs with hs|hs
    ·have:=h3 s hs;omega
    ·have:=S2 l [] s hs;simp at this⊢;omega
   ·have:=S2 l (cur++[c]) s hs;simp at this⊢;omega
def Agl(row:ByteArray)(hs:row.size≤100000):Sp 18 [Ap row] (.tup [.sl 1 Ap (wordsT row).1,Aa (wordsT row).2]):=cT F18 ntmps18 λF hF=>by
 have q:=Ar8 row hs;have aa:=wordsT.eq_1 row;have hlen:=Qa row.data.toList [];have bh:=S2 row.data.toList [];have hrs:row.data.toList.length=row.size:=rfl;generalize wordsT row=res at *;generalize He [] row.data.toList=l at *;refine gD q F45 ?_;refine Bi l.length (λj=>H8 (λ_ s=>wordB s) l j) (λj=>[(4,.sl 1 Ap l),(9,.sl 1 Ap l),(10,Aa l.length),(11,Aa j)]) (λ_=>[]) [] (Bo _ _) U ?_;intro j hj hI;refine T ?_;constructor<;>intro h
 ·have ab:j<l.length:=qA h;have aq:(j:Int).toNat<l.length:=ab;have dp:=λh=>@all_at' _ wordB l j ab h
  have gy:=λh=>Bl (p:=λ_ s=>wordB s) hI ab h
  have th:=bh l[j] (zJ ab);clear h;refine T ?_;refine C (Az4 (l[(j:Int).toNat]'aq) (by rw[show l[(j:Int).toNat]'aq=l[j] from E];simp at th;omega)) F46 ?_;constructor<;>intro h
  ·have hf:wordB l[j]=false:=by simpa using h
   rw[zD (by rw[dp hf];simp)]at aa;subst aa;refine T ?_;refine An 2 1 Ap E ?_;exact gB
  ·have ht:wordB l[j]=true:=by simpa using h
   refine T ?_;exact Bc [] hI q_ (gy ht) U
 ·have cm:j=l.length:=qB h;subst cm;rw[zE (Acp hI (yD _))]at aa;subst aa;exact gB
end Go.Sy.YtolnneiipmfgaaaGreatDoor
namespace Go.Sy.YtolnneiipmfgaaaGreatDoor
open Go.Proofs Go.Proofs.Tryz
def emptyN:Net:=⟨[],[],[],[],[],[],[],[]⟩
def fitsB(n:Net)(l:LineM)(k:Int):Bool:=l.kind==k&&(Cq l&&Ac n)
def Cg(n:Net)(s:ByteArray):Int:=Br (λd:Device=>d.name==s) n.devices
def Og(n:Net)(dev:Int)(s:ByteArray):Int:=Br (λp:Port=>p.dev==dev&&p.name==s) n.ports
def Alh(n:Net)(dev:Int)(s:ByteArray):Int:=Br (λv:Vrf=>v.dev==dev&&v.name==s) n.vrfs
def putDevice(n:Net)(l:LineM):Net×Int :=
 if fitsB n l 1=false then (emptyN,2) else if n.devices.any (λd=>d.name==l.dev||d.mac==l.mac)=true then (emptyN,30) else if n.devices.length=8 then (emptyN,3)
 else ({n with devices:=n.devices++[⟨l.row,l.num,l.dev,l.mac,0⟩]},0)
def C1(dev:Int)(ds:List Domain)(v:Int):List Domain:=if 0<v∧ds.any (λd=>d.dev==dev&&d.vlan==v)=false then ds++[⟨dev,v,0,-1,0,[]⟩] else ds
def Bk(dev:Int)(ds:List Domain)(l:List Int):List Domain:=l.foldl (C1 dev) ds
def putPort(n:Net)(l:LineM):Net×Int :=
 if fitsB n l 2=false then (emptyN,2) else if Cg n l.dev<0 then (emptyN,31) else if 0≤Og n (Cg n l.dev) l.port then (emptyN,30) else if n.ports.length=40 then (emptyN,3)
 else if 48<(Bk (Cg n l.dev) n.domains (l.vlan::l.tagged)).length then (emptyN,3)
 else ({n with ports:=n.ports++[⟨l.row,Cg n l.dev,l.vlan,l.cost,-1,l.port,l.tagged⟩],domains:=Bk (Cg n l.dev) n.domains (l.vlan::l.tagged)},0)
def endI(n:Net)(dev port:ByteArray):Int:=if Cg n dev<0 then -1 else Og n (Cg n dev) port
def Hr(l:List Port)(i k:Int):List Port:=l.set i.toNat {nth l i with link:=k}
def putLink(n:Net)(l:LineM):Net×Int :=
 if fitsB n l 3=false then (emptyN,2) else
 let a:=endI n l.dev l.port
 let b:=endI n l.peer l.far
 if a<0∨b<0 then (emptyN,31) else if (nth n.ports a).dev=(nth n.ports b).dev∨0≤(nth n.ports a).link∨0≤(nth n.ports b).link then (emptyN,33) else if n.links.length=20 then (emptyN,3)
 else ({n with ports:=Hr (Hr n.ports a n.links.length) b n.links.length,links:=n.links++[⟨l.row,a,b⟩]},0)
def Am8(n:Net)(d mac:Int):Int:=Br (λs:Static=>s.domain==d&&s.mac==mac) n.statics
def putStatic(n:Net)(l:LineM):Net×Int :=
 if fitsB n l 4=false then (emptyN,2) else
 let dev:=Cg n l.dev
 let port:=Og n dev l.port
 let dom:=C5 n dev l.vlan
 if dev<0∨port<0 then (emptyN,31) else if dom<0∨Cw (nth n.ports port) l.vlan=false then (emptyN,32) else if 0≤Am8 n dom l.mac then (emptyN,30) else if n.statics.length=64 then (emptyN,3)
 else ({n with statics:=n.statics++[⟨l.row,dom,port,l.mac⟩]},0)
def C4(n:Net)(a:Int):Int:=Br (λd:Device=>d.vtep==a) n.devices
def Je(n:Net)(dev vni:Int):Int:=Br (λd:Domain=>d.dev==dev&&(d.vni==vni&&vni != 0)) n.domains
def Ef(n:Net)(dev vni:Int):Int:=Br (λf:Flood=>f.dev==dev&&f.vni==vni) n.floods
def begT(n:Net)(l:LineM)(k:Int):Int×Int:=if fitsB n l k=false then (0,2) else if Cg n l.dev<0 then (0,31) else (Cg n l.dev,0)
def Yq(l:List Device)(i a:Int):List Device:=l.set i.toNat {nth l i with vtep:=a}
def putVtep(n:Net)(l:LineM):Net×Int :=
 if (begT n l 5).2≠0 then (emptyN,(begT n l 5).2) else
 let dev:=(begT n l 5).1
 if (nth n.devices dev).vtep≠0∨0≤C4 n l.addr then (emptyN,30) else ({n with devices:=Yq n.devices dev l.addr},0)
def putVni(n:Net)(l:LineM):Net×Int :=
 if (begT n l 6).2≠0 then (emptyN,(begT n l 6).2) else
 let dev:=(begT n l 6).1
 let at_:=C5 n dev l.vlan
 if (nth n.devices dev).vtep=0 then (emptyN,35) else if at_<0 then (emptyN,32) else if (nth n.domains at_).vni≠0∨0≤Je n dev l.num then (emptyN,30)
 else ({n with domains:=n.domains.set at_.toNat {nth n.domains at_ with vni:=l.num,row:=l.row} },0)
def putFlood(n:Net)(l:LineM):Net×Int :=
 if (begT n l 7).2≠0 then (emptyN,(begT n l 7).2) else
 let dev:=(begT n l 7).1
 if Je n dev l.num<0 then (emptyN,31) else if 0≤Ef n dev l.num then (emptyN,30) else if inB l.addrs (nth n.devices dev).vtep=true then (emptyN,36) else if n.floods.length=48 then (emptyN,3)
 else ({n with floods:=n.floods++[⟨l.row,dev,l.num,l.addrs⟩]},0)
def putVrf(n:Net)(l:LineM):Net×Int :=
 if (begT n l 8).2≠0 then (emptyN,(begT n l 8).2) else
 let dev:=(begT n l 8).1
 if 0≤Alh n dev l.name then (emptyN,30) else if n.vrfs.length=16 then (emptyN,3)
 else ({n with vrfs:=n.vrfs++[⟨l.row,dev,l.name,l.imports,l.exports⟩]},0)
def Ab6(a bits x:Int):Bool:=decide (0≤bits)&&(decide (bits≤32)&&I0 a bits==I0 x bits)
def clashB(n:Net)(dev a bits:Int)(x:Irb):Bool:=x.addr==a||((nth n.vrfs x.vrf).dev != dev&&(Ab6 x.addr x.bits a||Ab6 a bits x.addr))
def putIrb(n:Net)(l:LineM):Net×Int :=
 if (begT n l 9).2≠0 then (emptyN,(begT n l 9).2) else
 let dev:=(begT n l 9).1
 let vrf:=Alh n dev l.name
 let at_:=C5 n dev l.vlan
 if vrf<0 then (emptyN,31) else if at_<0 then (emptyN,32) else if 0≤(nth n.domains at_).irb∨n.irbs.any (clashB n dev l.addr l.bits)=true then (emptyN,37)
 else ({n with domains:=n.domains.set at_.toNat {nth n.domains at_ with irb:=n.irbs.length},irbs:=n.irbs++[⟨l.row,at_,vrf,l.addr,l.bits⟩]},0)
def putT(n:Net)(l:LineM):Net×Int :=
 if l.kind=1 then putDevice n l else if l.kind=2 then putPort n l else if l.kind=3 then putLink n l else if l.kind=4 then putStatic n l else if l.kind=5 then putVtep n l
 else if l.kind=6 then putVni n l else if l.kind=7 then putFlood n l else if l.kind=8 then putVrf n l else if l.kind=9 then putIrb n l else (emptyN,2)
def agreeA(n:Net)(f:Flood)(a:Int):Bool :=
 let dev:=C4 n a
 decide (0≤dev) && (a != 0 && (decide (0≤Je n dev f.vni) && (decide (0≤Ef n dev f.vni) &&
  (inB (nth n.floods (Ef n dev f.vni)).addrs (nth n.devices f.dev).vtep && f.addrs.all λ b=>b == a || inB (nth n.floods (Ef n dev f.vni)).addrs b))))
def agreesB(n:Net)(f:Flood):Bool:=decide (0≤Je n f.dev f.vni)&&f.addrs.all (agreeA n f)
def peersT(n:Net)(d:Domain):List Int:=if d.vni≠0∧0≤Ef n d.dev d.vni then (nth n.floods (Ef n d.dev d.vni)).addrs.map (λa=>Je n (C4 n a) d.vni) else []
def Bw(n:Net):Net:={n with domains:=n.domains.map λd=>{d with peers:=peersT n d} }
def meshNT(n:Net):Net×Int×Int :=
 if Ac n=false then (emptyN,0,2) else match n.floods.find? (λf=>!(agreesB n f)) with
 |some f=>(emptyN,f.row,36)
 |none=>if Ac (Bw n)=false then (emptyN,0,36) else (Bw n,0,0)
end Go.Sy.YtolnneiipmfgaaaGreatDoor
